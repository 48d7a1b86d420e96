/-
  Counting the rows that fit a pattern; the call of the law FnExactCountFits.
  Conditions: none.
-/
import Derived.Test.YtjcnmobdlkmaeaaA3
import Derived.Test.YtjcnmobdlkmaeaaA6
set_option linter.unusedSimpArgs false
set_option linter.unusedVariables false
set_option linter.defProp false
namespace Go.Proofs.Ytjcnmobdlkmaeaa
open Go Go.RowKit
def t_icountFits_1 : X := (.cond (.t 16) (.reg [0, 5, 8, 9, 10] (.c (.q 17 [] (.mv (.t 5))) (.c (.q 18 [] (.bin .add (.t 17) (.c (.int .i64 1)))) (.c (.q 5 [] (.mv (.t 18))) .nil)))) .skip)
theorem u_icountFits_1 (P : Program) (k : KT) (e : Env) (w : World) : vcK P t_icountFits_1 k e w = vcK P (.cond (.t 16) (.reg [0, 5, 8, 9, 10] (.c (.q 17 [] (.mv (.t 5))) (.c (.q 18 [] (.bin .add (.t 17) (.c (.int .i64 1)))) (.c (.q 5 [] (.mv (.t 18))) .nil)))) .skip) k e w := rfl
def t_icountFits_2 : X := (.seq (.reg [0, 5, 8, 9, 10, 16] (.c (.q 14 [] (.mv (.t 0))) (.c (.q 15 [] (.mv (.t 7))) (.c (.e (some 16) [] (.call false 310 [(.t 14), (.t 15)])) .nil)))) t_icountFits_1)
theorem u_icountFits_2 (P : Program) (k : KT) (e : Env) (w : World) : vcK P t_icountFits_2 k e w = vcK P (.seq (.reg [0, 5, 8, 9, 10, 16] (.c (.q 14 [] (.mv (.t 0))) (.c (.q 15 [] (.mv (.t 7))) (.c (.e (some 16) [] (.call false 310 [(.t 14), (.t 15)])) .nil)))) t_icountFits_1) k e w := rfl
def t_icountFits_3 : X := (.reg [0, 5, 8, 9, 10] (.c (.q 19 [] (.bin .add (.t 10) (.c (.int .i64 1)))) (.c (.q 10 [] (.mv (.t 19))) .nil)))
theorem u_icountFits_3 (P : Program) (k : KT) (e : Env) (w : World) : vcK P t_icountFits_3 k e w = vcK P (.reg [0, 5, 8, 9, 10] (.c (.q 19 [] (.bin .add (.t 10) (.c (.int .i64 1)))) (.c (.q 10 [] (.mv (.t 19))) .nil))) k e w := rfl
def t_icountFits_4 : X := (.seq (.blk 1 (.seq (.reg [0, 5, 7, 8, 9, 10] (.c (.q 12 [] (.ia 1 (.t 8) (.t 10))) (.c (.q 13 [] (.ld (.t 12))) (.c (.q 7 [] (.mv (.t 13))) .nil)))) t_icountFits_2)) t_icountFits_3)
theorem u_icountFits_4 (P : Program) (k : KT) (e : Env) (w : World) : vcK P t_icountFits_4 k e w = vcK P (.seq (.blk 1 (.seq (.reg [0, 5, 7, 8, 9, 10] (.c (.q 12 [] (.ia 1 (.t 8) (.t 10))) (.c (.q 13 [] (.ld (.t 12))) (.c (.q 7 [] (.mv (.t 13))) .nil)))) t_icountFits_2)) t_icountFits_3) k e w := rfl
def t_icountFits_5 : X := (.seq (.cond (.t 11) .skip (.exit 0)) t_icountFits_4)
theorem u_icountFits_5 (P : Program) (k : KT) (e : Env) (w : World) : vcK P t_icountFits_5 k e w = vcK P (.seq (.cond (.t 11) .skip (.exit 0)) t_icountFits_4) k e w := rfl
def t_icountFits_6 : X := (.seq (.reg [0, 5, 8, 9, 10, 11] (.c (.q 11 [] (.bin .lss (.t 10) (.t 9))) .nil)) t_icountFits_5)
theorem u_icountFits_6 (P : Program) (k : KT) (e : Env) (w : World) : vcK P t_icountFits_6 k e w = vcK P (.seq (.reg [0, 5, 8, 9, 10, 11] (.c (.q 11 [] (.bin .lss (.t 10) (.t 9))) .nil)) t_icountFits_5) k e w := rfl
def t_icountFits_7 : X := (.blk 0 (.loop [5, 10] [0, 8, 9] t_icountFits_6))
theorem u_icountFits_7 (P : Program) (k : KT) (e : Env) (w : World) : vcK P t_icountFits_7 k e w = vcK P (.blk 0 (.loop [5, 10] [0, 8, 9] t_icountFits_6)) k e w := rfl
def t_icountFits_8 : X := (.seq (.reg [4] (.c (.q 20 [] (.mv (.t 5))) (.c (.q 4 [] (.mv (.t 20))) .nil))) .ret)
theorem u_icountFits_8 (P : Program) (k : KT) (e : Env) (w : World) : vcK P t_icountFits_8 k e w = vcK P (.seq (.reg [4] (.c (.q 20 [] (.mv (.t 5))) (.c (.q 4 [] (.mv (.t 20))) .nil))) .ret) k e w := rfl
def t_icountFits_9 : X := (.seq (.seq (.reg [0, 5, 8, 9, 10] (.c (.q 8 [] (.mv (.t 1))) (.c (.q 9 [] (.lens (.t 8))) (.c (.q 10 [] (.mv (.c (.int .i64 0)))) .nil)))) t_icountFits_7) t_icountFits_8)
theorem u_icountFits_9 (P : Program) (k : KT) (e : Env) (w : World) : vcK P t_icountFits_9 k e w = vcK P (.seq (.seq (.reg [0, 5, 8, 9, 10] (.c (.q 8 [] (.mv (.t 1))) (.c (.q 9 [] (.lens (.t 8))) (.c (.q 10 [] (.mv (.c (.int .i64 0)))) .nil)))) t_icountFits_7) t_icountFits_8) k e w := rfl
def t_icountFits_10 : X := (.seq (.reg [0, 1, 5] (.c (.q 5 [] (.mv (.c (.int .i64 0)))) .nil)) t_icountFits_9)
theorem u_icountFits_10 (P : Program) (k : KT) (e : Env) (w : World) : vcK P t_icountFits_10 k e w = vcK P (.seq (.reg [0, 1, 5] (.c (.q 5 [] (.mv (.c (.int .i64 0)))) .nil)) t_icountFits_9) k e w := rfl
def x_icountFits : X := (.seq (.reg [0, 1] (.c (.q 4 [] (.mv (.c (.int .i64 0)))) .nil)) t_icountFits_10)
theorem u_icountFits (P : Program) (k : KT) (e : Env) (w : World) : vcK P x_icountFits k e w = vcK P (.seq (.reg [0, 1] (.c (.q 4 [] (.mv (.c (.int .i64 0)))) .nil)) t_icountFits_10) k e w := rfl
def r_icountFits : List XO := [(.mv (.t 4))]
theorem c_icountFits : convF Try.prog [145, 147, 148, 149, 158, 205, 206, 232, 234, 247, 248, 256, 261, 283, 284, 299, 300, 307] Try.f290 [([0, 1], []), ([0, 1, 5], []), ([0, 5, 8, 9, 10], []), ([5, 10], [0, 8, 9]), ([0, 5, 8, 9, 10, 11], []), ([0, 5, 7, 8, 9, 10], []), ([0, 5, 8, 9, 10, 16], []), ([0, 5, 8, 9, 10], []), ([0, 5, 8, 9, 10], []), ([4], [])] = some (x_icountFits, r_icountFits) := by kernel_rfl
def us_icountFits := And.intro @u_icountFits (And.intro @u_icountFits_1 (And.intro @u_icountFits_2 (And.intro @u_icountFits_3 (And.intro @u_icountFits_4 (And.intro @u_icountFits_5 (And.intro @u_icountFits_6 (And.intro @u_icountFits_7 (And.intro @u_icountFits_8 (And.intro @u_icountFits_9 @u_icountFits_10)))))))))
def t_sl16Count_1 : X := (.cond (.t 16) (.reg [0, 5, 8, 9, 10] (.c (.q 17 [] (.mv (.t 5))) (.c (.q 18 [] (.bin .add (.t 17) (.c (.int .i64 1)))) (.c (.q 5 [] (.mv (.t 18))) .nil)))) .skip)
theorem u_sl16Count_1 (P : Program) (k : KT) (e : Env) (w : World) : vcK P t_sl16Count_1 k e w = vcK P (.cond (.t 16) (.reg [0, 5, 8, 9, 10] (.c (.q 17 [] (.mv (.t 5))) (.c (.q 18 [] (.bin .add (.t 17) (.c (.int .i64 1)))) (.c (.q 5 [] (.mv (.t 18))) .nil)))) .skip) k e w := rfl
def t_sl16Count_2 : X := (.seq (.reg [0, 5, 8, 9, 10, 16] (.c (.q 14 [] (.mv (.t 0))) (.c (.q 15 [] (.mv (.t 7))) (.c (.e (some 16) [] (.call false 309 [(.t 14), (.t 15)])) .nil)))) t_sl16Count_1)
theorem u_sl16Count_2 (P : Program) (k : KT) (e : Env) (w : World) : vcK P t_sl16Count_2 k e w = vcK P (.seq (.reg [0, 5, 8, 9, 10, 16] (.c (.q 14 [] (.mv (.t 0))) (.c (.q 15 [] (.mv (.t 7))) (.c (.e (some 16) [] (.call false 309 [(.t 14), (.t 15)])) .nil)))) t_sl16Count_1) k e w := rfl
def t_sl16Count_3 : X := (.reg [0, 5, 8, 9, 10] (.c (.q 19 [] (.bin .add (.t 10) (.c (.int .i64 1)))) (.c (.q 10 [] (.mv (.t 19))) .nil)))
theorem u_sl16Count_3 (P : Program) (k : KT) (e : Env) (w : World) : vcK P t_sl16Count_3 k e w = vcK P (.reg [0, 5, 8, 9, 10] (.c (.q 19 [] (.bin .add (.t 10) (.c (.int .i64 1)))) (.c (.q 10 [] (.mv (.t 19))) .nil))) k e w := rfl
def t_sl16Count_4 : X := (.seq (.blk 1 (.seq (.reg [0, 5, 7, 8, 9, 10] (.c (.q 12 [] (.ia 1 (.t 8) (.t 10))) (.c (.q 13 [] (.ld (.t 12))) (.c (.q 7 [] (.mv (.t 13))) .nil)))) t_sl16Count_2)) t_sl16Count_3)
theorem u_sl16Count_4 (P : Program) (k : KT) (e : Env) (w : World) : vcK P t_sl16Count_4 k e w = vcK P (.seq (.blk 1 (.seq (.reg [0, 5, 7, 8, 9, 10] (.c (.q 12 [] (.ia 1 (.t 8) (.t 10))) (.c (.q 13 [] (.ld (.t 12))) (.c (.q 7 [] (.mv (.t 13))) .nil)))) t_sl16Count_2)) t_sl16Count_3) k e w := rfl
def t_sl16Count_5 : X := (.seq (.cond (.t 11) .skip (.exit 0)) t_sl16Count_4)
theorem u_sl16Count_5 (P : Program) (k : KT) (e : Env) (w : World) : vcK P t_sl16Count_5 k e w = vcK P (.seq (.cond (.t 11) .skip (.exit 0)) t_sl16Count_4) k e w := rfl
def t_sl16Count_6 : X := (.seq (.reg [0, 5, 8, 9, 10, 11] (.c (.q 11 [] (.bin .lss (.t 10) (.t 9))) .nil)) t_sl16Count_5)
theorem u_sl16Count_6 (P : Program) (k : KT) (e : Env) (w : World) : vcK P t_sl16Count_6 k e w = vcK P (.seq (.reg [0, 5, 8, 9, 10, 11] (.c (.q 11 [] (.bin .lss (.t 10) (.t 9))) .nil)) t_sl16Count_5) k e w := rfl
def t_sl16Count_7 : X := (.blk 0 (.loop [5, 10] [0, 8, 9] t_sl16Count_6))
theorem u_sl16Count_7 (P : Program) (k : KT) (e : Env) (w : World) : vcK P t_sl16Count_7 k e w = vcK P (.blk 0 (.loop [5, 10] [0, 8, 9] t_sl16Count_6)) k e w := rfl
def t_sl16Count_8 : X := (.seq (.reg [4] (.c (.q 20 [] (.mv (.t 5))) (.c (.q 4 [] (.mv (.t 20))) .nil))) .ret)
theorem u_sl16Count_8 (P : Program) (k : KT) (e : Env) (w : World) : vcK P t_sl16Count_8 k e w = vcK P (.seq (.reg [4] (.c (.q 20 [] (.mv (.t 5))) (.c (.q 4 [] (.mv (.t 20))) .nil))) .ret) k e w := rfl
def t_sl16Count_9 : X := (.seq (.seq (.reg [0, 5, 8, 9, 10] (.c (.q 8 [] (.mv (.t 1))) (.c (.q 9 [] (.lens (.t 8))) (.c (.q 10 [] (.mv (.c (.int .i64 0)))) .nil)))) t_sl16Count_7) t_sl16Count_8)
theorem u_sl16Count_9 (P : Program) (k : KT) (e : Env) (w : World) : vcK P t_sl16Count_9 k e w = vcK P (.seq (.seq (.reg [0, 5, 8, 9, 10] (.c (.q 8 [] (.mv (.t 1))) (.c (.q 9 [] (.lens (.t 8))) (.c (.q 10 [] (.mv (.c (.int .i64 0)))) .nil)))) t_sl16Count_7) t_sl16Count_8) k e w := rfl
def t_sl16Count_10 : X := (.seq (.reg [0, 1, 5] (.c (.q 5 [] (.mv (.c (.int .i64 0)))) .nil)) t_sl16Count_9)
theorem u_sl16Count_10 (P : Program) (k : KT) (e : Env) (w : World) : vcK P t_sl16Count_10 k e w = vcK P (.seq (.reg [0, 1, 5] (.c (.q 5 [] (.mv (.c (.int .i64 0)))) .nil)) t_sl16Count_9) k e w := rfl
def x_sl16Count : X := (.seq (.reg [0, 1] (.c (.q 4 [] (.mv (.c (.int .i64 0)))) .nil)) t_sl16Count_10)
theorem u_sl16Count (P : Program) (k : KT) (e : Env) (w : World) : vcK P x_sl16Count k e w = vcK P (.seq (.reg [0, 1] (.c (.q 4 [] (.mv (.c (.int .i64 0)))) .nil)) t_sl16Count_10) k e w := rfl
def r_sl16Count : List XO := [(.mv (.t 4))]
theorem c_sl16Count : convF Try.prog [145, 147, 148, 149, 158, 205, 206, 232, 234, 247, 248, 256, 261, 283, 284, 299, 300, 307] Try.f288 [([0, 1], []), ([0, 1, 5], []), ([0, 5, 8, 9, 10], []), ([5, 10], [0, 8, 9]), ([0, 5, 8, 9, 10, 11], []), ([0, 5, 7, 8, 9, 10], []), ([0, 5, 8, 9, 10, 16], []), ([0, 5, 8, 9, 10], []), ([0, 5, 8, 9, 10], []), ([4], [])] = some (x_sl16Count, r_sl16Count) := by kernel_rfl
def us_sl16Count := And.intro @u_sl16Count (And.intro @u_sl16Count_1 (And.intro @u_sl16Count_2 (And.intro @u_sl16Count_3 (And.intro @u_sl16Count_4 (And.intro @u_sl16Count_5 (And.intro @u_sl16Count_6 (And.intro @u_sl16Count_7 (And.intro @u_sl16Count_8 (And.intro @u_sl16Count_9 @u_sl16Count_10)))))))))

/-- How many rows fit. -/
def countL (p : List UInt8) (l : List (List UInt8)) : Nat := (l.filter (fitsL p)).length
theorem countL_le (p : List UInt8) (l : List (List UInt8)) : countL p l ≤ l.length := List.length_filter_le _ _
theorem countL_succ (p : List UInt8) (l : List (List UInt8)) (k : Nat) (h : k < l.length) : countL p (l.take (k + 1)) = countL p (l.take k) + if fitsL p (l.getD k []) then 1 else 0 := by
  unfold countL
  rw [List.take_add_one, List.getElem?_eq_getElem h, List.filter_append, List.length_append, List.getD_eq_getElem?_getD, List.getElem?_eq_getElem h]
  simp only [Option.toList_some, Option.getD_some, List.filter_cons, List.filter_nil]
  split <;> simp_all
theorem icountFits_ok (p : List UInt8) (v : Value) (l : List (List UInt8)) (hl : l.length ≤ 1000000000) (w : World) (h : Sq fS 1 w v l) : Fn 290 [S p, v] w (fun v _ => v = .int .i64 (countL p l : Nat)) := by
  (refine callsV_of mix Try.func290 c_icountFits ?_; simp only [↓vsd, vsn, gW, qd, qv, ev, pick, argE, List.map_cons, List.map_nil, Option.map_some, Option.map_none, zipE, List.cons_append, List.nil_append, ne_eq, eq_self, forall_const, implies_true, if_true, if_false, reduceIte, List.cons.injEq, reduceCtorEq, Nat.reduceEqDiff, List.length_nil, List.length_cons, Nat.reduceAdd, Nat.reduceLT, List.set_cons_zero, List.set_cons_succ, ↓us_icountFits, r_icountFits])
  simp only [↓vsd, vsn, gW, qd, qv, ev, pick, argE, List.map_cons, List.map_nil, Option.map_some, Option.map_none, zipE, List.cons_append, List.nil_append, ne_eq, eq_self, forall_const, implies_true, if_true, if_false, reduceIte, List.cons.injEq, reduceCtorEq, Nat.reduceEqDiff, List.length_nil, List.length_cons, Nat.reduceAdd, Nat.reduceLT, List.set_cons_zero, List.set_cons_succ, ↓us_icountFits, r_icountFits, h.facts]
  refine m_upto l.length (fun k vs w' => vs = [.int .i64 (countL p (l.take k) : Nat), .int .i64 k] ∧ Ext w w') ⟨rfl, Ext.refl _⟩ ?_
  rintro k vs w1 hk ⟨rfl, hx⟩
  have hq := h.ext hx
  have hc := countL_le p (l.take k)
  have hc2 : (l.take k).length ≤ l.length := by simp; omega
  by_cases hlt : k < l.length
  · have hltI : (k : Int) < l.length := by omega
    have hltJ : ¬ (l.length : Int) ≤ k := by omega
    have hcs := countL_succ p l k hlt
    simp only [↓vsd, vsn, gW, qd, qv, ev, pick, argE, List.map_cons, List.map_nil, Option.map_some, Option.map_none, zipE, List.cons_append, List.nil_append, ne_eq, eq_self, forall_const, implies_true, if_true, if_false, reduceIte, List.cons.injEq, reduceCtorEq, Nat.reduceEqDiff, List.length_nil, List.length_cons, Nat.reduceAdd, Nat.reduceLT, List.set_cons_zero, List.set_cons_succ, ↓us_icountFits, r_icountFits, hq.facts, hq.at1 [] hlt, hltI, hltJ]
    refine ⟨by omega, m_call (ifits_ok _ _ _ (Nat.le_refl _) _) ?_⟩
    rintro _ w2 hx2 rfl
    simp only [↓vsd, vsn, gW, qd, qv, ev, pick, argE, List.map_cons, List.map_nil, Option.map_some, Option.map_none, zipE, List.cons_append, List.nil_append, ne_eq, eq_self, forall_const, implies_true, if_true, if_false, reduceIte, List.cons.injEq, reduceCtorEq, Nat.reduceEqDiff, List.length_nil, List.length_cons, Nat.reduceAdd, Nat.reduceLT, List.set_cons_zero, List.set_cons_succ, ↓us_icountFits, r_icountFits]
    refine ⟨fun hy => ⟨inR_i64 (by omega), inR_i64 (by omega), UpTo.next hlt ⟨by rw [hcs, if_pos hy]; rfl, hx.trans hx2⟩⟩, fun hn => ⟨inR_i64 (by omega), UpTo.next hlt ⟨by rw [hcs, if_neg hn]; rfl, hx.trans hx2⟩⟩⟩
  · obtain rfl : k = l.length := by omega
    have hltI : ¬ (l.length : Int) < l.length := by omega
    simp only [↓vsd, vsn, gW, qd, qv, ev, pick, argE, List.map_cons, List.map_nil, Option.map_some, Option.map_none, zipE, List.cons_append, List.nil_append, ne_eq, eq_self, forall_const, implies_true, if_true, if_false, reduceIte, List.cons.injEq, reduceCtorEq, Nat.reduceEqDiff, List.length_nil, List.length_cons, Nat.reduceAdd, Nat.reduceLT, List.set_cons_zero, List.set_cons_succ, ↓us_icountFits, r_icountFits, hq.facts, hltI]
    exact ⟨hx, by rw [List.take_length]⟩
theorem sl16Count_ok (p : List UInt8) (v : Value) (l : List (List UInt8)) (hl : l.length ≤ 1000000000) (w : World) (h : Sq fS 1 w v l) : Fn 288 [S p, v] w (fun v _ => v = .int .i64 (countL p l : Nat)) := by
  (refine callsV_of mix Try.func288 c_sl16Count ?_; simp only [↓vsd, vsn, gW, qd, qv, ev, pick, argE, List.map_cons, List.map_nil, Option.map_some, Option.map_none, zipE, List.cons_append, List.nil_append, ne_eq, eq_self, forall_const, implies_true, if_true, if_false, reduceIte, List.cons.injEq, reduceCtorEq, Nat.reduceEqDiff, List.length_nil, List.length_cons, Nat.reduceAdd, Nat.reduceLT, List.set_cons_zero, List.set_cons_succ, ↓us_sl16Count, r_sl16Count])
  simp only [↓vsd, vsn, gW, qd, qv, ev, pick, argE, List.map_cons, List.map_nil, Option.map_some, Option.map_none, zipE, List.cons_append, List.nil_append, ne_eq, eq_self, forall_const, implies_true, if_true, if_false, reduceIte, List.cons.injEq, reduceCtorEq, Nat.reduceEqDiff, List.length_nil, List.length_cons, Nat.reduceAdd, Nat.reduceLT, List.set_cons_zero, List.set_cons_succ, ↓us_sl16Count, r_sl16Count, h.facts]
  refine m_upto l.length (fun k vs w' => vs = [.int .i64 (countL p (l.take k) : Nat), .int .i64 k] ∧ Ext w w') ⟨rfl, Ext.refl _⟩ ?_
  rintro k vs w1 hk ⟨rfl, hx⟩
  have hq := h.ext hx
  have hc := countL_le p (l.take k)
  have hc2 : (l.take k).length ≤ l.length := by simp; omega
  by_cases hlt : k < l.length
  · have hltI : (k : Int) < l.length := by omega
    have hltJ : ¬ (l.length : Int) ≤ k := by omega
    have hcs := countL_succ p l k hlt
    simp only [↓vsd, vsn, gW, qd, qv, ev, pick, argE, List.map_cons, List.map_nil, Option.map_some, Option.map_none, zipE, List.cons_append, List.nil_append, ne_eq, eq_self, forall_const, implies_true, if_true, if_false, reduceIte, List.cons.injEq, reduceCtorEq, Nat.reduceEqDiff, List.length_nil, List.length_cons, Nat.reduceAdd, Nat.reduceLT, List.set_cons_zero, List.set_cons_succ, ↓us_sl16Count, r_sl16Count, hq.facts, hq.at1 [] hlt, hltI, hltJ]
    refine ⟨by omega, m_call (sl16Fits_ok _ _ _ (Nat.le_refl _) _) ?_⟩
    rintro _ w2 hx2 rfl
    simp only [↓vsd, vsn, gW, qd, qv, ev, pick, argE, List.map_cons, List.map_nil, Option.map_some, Option.map_none, zipE, List.cons_append, List.nil_append, ne_eq, eq_self, forall_const, implies_true, if_true, if_false, reduceIte, List.cons.injEq, reduceCtorEq, Nat.reduceEqDiff, List.length_nil, List.length_cons, Nat.reduceAdd, Nat.reduceLT, List.set_cons_zero, List.set_cons_succ, ↓us_sl16Count, r_sl16Count]
    refine ⟨fun hy => ⟨inR_i64 (by omega), inR_i64 (by omega), UpTo.next hlt ⟨by rw [hcs, if_pos hy]; rfl, hx.trans hx2⟩⟩, fun hn => ⟨inR_i64 (by omega), UpTo.next hlt ⟨by rw [hcs, if_neg hn]; rfl, hx.trans hx2⟩⟩⟩
  · obtain rfl : k = l.length := by omega
    have hltI : ¬ (l.length : Int) < l.length := by omega
    simp only [↓vsd, vsn, gW, qd, qv, ev, pick, argE, List.map_cons, List.map_nil, Option.map_some, Option.map_none, zipE, List.cons_append, List.nil_append, ne_eq, eq_self, forall_const, implies_true, if_true, if_false, reduceIte, List.cons.injEq, reduceCtorEq, Nat.reduceEqDiff, List.length_nil, List.length_cons, Nat.reduceAdd, Nat.reduceLT, List.set_cons_zero, List.set_cons_succ, ↓us_sl16Count, r_sl16Count, hq.facts, hltI]
    exact ⟨hx, by rw [List.take_length]⟩
def countV (p : List UInt8) (l : List (List UInt8)) : Value := if IsPat p ∧ IsRows l then .tuple ⟨[.int .i64 (countL p l : Nat), .bool true]⟩ else .tuple ⟨[.int .i64 0, .bool false]⟩
end Go.Proofs.Ytjcnmobdlkmaeaa
