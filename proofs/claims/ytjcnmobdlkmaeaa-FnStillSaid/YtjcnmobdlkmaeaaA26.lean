/-
  Equal lists of numbers.
  Conditions: none.
-/
import Derived.Test.YtjcnmobdlkmaeaaA6
set_option linter.unusedSimpArgs false
set_option linter.unusedVariables false
set_option linter.defProp false
namespace Go.Proofs.Ytjcnmobdlkmaeaa
open Go Go.RowKit
def t_lsameInts_1 : X := (.cond (.t 10) (.seq (.reg [4] (.c (.q 4 [] (.mv (.c (.bool false)))) .nil)) .ret) .skip)
theorem u_lsameInts_1 (P : Program) (k : KT) (e : Env) (w : World) : vcK P t_lsameInts_1 k e w = vcK P (.cond (.t 10) (.seq (.reg [4] (.c (.q 4 [] (.mv (.c (.bool false)))) .nil)) .ret) .skip) k e w := rfl
def t_lsameInts_2 : X := (.cond (.t 24) (.seq (.reg [4] (.c (.q 4 [] (.mv (.c (.bool false)))) .nil)) .ret) .skip)
theorem u_lsameInts_2 (P : Program) (k : KT) (e : Env) (w : World) : vcK P t_lsameInts_2 k e w = vcK P (.cond (.t 24) (.seq (.reg [4] (.c (.q 4 [] (.mv (.c (.bool false)))) .nil)) .ret) .skip) k e w := rfl
def t_lsameInts_3 : X := (.seq (.drw [0, 1, 12, 13, 24] (.c (.q 16 [] (.mv (.t 0))) (.c (.q 17 [] (.mv (.t 5))) (.c (.q 18 [] (.ia 1 (.t 16) (.t 17))) (.c (.q 19 [] (.ld (.t 18))) (.c (.q 20 [] (.mv (.t 1))) (.c (.q 21 [] (.mv (.t 5))) (.c (.q 22 [] (.ia 1 (.t 20) (.t 21))) (.c (.q 23 [] (.ld (.t 22))) (.c (.q 24 [] (.bin .neq (.t 19) (.t 23))) .nil)))))))))) t_lsameInts_2)
theorem u_lsameInts_3 (P : Program) (k : KT) (e : Env) (w : World) : vcK P t_lsameInts_3 k e w = vcK P (.seq (.drw [0, 1, 12, 13, 24] (.c (.q 16 [] (.mv (.t 0))) (.c (.q 17 [] (.mv (.t 5))) (.c (.q 18 [] (.ia 1 (.t 16) (.t 17))) (.c (.q 19 [] (.ld (.t 18))) (.c (.q 20 [] (.mv (.t 1))) (.c (.q 21 [] (.mv (.t 5))) (.c (.q 22 [] (.ia 1 (.t 20) (.t 21))) (.c (.q 23 [] (.ld (.t 22))) (.c (.q 24 [] (.bin .neq (.t 19) (.t 23))) .nil)))))))))) t_lsameInts_2) k e w := rfl
def t_lsameInts_4 : X := (.reg [0, 1, 12, 13] (.c (.q 25 [] (.bin .add (.t 13) (.c (.int .i64 1)))) (.c (.q 13 [] (.mv (.t 25))) .nil)))
theorem u_lsameInts_4 (P : Program) (k : KT) (e : Env) (w : World) : vcK P t_lsameInts_4 k e w = vcK P (.reg [0, 1, 12, 13] (.c (.q 25 [] (.bin .add (.t 13) (.c (.int .i64 1)))) (.c (.q 13 [] (.mv (.t 25))) .nil))) k e w := rfl
def t_lsameInts_5 : X := (.seq (.blk 1 (.seq (.reg [0, 1, 5, 12, 13] (.c (.q 15 [] (.mv (.t 13))) (.c (.q 5 [] (.mv (.t 15))) .nil))) t_lsameInts_3)) t_lsameInts_4)
theorem u_lsameInts_5 (P : Program) (k : KT) (e : Env) (w : World) : vcK P t_lsameInts_5 k e w = vcK P (.seq (.blk 1 (.seq (.reg [0, 1, 5, 12, 13] (.c (.q 15 [] (.mv (.t 13))) (.c (.q 5 [] (.mv (.t 15))) .nil))) t_lsameInts_3)) t_lsameInts_4) k e w := rfl
def t_lsameInts_6 : X := (.seq (.cond (.t 14) .skip (.exit 0)) t_lsameInts_5)
theorem u_lsameInts_6 (P : Program) (k : KT) (e : Env) (w : World) : vcK P t_lsameInts_6 k e w = vcK P (.seq (.cond (.t 14) .skip (.exit 0)) t_lsameInts_5) k e w := rfl
def t_lsameInts_7 : X := (.seq (.reg [0, 1, 12, 13, 14] (.c (.q 14 [] (.bin .lss (.t 13) (.t 12))) .nil)) t_lsameInts_6)
theorem u_lsameInts_7 (P : Program) (k : KT) (e : Env) (w : World) : vcK P t_lsameInts_7 k e w = vcK P (.seq (.reg [0, 1, 12, 13, 14] (.c (.q 14 [] (.bin .lss (.t 13) (.t 12))) .nil)) t_lsameInts_6) k e w := rfl
def t_lsameInts_8 : X := (.blk 0 (.loop [13] [0, 1, 12] t_lsameInts_7))
theorem u_lsameInts_8 (P : Program) (k : KT) (e : Env) (w : World) : vcK P t_lsameInts_8 k e w = vcK P (.blk 0 (.loop [13] [0, 1, 12] t_lsameInts_7)) k e w := rfl
def t_lsameInts_9 : X := (.seq (.reg [4] (.c (.q 4 [] (.mv (.c (.bool true)))) .nil)) .ret)
theorem u_lsameInts_9 (P : Program) (k : KT) (e : Env) (w : World) : vcK P t_lsameInts_9 k e w = vcK P (.seq (.reg [4] (.c (.q 4 [] (.mv (.c (.bool true)))) .nil)) .ret) k e w := rfl
def t_lsameInts_10 : X := (.seq (.seq (.reg [0, 1, 12, 13] (.c (.q 11 [] (.mv (.t 0))) (.c (.q 12 [] (.lens (.t 11))) (.c (.q 13 [] (.mv (.c (.int .i64 0)))) .nil)))) t_lsameInts_8) t_lsameInts_9)
theorem u_lsameInts_10 (P : Program) (k : KT) (e : Env) (w : World) : vcK P t_lsameInts_10 k e w = vcK P (.seq (.seq (.reg [0, 1, 12, 13] (.c (.q 11 [] (.mv (.t 0))) (.c (.q 12 [] (.lens (.t 11))) (.c (.q 13 [] (.mv (.c (.int .i64 0)))) .nil)))) t_lsameInts_8) t_lsameInts_9) k e w := rfl
def t_lsameInts_11 : X := (.seq (.seq (.reg [0, 1, 10] (.c (.q 6 [] (.mv (.t 0))) (.c (.q 7 [] (.lens (.t 6))) (.c (.q 8 [] (.mv (.t 1))) (.c (.q 9 [] (.lens (.t 8))) (.c (.q 10 [] (.bin .neq (.t 7) (.t 9))) .nil)))))) t_lsameInts_1) t_lsameInts_10)
theorem u_lsameInts_11 (P : Program) (k : KT) (e : Env) (w : World) : vcK P t_lsameInts_11 k e w = vcK P (.seq (.seq (.reg [0, 1, 10] (.c (.q 6 [] (.mv (.t 0))) (.c (.q 7 [] (.lens (.t 6))) (.c (.q 8 [] (.mv (.t 1))) (.c (.q 9 [] (.lens (.t 8))) (.c (.q 10 [] (.bin .neq (.t 7) (.t 9))) .nil)))))) t_lsameInts_1) t_lsameInts_10) k e w := rfl
def x_lsameInts : X := (.seq (.reg [0, 1] (.c (.q 4 [] (.mv (.c (.bool false)))) .nil)) t_lsameInts_11)
theorem u_lsameInts (P : Program) (k : KT) (e : Env) (w : World) : vcK P x_lsameInts k e w = vcK P (.seq (.reg [0, 1] (.c (.q 4 [] (.mv (.c (.bool false)))) .nil)) t_lsameInts_11) k e w := rfl
def r_lsameInts : List XO := [(.mv (.t 4))]
theorem c_lsameInts : convF Try.prog [145, 147, 148, 149, 158, 205, 206, 232, 234, 247, 248, 256, 261, 283, 284, 299, 300, 307] Try.f52 [([0, 1], []), ([0, 1, 10], []), ([4], []), ([0, 1, 12, 13], []), ([13], [0, 1, 12]), ([0, 1, 12, 13, 14], []), ([0, 1, 5, 12, 13], []), ([0, 1, 12, 13, 24], []), ([4], []), ([0, 1, 12, 13], []), ([4], [])] = some (x_lsameInts, r_lsameInts) := by kernel_rfl
def us_lsameInts := And.intro @u_lsameInts (And.intro @u_lsameInts_1 (And.intro @u_lsameInts_2 (And.intro @u_lsameInts_3 (And.intro @u_lsameInts_4 (And.intro @u_lsameInts_5 (And.intro @u_lsameInts_6 (And.intro @u_lsameInts_7 (And.intro @u_lsameInts_8 (And.intro @u_lsameInts_9 (And.intro @u_lsameInts_10 @u_lsameInts_11))))))))))

theorem lsameInts_ok (v1 v2 : Value) (l1 l2 : List Int) (w : World) (h1 : Sq fI 1 w v1 l1) (h2 : Sq fI 1 w v2 l2) (hl : l1.length ≤ 1000000000) : Fn 52 [v1, v2] w (fun v _ => v = .bool (decide (l1 = l2))) := by
  (refine callsV_of mix Try.func52 c_lsameInts ?_; simp only [↓vsd, vsn, gW, qd, qv, ev, pick, argE, List.map_cons, List.map_nil, Option.map_some, Option.map_none, zipE, List.cons_append, List.nil_append, ne_eq, eq_self, forall_const, implies_true, if_true, if_false, reduceIte, List.cons.injEq, reduceCtorEq, Nat.reduceEqDiff, List.length_nil, List.length_cons, Nat.reduceAdd, Nat.reduceLT, List.set_cons_zero, List.set_cons_succ, ↓us_lsameInts, r_lsameInts])
  simp only [↓vsd, vsn, gW, qd, qv, ev, pick, argE, List.map_cons, List.map_nil, Option.map_some, Option.map_none, zipE, List.cons_append, List.nil_append, ne_eq, eq_self, forall_const, implies_true, if_true, if_false, reduceIte, List.cons.injEq, reduceCtorEq, Nat.reduceEqDiff, List.length_nil, List.length_cons, Nat.reduceAdd, Nat.reduceLT, List.set_cons_zero, List.set_cons_succ, ↓us_lsameInts, r_lsameInts, h1.facts, h2.facts]
  refine ⟨fun hne => ⟨Ext.refl _, by have : ¬ l1 = l2 := fun e => hne (by rw [e]); simp [this]⟩, fun he => ?_⟩
  have he : l1.length = l2.length := by omega
  refine m_upto l1.length (fun k vs w' => vs = [.int .i64 k] ∧ l1.take k = l2.take k ∧ Ext w w') ⟨rfl, by simp, Ext.refl _⟩ ?_
  rintro k vs w1 hk ⟨rfl, hall, hx⟩
  have hq1 := h1.ext hx
  have hq2 := h2.ext hx
  by_cases hlt : k < l1.length
  · have hltI : (k : Int) < l1.length := by omega
    have hltJ : ¬ (l1.length : Int) ≤ k := by omega
    have hlt2 : k < l2.length := by omega
    have hltK : (k : Int) < l2.length := by omega
    simp only [↓vsd, vsn, gW, qd, qv, ev, pick, argE, List.map_cons, List.map_nil, Option.map_some, Option.map_none, zipE, List.cons_append, List.nil_append, ne_eq, eq_self, forall_const, implies_true, if_true, if_false, reduceIte, List.cons.injEq, reduceCtorEq, Nat.reduceEqDiff, List.length_nil, List.length_cons, Nat.reduceAdd, Nat.reduceLT, List.set_cons_zero, List.set_cons_succ, ↓us_lsameInts, r_lsameInts, hq1.facts, hq2.facts, hltI, hltJ, hltK, hq1.at1 0 hlt, hq2.at1 0 hlt2]
    refine ⟨by omega, by omega, fun hne => ⟨hx, by simp [ne_at k hne]⟩, fun he => ⟨inR_i64 (by omega), UpTo.next hlt ⟨rfl, eq_take hall hlt hlt2 he, by first | exact hx | exact dr hx⟩⟩⟩
  · obtain rfl : k = l1.length := by omega
    have hltI : ¬ (l1.length : Int) < l1.length := by omega
    simp only [↓vsd, vsn, gW, qd, qv, ev, pick, argE, List.map_cons, List.map_nil, Option.map_some, Option.map_none, zipE, List.cons_append, List.nil_append, ne_eq, eq_self, forall_const, implies_true, if_true, if_false, reduceIte, List.cons.injEq, reduceCtorEq, Nat.reduceEqDiff, List.length_nil, List.length_cons, Nat.reduceAdd, Nat.reduceLT, List.set_cons_zero, List.set_cons_succ, ↓us_lsameInts, r_lsameInts, hq1.facts, hltI]
    exact ⟨hx, by simp [eq_len hall he]⟩
end Go.Proofs.Ytjcnmobdlkmaeaa
