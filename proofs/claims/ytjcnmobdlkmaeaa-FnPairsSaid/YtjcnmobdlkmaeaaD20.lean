/-
  Draws of rows with changes and of stages with changes.
  Conditions: none.
-/
import Derived.Test.YtjcnmobdlkmaeaaD19
import Derived.Test.YtjcnmobdlkmaeaaD3
set_option linter.unusedSimpArgs false
set_option linter.unusedVariables false
set_option linter.defProp false
namespace Go.Proofs.Ytjcnmobdlkmaeaa
open Go Go.RowKit
def t_sl1Cur_staged_1 : X := (.cond (.t 8) (.seq (.reg [2, 3] (.c (.q 9 [] (.mv (.t 4))) (.c (.q 10 [] (.mv (.t 0))) (.c (.e (some 11) [] (.call true 206 [(.t 10), (.c (.int .i64 2))])) (.c (.q 12 [] (.bin .mul (.t 11) (.c (.int .i64 6)))) (.c (.q 13 [] (.bin .add (.t 9) (.t 12))) (.c (.q 14 [] (.mv (.t 0))) (.c (.e (some 15) [] (.bsl 9 1 [(.s [45]), (.s []), (.s [49]), (.s [49, 50]), (.s [49, 51]), (.s [49, 52]), (.s [49, 54]), (.s [49, 50, 51, 52, 53, 54]), (.s [51, 54]), (.s [48]), (.s [50, 49])])) (.c (.e (some 16) [] (.call true 149 [(.t 14), (.t 15)])) (.c (.q 2 [] (.mv (.t 13))) (.c (.q 3 [] (.mv (.t 16))) .nil))))))))))) .ret) .skip)
theorem u_sl1Cur_staged_1 (P : Program) (k : KT) (e : Env) (w : World) : vcK P t_sl1Cur_staged_1 k e w = vcK P (.cond (.t 8) (.seq (.reg [2, 3] (.c (.q 9 [] (.mv (.t 4))) (.c (.q 10 [] (.mv (.t 0))) (.c (.e (some 11) [] (.call true 206 [(.t 10), (.c (.int .i64 2))])) (.c (.q 12 [] (.bin .mul (.t 11) (.c (.int .i64 6)))) (.c (.q 13 [] (.bin .add (.t 9) (.t 12))) (.c (.q 14 [] (.mv (.t 0))) (.c (.e (some 15) [] (.bsl 9 1 [(.s [45]), (.s []), (.s [49]), (.s [49, 50]), (.s [49, 51]), (.s [49, 52]), (.s [49, 54]), (.s [49, 50, 51, 52, 53, 54]), (.s [51, 54]), (.s [48]), (.s [50, 49])])) (.c (.e (some 16) [] (.call true 149 [(.t 14), (.t 15)])) (.c (.q 2 [] (.mv (.t 13))) (.c (.q 3 [] (.mv (.t 16))) .nil))))))))))) .ret) .skip) k e w := rfl
def t_sl1Cur_staged_2 : X := (.seq (.reg [2, 3] (.c (.q 17 [] (.mv (.t 4))) (.c (.q 18 [] (.mv (.t 0))) (.c (.q 19 [] (.mv (.t 4))) (.c (.e (some 20) [] (.call true 148 [(.t 18), (.t 19)])) (.c (.q 2 [] (.mv (.t 17))) (.c (.q 3 [] (.mv (.t 20))) .nil))))))) .ret)
theorem u_sl1Cur_staged_2 (P : Program) (k : KT) (e : Env) (w : World) : vcK P t_sl1Cur_staged_2 k e w = vcK P (.seq (.reg [2, 3] (.c (.q 17 [] (.mv (.t 4))) (.c (.q 18 [] (.mv (.t 0))) (.c (.q 19 [] (.mv (.t 4))) (.c (.e (some 20) [] (.call true 148 [(.t 18), (.t 19)])) (.c (.q 2 [] (.mv (.t 17))) (.c (.q 3 [] (.mv (.t 20))) .nil))))))) .ret) k e w := rfl
def t_sl1Cur_staged_3 : X := (.seq (.seq (.reg [0, 4, 8] (.c (.q 7 [] (.mv (.t 0))) (.c (.e (some 8) [] (.call true 147 [(.t 7), (.c (.int .i64 6))])) .nil))) t_sl1Cur_staged_1) t_sl1Cur_staged_2)
theorem u_sl1Cur_staged_3 (P : Program) (k : KT) (e : Env) (w : World) : vcK P t_sl1Cur_staged_3 k e w = vcK P (.seq (.seq (.reg [0, 4, 8] (.c (.q 7 [] (.mv (.t 0))) (.c (.e (some 8) [] (.call true 147 [(.t 7), (.c (.int .i64 6))])) .nil))) t_sl1Cur_staged_1) t_sl1Cur_staged_2) k e w := rfl
def t_sl1Cur_staged_4 : X := (.seq (.reg [0, 4] (.c (.q 5 [] (.mv (.t 0))) (.c (.e (some 6) [] (.call true 261 [(.t 5)])) (.c (.q 4 [] (.mv (.t 6))) .nil)))) t_sl1Cur_staged_3)
theorem u_sl1Cur_staged_4 (P : Program) (k : KT) (e : Env) (w : World) : vcK P t_sl1Cur_staged_4 k e w = vcK P (.seq (.reg [0, 4] (.c (.q 5 [] (.mv (.t 0))) (.c (.e (some 6) [] (.call true 261 [(.t 5)])) (.c (.q 4 [] (.mv (.t 6))) .nil)))) t_sl1Cur_staged_3) k e w := rfl
def x_sl1Cur_staged : X := (.seq (.reg [0] (.c (.q 2 [] (.mv (.c (.int .i64 0)))) (.c (.q 3 [] (.mv (.s []))) .nil))) t_sl1Cur_staged_4)
theorem u_sl1Cur_staged (P : Program) (k : KT) (e : Env) (w : World) : vcK P x_sl1Cur_staged k e w = vcK P (.seq (.reg [0] (.c (.q 2 [] (.mv (.c (.int .i64 0)))) (.c (.q 3 [] (.mv (.s []))) .nil))) t_sl1Cur_staged_4) k e w := rfl
def r_sl1Cur_staged : List XO := [(.mv (.t 2)), (.mv (.t 3))]
theorem c_sl1Cur_staged : convF Try.prog [145, 147, 148, 149, 158, 205, 206, 232, 234, 247, 248, 256, 261, 283, 284, 299, 300, 307] Try.f158 [([0], []), ([0, 4], []), ([0, 4, 8], []), ([2, 3], []), ([2, 3], [])] = some (x_sl1Cur_staged, r_sl1Cur_staged) := by kernel_rfl
def us_sl1Cur_staged := And.intro @u_sl1Cur_staged (And.intro @u_sl1Cur_staged_1 (And.intro @u_sl1Cur_staged_2 (And.intro @u_sl1Cur_staged_3 @u_sl1Cur_staged_4)))
def t_sDrawApply_1 : X := (.cond (.t 17) (.seq (.reg [2, 3] (.c (.q 18 [] (.mv (.t 5))) (.c (.q 19 [] (.mv (.t 4))) (.c (.q 20 [] (.mv (.t 5))) (.c (.q 21 [] (.len (.t 20))) (.c (.e (some 22) [] (.call true 148 [(.t 19), (.t 21)])) (.c (.q 2 [] (.mv (.t 18))) (.c (.q 3 [] (.mv (.t 22))) .nil)))))))) .ret) .skip)
theorem u_sDrawApply_1 (P : Program) (k : KT) (e : Env) (w : World) : vcK P t_sDrawApply_1 k e w = vcK P (.cond (.t 17) (.seq (.reg [2, 3] (.c (.q 18 [] (.mv (.t 5))) (.c (.q 19 [] (.mv (.t 4))) (.c (.q 20 [] (.mv (.t 5))) (.c (.q 21 [] (.len (.t 20))) (.c (.e (some 22) [] (.call true 148 [(.t 19), (.t 21)])) (.c (.q 2 [] (.mv (.t 18))) (.c (.q 3 [] (.mv (.t 22))) .nil)))))))) .ret) .skip) k e w := rfl
def t_sDrawApply_2 : X := (.seq (.reg [2, 3] (.c (.q 23 [] (.mv (.t 5))) (.c (.q 24 [] (.mv (.t 4))) (.c (.e (some 25) [] (.bsl 9 1 [(.s [45]), (.s [49]), (.s [49, 52]), (.s [120])])) (.c (.e (some 26) [] (.call true 149 [(.t 24), (.t 25)])) (.c (.q 2 [] (.mv (.t 23))) (.c (.q 3 [] (.mv (.t 26))) .nil))))))) .ret)
theorem u_sDrawApply_2 (P : Program) (k : KT) (e : Env) (w : World) : vcK P t_sDrawApply_2 k e w = vcK P (.seq (.reg [2, 3] (.c (.q 23 [] (.mv (.t 5))) (.c (.q 24 [] (.mv (.t 4))) (.c (.e (some 25) [] (.bsl 9 1 [(.s [45]), (.s [49]), (.s [49, 52]), (.s [120])])) (.c (.e (some 26) [] (.call true 149 [(.t 24), (.t 25)])) (.c (.q 2 [] (.mv (.t 23))) (.c (.q 3 [] (.mv (.t 26))) .nil))))))) .ret) k e w := rfl
def t_sDrawApply_3 : X := (.seq (.seq (.reg [4, 5, 17] (.c (.q 11 [] (.mv (.t 5))) (.c (.e (some 12) [] (.call false 146 [(.t 11)])) (.c (.q 13 [] (.mv (.t 12))) (.c (.q 14 [(13, true)] (.mv (.t 4))) (.c (.e (some 15) [(13, true)] (.call true 147 [(.t 14), (.c (.int .i64 8))])) (.c (.q 16 [(13, true)] (.not (.t 15))) (.c (.q 17 [] (.pick (.t 13) (.t 16) (.c (.bool false)))) .nil)))))))) t_sDrawApply_1) t_sDrawApply_2)
theorem u_sDrawApply_3 (P : Program) (k : KT) (e : Env) (w : World) : vcK P t_sDrawApply_3 k e w = vcK P (.seq (.seq (.reg [4, 5, 17] (.c (.q 11 [] (.mv (.t 5))) (.c (.e (some 12) [] (.call false 146 [(.t 11)])) (.c (.q 13 [] (.mv (.t 12))) (.c (.q 14 [(13, true)] (.mv (.t 4))) (.c (.e (some 15) [(13, true)] (.call true 147 [(.t 14), (.c (.int .i64 8))])) (.c (.q 16 [(13, true)] (.not (.t 15))) (.c (.q 17 [] (.pick (.t 13) (.t 16) (.c (.bool false)))) .nil)))))))) t_sDrawApply_1) t_sDrawApply_2) k e w := rfl
def t_sDrawApply_4 : X := (.seq (.reg [4, 5] (.c (.q 9 [] (.mv (.t 4))) (.c (.e (some 10) [] (.call true 145 [(.t 9)])) (.c (.q 5 [] (.mv (.t 10))) .nil)))) t_sDrawApply_3)
theorem u_sDrawApply_4 (P : Program) (k : KT) (e : Env) (w : World) : vcK P t_sDrawApply_4 k e w = vcK P (.seq (.reg [4, 5] (.c (.q 9 [] (.mv (.t 4))) (.c (.e (some 10) [] (.call true 145 [(.t 9)])) (.c (.q 5 [] (.mv (.t 10))) .nil)))) t_sDrawApply_3) k e w := rfl
def t_sDrawApply_5 : X := (.seq (.reg [4] (.c (.q 6 [] (.mv (.t 0))) (.c (.q 7 [] (.bld [(.slice none 0 0), (.int .i64 0), (.int .u64 0)] [(0, 0, (.t 6))])) (.c (.e (some 8) [] (.box 116 (.t 7))) (.c (.q 4 [] (.mv (.t 8))) .nil))))) t_sDrawApply_4)
theorem u_sDrawApply_5 (P : Program) (k : KT) (e : Env) (w : World) : vcK P t_sDrawApply_5 k e w = vcK P (.seq (.reg [4] (.c (.q 6 [] (.mv (.t 0))) (.c (.q 7 [] (.bld [(.slice none 0 0), (.int .i64 0), (.int .u64 0)] [(0, 0, (.t 6))])) (.c (.e (some 8) [] (.box 116 (.t 7))) (.c (.q 4 [] (.mv (.t 8))) .nil))))) t_sDrawApply_4) k e w := rfl
def x_sDrawApply : X := (.seq (.reg [0] (.c (.q 2 [] (.mv (.s []))) (.c (.q 3 [] (.mv (.s []))) .nil))) t_sDrawApply_5)
theorem u_sDrawApply (P : Program) (k : KT) (e : Env) (w : World) : vcK P x_sDrawApply k e w = vcK P (.seq (.reg [0] (.c (.q 2 [] (.mv (.s []))) (.c (.q 3 [] (.mv (.s []))) .nil))) t_sDrawApply_5) k e w := rfl
def r_sDrawApply : List XO := [(.mv (.t 2)), (.mv (.t 3))]
theorem c_sDrawApply : convF Try.prog [145, 147, 148, 149, 158, 205, 206, 232, 234, 247, 248, 256, 261, 283, 284, 299, 300, 307] Try.f16 [([0], []), ([4], []), ([4, 5], []), ([4, 5, 17], []), ([2, 3], []), ([2, 3], [])] = some (x_sDrawApply, r_sDrawApply) := by kernel_rfl
def us_sDrawApply := And.intro @u_sDrawApply (And.intro @u_sDrawApply_1 (And.intro @u_sDrawApply_2 (And.intro @u_sDrawApply_3 (And.intro @u_sDrawApply_4 @u_sDrawApply_5))))
def t_sDrawGoodChange_1 : X := (.seq (.reg [2, 3] (.c (.q 8 [] (.mv (.t 4))) (.c (.e (some 9) [] (.call true 158 [(.t 8)])) (.c (.q 10 [] (.ext 0 (.t 9))) (.c (.q 11 [] (.ext 1 (.t 9))) (.c (.q 2 [] (.mv (.t 10))) (.c (.q 3 [] (.mv (.t 11))) .nil))))))) .ret)
theorem u_sDrawGoodChange_1 (P : Program) (k : KT) (e : Env) (w : World) : vcK P t_sDrawGoodChange_1 k e w = vcK P (.seq (.reg [2, 3] (.c (.q 8 [] (.mv (.t 4))) (.c (.e (some 9) [] (.call true 158 [(.t 8)])) (.c (.q 10 [] (.ext 0 (.t 9))) (.c (.q 11 [] (.ext 1 (.t 9))) (.c (.q 2 [] (.mv (.t 10))) (.c (.q 3 [] (.mv (.t 11))) .nil))))))) .ret) k e w := rfl
def t_sDrawGoodChange_2 : X := (.seq (.reg [4] (.c (.q 5 [] (.mv (.t 0))) (.c (.q 6 [] (.bld [(.slice none 0 0), (.int .i64 0), (.int .u64 0)] [(0, 0, (.t 5))])) (.c (.e (some 7) [] (.box 116 (.t 6))) (.c (.q 4 [] (.mv (.t 7))) .nil))))) t_sDrawGoodChange_1)
theorem u_sDrawGoodChange_2 (P : Program) (k : KT) (e : Env) (w : World) : vcK P t_sDrawGoodChange_2 k e w = vcK P (.seq (.reg [4] (.c (.q 5 [] (.mv (.t 0))) (.c (.q 6 [] (.bld [(.slice none 0 0), (.int .i64 0), (.int .u64 0)] [(0, 0, (.t 5))])) (.c (.e (some 7) [] (.box 116 (.t 6))) (.c (.q 4 [] (.mv (.t 7))) .nil))))) t_sDrawGoodChange_1) k e w := rfl
def x_sDrawGoodChange : X := (.seq (.reg [0] (.c (.q 2 [] (.mv (.c (.int .i64 0)))) (.c (.q 3 [] (.mv (.s []))) .nil))) t_sDrawGoodChange_2)
theorem u_sDrawGoodChange (P : Program) (k : KT) (e : Env) (w : World) : vcK P x_sDrawGoodChange k e w = vcK P (.seq (.reg [0] (.c (.q 2 [] (.mv (.c (.int .i64 0)))) (.c (.q 3 [] (.mv (.s []))) .nil))) t_sDrawGoodChange_2) k e w := rfl
def r_sDrawGoodChange : List XO := [(.mv (.t 2)), (.mv (.t 3))]
theorem c_sDrawGoodChange : convF Try.prog [145, 147, 148, 149, 158, 205, 206, 232, 234, 247, 248, 256, 261, 283, 284, 299, 300, 307] Try.f22 [([0], []), ([4], []), ([2, 3], [])] = some (x_sDrawGoodChange, r_sDrawGoodChange) := by kernel_rfl
def us_sDrawGoodChange := And.intro @u_sDrawGoodChange (And.intro @u_sDrawGoodChange_1 @u_sDrawGoodChange_2)

theorem sl1Cur_staged_ok (W : World) (b n : Nat) (w : World) (hn : n ≤ 700000000) (hc : Cur W b n w) : CurFn 158 [cV b] W b n 10 w (fun r _ => ∃ (m : Int) (x : List UInt8), r = .tuple ⟨[.int .i64 m, S x]⟩ ∧ (3 ≤ m ∧ m ≤ 20) ∧ x.length ≤ 10) := by
  (refine callsV_of mix Try.func158 c_sl1Cur_staged ?_; simp only [↓vsd, vsn, gW, qd, qv, ev, pick, argE, List.map_cons, List.map_nil, Option.map_some, Option.map_none, zipE, List.cons_append, List.nil_append, ne_eq, eq_self, forall_const, implies_true, if_true, if_false, reduceIte, List.cons.injEq, reduceCtorEq, Nat.reduceEqDiff, List.length_nil, List.length_cons, Nat.reduceAdd, Nat.reduceLT, List.set_cons_zero, List.set_cons_succ, ↓us_sl1Cur_staged, r_sl1Cur_staged])
  refine m_callw (.inl rfl) (sl1Cur_stage_ok W b n w (by omega) hc) ?_
  rintro _ w1 ⟨hc1, hg1, s, rfl, hs⟩
  simp only [↓vsd, vsn, gW, qd, qv, ev, pick, argE, List.map_cons, List.map_nil, Option.map_some, Option.map_none, zipE, List.cons_append, List.nil_append, ne_eq, eq_self, forall_const, implies_true, if_true, if_false, reduceIte, List.cons.injEq, reduceCtorEq, Nat.reduceEqDiff, List.length_nil, List.length_cons, Nat.reduceAdd, Nat.reduceLT, List.set_cons_zero, List.set_cons_succ, ↓us_sl1Cur_staged, r_sl1Cur_staged]
  refine m_callw (.inl rfl) (sl1Cur_one_ok W b _ 6 (by omega) w1 (by omega) hc1) ?_
  rintro _ w2 ⟨hc2, hg2, y, rfl⟩
  have hg12 := grown_trans hg1 hg2
  cases y
  · simp only [↓vsd, vsn, gW, qd, qv, ev, pick, argE, List.map_cons, List.map_nil, Option.map_some, Option.map_none, zipE, List.cons_append, List.nil_append, ne_eq, eq_self, forall_const, implies_true, if_true, if_false, reduceIte, List.cons.injEq, reduceCtorEq, Nat.reduceEqDiff, List.length_nil, List.length_cons, Nat.reduceAdd, Nat.reduceLT, List.set_cons_zero, List.set_cons_succ, ↓us_sl1Cur_staged, r_sl1Cur_staged]
    refine m_callw (.inl rfl) (sl1Cur_change_ok W b _ s hs w2 (by omega) hc2) ?_
    rintro _ w3 ⟨hc3, hg3, x, rfl, hx⟩
    simp only [↓vsd, vsn, gW, qd, qv, ev, pick, argE, List.map_cons, List.map_nil, Option.map_some, Option.map_none, zipE, List.cons_append, List.nil_append, ne_eq, eq_self, forall_const, implies_true, if_true, if_false, reduceIte, List.cons.injEq, reduceCtorEq, Nat.reduceEqDiff, List.length_nil, List.length_cons, Nat.reduceAdd, Nat.reduceLT, List.set_cons_zero, List.set_cons_succ, ↓us_sl1Cur_staged, r_sl1Cur_staged]
    have := hx.len
    exact ⟨hc3.mono (by omega), grown_trans hg12 hg3, s, x, rfl, by omega, by omega⟩
  · simp only [↓vsd, vsn, gW, qd, qv, ev, pick, argE, List.map_cons, List.map_nil, Option.map_some, Option.map_none, zipE, List.cons_append, List.nil_append, ne_eq, eq_self, forall_const, implies_true, if_true, if_false, reduceIte, List.cons.injEq, reduceCtorEq, Nat.reduceEqDiff, List.length_nil, List.length_cons, Nat.reduceAdd, Nat.reduceLT, List.set_cons_zero, List.set_cons_succ, ↓us_sl1Cur_staged, r_sl1Cur_staged]
    refine m_callw (.inl rfl) (sl1Cur_pick_ok W b _ 2 (by omega) w2 (by omega) hc2) ?_
    rintro _ w3 ⟨hc3, hg3, q, rfl, hq⟩
    simp only [↓vsd, vsn, gW, qd, qv, ev, pick, argE, List.map_cons, List.map_nil, Option.map_some, Option.map_none, zipE, List.cons_append, List.nil_append, ne_eq, eq_self, forall_const, implies_true, if_true, if_false, reduceIte, List.cons.injEq, reduceCtorEq, Nat.reduceEqDiff, List.length_nil, List.length_cons, Nat.reduceAdd, Nat.reduceLT, List.set_cons_zero, List.set_cons_succ, ↓us_sl1Cur_staged, r_sl1Cur_staged]
    refine ⟨inR_i64 (by omega), inR_i64 (by omega), m_bsl (fun p hp => by simp only [List.mem_cons, List.not_mem_nil, or_false] at hp; rcases hp with rfl | rfl | rfl | rfl | rfl | rfl | rfl | rfl | rfl | rfl | rfl <;> rfl) ?_⟩
    rintro b4 w4 hb4 hblk4 hx4 hs4
    simp only [↓vsd, vsn, gW, qd, qv, ev, pick, argE, List.map_cons, List.map_nil, Option.map_some, Option.map_none, zipE, List.cons_append, List.nil_append, ne_eq, eq_self, forall_const, implies_true, if_true, if_false, reduceIte, List.cons.injEq, reduceCtorEq, Nat.reduceEqDiff, List.length_nil, List.length_cons, Nat.reduceAdd, Nat.reduceLT, List.set_cons_zero, List.set_cons_succ, ↓us_sl1Cur_staged, r_sl1Cur_staged]
    have hlt := hc3.lt
    refine m_callw (.inl rfl) (sl1Cur_of_ok W b _ _ [[45], [], [49], [49, 50], [49, 51], [49, 52], [49, 54], [49, 50, 51, 52, 53, 54], [51, 54], [48], [50, 49]] w4 (by omega) (by decide) (hc3.ext hx4) (Sq.litC _ _ fS_len hblk4 rfl rfl (by omega))) ?_
    rintro _ w5 ⟨hc5, hg5, x, rfl, hx⟩
    have hx10 : x.length ≤ 10 := by simp only [List.mem_cons, List.not_mem_nil, or_false] at hx; rcases hx with rfl | rfl | rfl | rfl | rfl | rfl | rfl | rfl | rfl | rfl | rfl <;> decide
    simp only [↓vsd, vsn, gW, qd, qv, ev, pick, argE, List.map_cons, List.map_nil, Option.map_some, Option.map_none, zipE, List.cons_append, List.nil_append, ne_eq, eq_self, forall_const, implies_true, if_true, if_false, reduceIte, List.cons.injEq, reduceCtorEq, Nat.reduceEqDiff, List.length_nil, List.length_cons, Nat.reduceAdd, Nat.reduceLT, List.set_cons_zero, List.set_cons_succ, ↓us_sl1Cur_staged, r_sl1Cur_staged]
    exact ⟨hc5.mono (by omega), grown_trans (grown_trans (grown_trans hg12 hg3) (grown_ext _ hx4)) hg5, _, x, rfl, by omega, hx10⟩
theorem sDrawGoodChange_ok (v : Value) (code : List UInt8) (hl : code.length ≤ 1048576) (w : World) (h : Sq fU 1 w v code) : Fn 22 [v] w (fun r _ => ∃ (m : Int) (x : List UInt8), r = .tuple ⟨[.int .i64 m, S x]⟩ ∧ (3 ≤ m ∧ m ≤ 20) ∧ x.length ≤ 10) := by
  (refine callsV_of mix Try.func22 c_sDrawGoodChange ?_; simp only [↓vsd, vsn, gW, qd, qv, ev, pick, argE, List.map_cons, List.map_nil, Option.map_some, Option.map_none, zipE, List.cons_append, List.nil_append, ne_eq, eq_self, forall_const, implies_true, if_true, if_false, reduceIte, List.cons.injEq, reduceCtorEq, Nat.reduceEqDiff, List.length_nil, List.length_cons, Nat.reduceAdd, Nat.reduceLT, List.set_cons_zero, List.set_cons_succ, ↓us_sDrawGoodChange, r_sDrawGoodChange])
  simp only [↓vsd, vsn, gW, qd, qv, ev, pick, argE, List.map_cons, List.map_nil, Option.map_some, Option.map_none, zipE, List.cons_append, List.nil_append, ne_eq, eq_self, forall_const, implies_true, if_true, if_false, reduceIte, List.cons.injEq, reduceCtorEq, Nat.reduceEqDiff, List.length_nil, List.length_cons, Nat.reduceAdd, Nat.reduceLT, List.set_cons_zero, List.set_cons_succ, ↓us_sDrawGoodChange, r_sDrawGoodChange, h.facts]
  refine m_al ?_
  rintro b w1 hb hblk hx1 hs1
  have hc := Cur.new h hl hb hblk hx1
  simp only [↓vsd, vsn, gW, qd, qv, ev, pick, argE, List.map_cons, List.map_nil, Option.map_some, Option.map_none, zipE, List.cons_append, List.nil_append, ne_eq, eq_self, forall_const, implies_true, if_true, if_false, reduceIte, List.cons.injEq, reduceCtorEq, Nat.reduceEqDiff, List.length_nil, List.length_cons, Nat.reduceAdd, Nat.reduceLT, List.set_cons_zero, List.set_cons_succ, ↓us_sDrawGoodChange, r_sDrawGoodChange]
  refine m_callw (.inl rfl) (sl1Cur_staged_ok w b _ w1 (by omega) hc) ?_
  rintro _ w2 ⟨hc2, hg2, m, x, rfl, hm, hx⟩
  simp only [↓vsd, vsn, gW, qd, qv, ev, pick, argE, List.map_cons, List.map_nil, Option.map_some, Option.map_none, zipE, List.cons_append, List.nil_append, ne_eq, eq_self, forall_const, implies_true, if_true, if_false, reduceIte, List.cons.injEq, reduceCtorEq, Nat.reduceEqDiff, List.length_nil, List.length_cons, Nat.reduceAdd, Nat.reduceLT, List.set_cons_zero, List.set_cons_succ, ↓us_sDrawGoodChange, r_sDrawGoodChange]
  exact ⟨hc2.base, m, x, rfl, hm, hx⟩
theorem sDrawApply_ok (v : Value) (code : List UInt8) (hl : code.length ≤ 1048576) (w : World) (h : Sq fU 1 w v code) : Fn 16 [v] w (fun r _ => ∃ x c, r = .tuple ⟨[S x, S c]⟩ ∧ x.length ≤ 10 ∧ c.length ≤ 10) := by
  (refine callsV_of mix Try.func16 c_sDrawApply ?_; simp only [↓vsd, vsn, gW, qd, qv, ev, pick, argE, List.map_cons, List.map_nil, Option.map_some, Option.map_none, zipE, List.cons_append, List.nil_append, ne_eq, eq_self, forall_const, implies_true, if_true, if_false, reduceIte, List.cons.injEq, reduceCtorEq, Nat.reduceEqDiff, List.length_nil, List.length_cons, Nat.reduceAdd, Nat.reduceLT, List.set_cons_zero, List.set_cons_succ, ↓us_sDrawApply, r_sDrawApply])
  simp only [↓vsd, vsn, gW, qd, qv, ev, pick, argE, List.map_cons, List.map_nil, Option.map_some, Option.map_none, zipE, List.cons_append, List.nil_append, ne_eq, eq_self, forall_const, implies_true, if_true, if_false, reduceIte, List.cons.injEq, reduceCtorEq, Nat.reduceEqDiff, List.length_nil, List.length_cons, Nat.reduceAdd, Nat.reduceLT, List.set_cons_zero, List.set_cons_succ, ↓us_sDrawApply, r_sDrawApply, h.facts]
  refine m_al ?_
  rintro b w1 hb hblk hx1 hs1
  have hc := Cur.new h hl hb hblk hx1
  simp only [↓vsd, vsn, gW, qd, qv, ev, pick, argE, List.map_cons, List.map_nil, Option.map_some, Option.map_none, zipE, List.cons_append, List.nil_append, ne_eq, eq_self, forall_const, implies_true, if_true, if_false, reduceIte, List.cons.injEq, reduceCtorEq, Nat.reduceEqDiff, List.length_nil, List.length_cons, Nat.reduceAdd, Nat.reduceLT, List.set_cons_zero, List.set_cons_succ, ↓us_sDrawApply, r_sDrawApply]
  refine m_callw (.inl rfl) (sl1Cur_anyRow_ok w b _ w1 (by omega) hc) ?_
  rintro _ w2 ⟨hc2, hg2, r, rfl, hr10⟩
  simp only [↓vsd, vsn, gW, qd, qv, ev, pick, argE, List.map_cons, List.map_nil, Option.map_some, Option.map_none, zipE, List.cons_append, List.nil_append, ne_eq, eq_self, forall_const, implies_true, if_true, if_false, reduceIte, List.cons.injEq, reduceCtorEq, Nat.reduceEqDiff, List.length_nil, List.length_cons, Nat.reduceAdd, Nat.reduceLT, List.set_cons_zero, List.set_cons_succ, ↓us_sDrawApply, r_sDrawApply]
  refine m_call (sl1Row_ok r _) ?_
  rintro _ w3 hx3 rfl
  have hc3 := hc2.ext hx3
  by_cases hr : IsRow r
  · simp only [↓vsd, vsn, gW, qd, qv, ev, pick, argE, List.map_cons, List.map_nil, Option.map_some, Option.map_none, zipE, List.cons_append, List.nil_append, ne_eq, eq_self, forall_const, implies_true, if_true, if_false, reduceIte, List.cons.injEq, reduceCtorEq, Nat.reduceEqDiff, List.length_nil, List.length_cons, Nat.reduceAdd, Nat.reduceLT, List.set_cons_zero, List.set_cons_succ, ↓us_sDrawApply, r_sDrawApply, hr]
    refine m_callw (.inl rfl) (sl1Cur_one_ok w b _ 8 (by omega) w3 (by omega) hc3) ?_
    rintro _ w4 ⟨hc4, hg4, y, rfl⟩
    cases y
    · simp only [↓vsd, vsn, gW, qd, qv, ev, pick, argE, List.map_cons, List.map_nil, Option.map_some, Option.map_none, zipE, List.cons_append, List.nil_append, ne_eq, eq_self, forall_const, implies_true, if_true, if_false, reduceIte, List.cons.injEq, reduceCtorEq, Nat.reduceEqDiff, List.length_nil, List.length_cons, Nat.reduceAdd, Nat.reduceLT, List.set_cons_zero, List.set_cons_succ, ↓us_sDrawApply, r_sDrawApply]
      refine m_callw (.inl rfl) (sl1Cur_change_ok w b _ r.length hr.1 w4 (by omega) hc4) ?_
      rintro _ w5 ⟨hc5, hg5, x, rfl, hx⟩
      simp only [↓vsd, vsn, gW, qd, qv, ev, pick, argE, List.map_cons, List.map_nil, Option.map_some, Option.map_none, zipE, List.cons_append, List.nil_append, ne_eq, eq_self, forall_const, implies_true, if_true, if_false, reduceIte, List.cons.injEq, reduceCtorEq, Nat.reduceEqDiff, List.length_nil, List.length_cons, Nat.reduceAdd, Nat.reduceLT, List.set_cons_zero, List.set_cons_succ, ↓us_sDrawApply, r_sDrawApply]
      have := hx.len
      exact ⟨hc5.base, r, x, rfl, hr10, by omega⟩
    · simp only [↓vsd, vsn, gW, qd, qv, ev, pick, argE, List.map_cons, List.map_nil, Option.map_some, Option.map_none, zipE, List.cons_append, List.nil_append, ne_eq, eq_self, forall_const, implies_true, if_true, if_false, reduceIte, List.cons.injEq, reduceCtorEq, Nat.reduceEqDiff, List.length_nil, List.length_cons, Nat.reduceAdd, Nat.reduceLT, List.set_cons_zero, List.set_cons_succ, ↓us_sDrawApply, r_sDrawApply]
      have hcz := hc4
      refine m_bsl (fun p hp => by simp only [List.mem_cons, List.not_mem_nil, or_false] at hp; rcases hp with rfl | rfl | rfl | rfl <;> rfl) ?_
      rintro b5 w5 hb5 hblk5 hx5 hs5
      simp only [↓vsd, vsn, gW, qd, qv, ev, pick, argE, List.map_cons, List.map_nil, Option.map_some, Option.map_none, zipE, List.cons_append, List.nil_append, ne_eq, eq_self, forall_const, implies_true, if_true, if_false, reduceIte, List.cons.injEq, reduceCtorEq, Nat.reduceEqDiff, List.length_nil, List.length_cons, Nat.reduceAdd, Nat.reduceLT, List.set_cons_zero, List.set_cons_succ, ↓us_sDrawApply, r_sDrawApply]
      have hlt := hcz.lt
      refine m_callw (.inl rfl) (sl1Cur_of_ok w b _ _ [[45], [49], [49, 52], [120]] w5 (by omega) (by decide) (hcz.ext hx5) (Sq.litC _ _ fS_len hblk5 rfl rfl (by omega))) ?_
      rintro _ w6 ⟨hc6, hg6, x, rfl, hx⟩
      have hx10 : x.length ≤ 10 := by simp only [List.mem_cons, List.not_mem_nil, or_false] at hx; rcases hx with rfl | rfl | rfl | rfl <;> decide
      simp only [↓vsd, vsn, gW, qd, qv, ev, pick, argE, List.map_cons, List.map_nil, Option.map_some, Option.map_none, zipE, List.cons_append, List.nil_append, ne_eq, eq_self, forall_const, implies_true, if_true, if_false, reduceIte, List.cons.injEq, reduceCtorEq, Nat.reduceEqDiff, List.length_nil, List.length_cons, Nat.reduceAdd, Nat.reduceLT, List.set_cons_zero, List.set_cons_succ, ↓us_sDrawApply, r_sDrawApply]
      exact ⟨hc6.base, r, x, rfl, hr10, hx10⟩
  · simp only [↓vsd, vsn, gW, qd, qv, ev, pick, argE, List.map_cons, List.map_nil, Option.map_some, Option.map_none, zipE, List.cons_append, List.nil_append, ne_eq, eq_self, forall_const, implies_true, if_true, if_false, reduceIte, List.cons.injEq, reduceCtorEq, Nat.reduceEqDiff, List.length_nil, List.length_cons, Nat.reduceAdd, Nat.reduceLT, List.set_cons_zero, List.set_cons_succ, ↓us_sDrawApply, r_sDrawApply, hr]
    have hcz := hc3
    refine m_bsl (fun p hp => by simp only [List.mem_cons, List.not_mem_nil, or_false] at hp; rcases hp with rfl | rfl | rfl | rfl <;> rfl) ?_
    rintro b5 w5 hb5 hblk5 hx5 hs5
    simp only [↓vsd, vsn, gW, qd, qv, ev, pick, argE, List.map_cons, List.map_nil, Option.map_some, Option.map_none, zipE, List.cons_append, List.nil_append, ne_eq, eq_self, forall_const, implies_true, if_true, if_false, reduceIte, List.cons.injEq, reduceCtorEq, Nat.reduceEqDiff, List.length_nil, List.length_cons, Nat.reduceAdd, Nat.reduceLT, List.set_cons_zero, List.set_cons_succ, ↓us_sDrawApply, r_sDrawApply]
    have hlt := hcz.lt
    refine m_callw (.inl rfl) (sl1Cur_of_ok w b _ _ [[45], [49], [49, 52], [120]] w5 (by omega) (by decide) (hcz.ext hx5) (Sq.litC _ _ fS_len hblk5 rfl rfl (by omega))) ?_
    rintro _ w6 ⟨hc6, hg6, x, rfl, hx⟩
    have hx10 : x.length ≤ 10 := by simp only [List.mem_cons, List.not_mem_nil, or_false] at hx; rcases hx with rfl | rfl | rfl | rfl <;> decide
    simp only [↓vsd, vsn, gW, qd, qv, ev, pick, argE, List.map_cons, List.map_nil, Option.map_some, Option.map_none, zipE, List.cons_append, List.nil_append, ne_eq, eq_self, forall_const, implies_true, if_true, if_false, reduceIte, List.cons.injEq, reduceCtorEq, Nat.reduceEqDiff, List.length_nil, List.length_cons, Nat.reduceAdd, Nat.reduceLT, List.set_cons_zero, List.set_cons_succ, ↓us_sDrawApply, r_sDrawApply]
    exact ⟨hc6.base, r, x, rfl, hr10, hx10⟩
end Go.Proofs.Ytjcnmobdlkmaeaa
