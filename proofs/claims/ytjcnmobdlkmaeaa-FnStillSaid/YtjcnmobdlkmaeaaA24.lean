/-
  Lead heads, of both sides.
  Conditions: none.
-/
import Derived.Test.YtjcnmobdlkmaeaaA11
import Derived.Test.YtjcnmobdlkmaeaaVw
set_option linter.unusedSimpArgs false
set_option linter.unusedVariables false
set_option linter.defProp false
namespace Go.Proofs.Ytjcnmobdlkmaeaa
open Go Go.RowKit
def t_sLeadHead_1 : X := (.cond (.t 6) (.seq (.reg [2, 3] (.c (.q 2 [] (.mv (.s []))) (.c (.q 3 [] (.mv (.c (.bool false)))) .nil))) .ret) .skip)
theorem u_sLeadHead_1 (P : Program) (k : KT) (e : Env) (w : World) : vcK P t_sLeadHead_1 k e w = vcK P (.cond (.t 6) (.seq (.reg [2, 3] (.c (.q 2 [] (.mv (.s []))) (.c (.q 3 [] (.mv (.c (.bool false)))) .nil))) .ret) .skip) k e w := rfl
def t_sLeadHead_2 : X := (.seq (.reg [2, 3] (.c (.q 7 [] (.lda 3 (.t 1))) (.c (.e (some 8) [] (.call false 199 [(.t 7)])) (.c (.q 2 [] (.mv (.t 8))) (.c (.q 3 [] (.mv (.c (.bool true)))) .nil))))) .ret)
theorem u_sLeadHead_2 (P : Program) (k : KT) (e : Env) (w : World) : vcK P t_sLeadHead_2 k e w = vcK P (.seq (.reg [2, 3] (.c (.q 7 [] (.lda 3 (.t 1))) (.c (.e (some 8) [] (.call false 199 [(.t 7)])) (.c (.q 2 [] (.mv (.t 8))) (.c (.q 3 [] (.mv (.c (.bool true)))) .nil))))) .ret) k e w := rfl
def t_sLeadHead_3 : X := (.seq (.seq (.reg [1, 6] (.c (.q 4 [] (.lda 3 (.t 1))) (.c (.e (some 5) [] (.call false 191 [(.t 4)])) (.c (.q 6 [] (.not (.t 5))) .nil)))) t_sLeadHead_1) t_sLeadHead_2)
theorem u_sLeadHead_3 (P : Program) (k : KT) (e : Env) (w : World) : vcK P t_sLeadHead_3 k e w = vcK P (.seq (.seq (.reg [1, 6] (.c (.q 4 [] (.lda 3 (.t 1))) (.c (.e (some 5) [] (.call false 191 [(.t 4)])) (.c (.q 6 [] (.not (.t 5))) .nil)))) t_sLeadHead_1) t_sLeadHead_2) k e w := rfl
def x_sLeadHead : X := (.seq (.reg [1] (.c (.e (some 1) [] (.box 58 (.t 0))) (.c (.q 2 [] (.mv (.s []))) (.c (.q 3 [] (.mv (.c (.bool false)))) .nil)))) t_sLeadHead_3)
theorem u_sLeadHead (P : Program) (k : KT) (e : Env) (w : World) : vcK P x_sLeadHead k e w = vcK P (.seq (.reg [1] (.c (.e (some 1) [] (.box 58 (.t 0))) (.c (.q 2 [] (.mv (.s []))) (.c (.q 3 [] (.mv (.c (.bool false)))) .nil)))) t_sLeadHead_3) k e w := rfl
def r_sLeadHead : List XO := [(.mv (.t 2)), (.mv (.t 3))]
theorem c_sLeadHead : convF Try.prog [145, 147, 148, 149, 158, 205, 206, 232, 234, 247, 248, 256, 261, 283, 284, 299, 300, 307] Try.f59 [([1], []), ([1, 6], []), ([2, 3], []), ([2, 3], [])] = some (x_sLeadHead, r_sLeadHead) := by kernel_rfl
def us_sLeadHead := And.intro @u_sLeadHead (And.intro @u_sLeadHead_1 (And.intro @u_sLeadHead_2 @u_sLeadHead_3))
def t_iLeadHead_1 : X := (.cond (.t 6) (.seq (.reg [2, 3] (.c (.q 2 [] (.mv (.s []))) (.c (.q 3 [] (.mv (.c (.bool false)))) .nil))) .ret) .skip)
theorem u_iLeadHead_1 (P : Program) (k : KT) (e : Env) (w : World) : vcK P t_iLeadHead_1 k e w = vcK P (.cond (.t 6) (.seq (.reg [2, 3] (.c (.q 2 [] (.mv (.s []))) (.c (.q 3 [] (.mv (.c (.bool false)))) .nil))) .ret) .skip) k e w := rfl
def t_iLeadHead_2 : X := (.seq (.reg [2, 3] (.c (.q 7 [] (.lda 3 (.t 1))) (.c (.e (some 8) [] (.call false 190 [(.t 7)])) (.c (.q 2 [] (.mv (.t 8))) (.c (.q 3 [] (.mv (.c (.bool true)))) .nil))))) .ret)
theorem u_iLeadHead_2 (P : Program) (k : KT) (e : Env) (w : World) : vcK P t_iLeadHead_2 k e w = vcK P (.seq (.reg [2, 3] (.c (.q 7 [] (.lda 3 (.t 1))) (.c (.e (some 8) [] (.call false 190 [(.t 7)])) (.c (.q 2 [] (.mv (.t 8))) (.c (.q 3 [] (.mv (.c (.bool true)))) .nil))))) .ret) k e w := rfl
def t_iLeadHead_3 : X := (.seq (.seq (.reg [1, 6] (.c (.q 4 [] (.lda 3 (.t 1))) (.c (.e (some 5) [] (.call false 188 [(.t 4)])) (.c (.q 6 [] (.not (.t 5))) .nil)))) t_iLeadHead_1) t_iLeadHead_2)
theorem u_iLeadHead_3 (P : Program) (k : KT) (e : Env) (w : World) : vcK P t_iLeadHead_3 k e w = vcK P (.seq (.seq (.reg [1, 6] (.c (.q 4 [] (.lda 3 (.t 1))) (.c (.e (some 5) [] (.call false 188 [(.t 4)])) (.c (.q 6 [] (.not (.t 5))) .nil)))) t_iLeadHead_1) t_iLeadHead_2) k e w := rfl
def x_iLeadHead : X := (.seq (.reg [1] (.c (.e (some 1) [] (.box 58 (.t 0))) (.c (.q 2 [] (.mv (.s []))) (.c (.q 3 [] (.mv (.c (.bool false)))) .nil)))) t_iLeadHead_3)
theorem u_iLeadHead (P : Program) (k : KT) (e : Env) (w : World) : vcK P x_iLeadHead k e w = vcK P (.seq (.reg [1] (.c (.e (some 1) [] (.box 58 (.t 0))) (.c (.q 2 [] (.mv (.s []))) (.c (.q 3 [] (.mv (.c (.bool false)))) .nil)))) t_iLeadHead_3) k e w := rfl
def r_iLeadHead : List XO := [(.mv (.t 2)), (.mv (.t 3))]
theorem c_iLeadHead : convF Try.prog [145, 147, 148, 149, 158, 205, 206, 232, 234, 247, 248, 256, 261, 283, 284, 299, 300, 307] Try.f53 [([1], []), ([1, 6], []), ([2, 3], []), ([2, 3], [])] = some (x_iLeadHead, r_iLeadHead) := by kernel_rfl
def us_iLeadHead := And.intro @u_iLeadHead (And.intro @u_iLeadHead_1 (And.intro @u_iLeadHead_2 @u_iLeadHead_3))

def headV (nm : List UInt8) (st : Int) (cs : List (List UInt8)) : Value := if IsMethod nm st cs then .tuple ⟨[S (underL (roundsL st.toNat) cs), .bool true]⟩ else .tuple ⟨[S [], .bool false]⟩
theorem sLeadHead_ok (nm : List UInt8) (st : Int) (v : Value) (cs : List (List UInt8)) (hnm : nm.length ≤ 1048576) (hs : ∀ c ∈ cs, c.length ≤ 1048576) (hl : cs.length ≤ 1000000000) (w : World) (h : Sq fS 1 w v cs) : Fn 59 [mV nm st v] w (fun r _ => r = headV nm st cs) := by
  (refine callsV_of mix Try.func59 c_sLeadHead ?_; simp only [↓vsd, vsn, gW, qd, qv, ev, pick, argE, List.map_cons, List.map_nil, Option.map_some, Option.map_none, zipE, List.cons_append, List.nil_append, ne_eq, eq_self, forall_const, implies_true, if_true, if_false, reduceIte, List.cons.injEq, reduceCtorEq, Nat.reduceEqDiff, List.length_nil, List.length_cons, Nat.reduceAdd, Nat.reduceLT, List.set_cons_zero, List.set_cons_succ, ↓us_sLeadHead, r_sLeadHead])
  refine m_al ?_
  rintro b w1 hb hblk hx1 hs1
  have h1 : Blk w1 b (fM nm st v) 58 := hblk
  have hq1 := h.ext hx1
  simp only [↓vsd, vsn, gW, qd, qv, ev, pick, argE, List.map_cons, List.map_nil, Option.map_some, Option.map_none, zipE, List.cons_append, List.nil_append, ne_eq, eq_self, forall_const, implies_true, if_true, if_false, reduceIte, List.cons.injEq, reduceCtorEq, Nat.reduceEqDiff, List.length_nil, List.length_cons, Nat.reduceAdd, Nat.reduceLT, List.set_cons_zero, List.set_cons_succ, ↓us_sLeadHead, r_sLeadHead, h1.facts, fMg]
  refine m_call (sl4Good_ok nm st v cs hnm hs hl _ hq1) ?_
  rintro _ w2 hx2 rfl
  have h2 := h1.ext hx2
  have hq2 := hq1.ext hx2
  by_cases hm : IsMethod nm st cs
  · simp only [↓vsd, vsn, gW, qd, qv, ev, pick, argE, List.map_cons, List.map_nil, Option.map_some, Option.map_none, zipE, List.cons_append, List.nil_append, ne_eq, eq_self, forall_const, implies_true, if_true, if_false, reduceIte, List.cons.injEq, reduceCtorEq, Nat.reduceEqDiff, List.length_nil, List.length_cons, Nat.reduceAdd, Nat.reduceLT, List.set_cons_zero, List.set_cons_succ, ↓us_sLeadHead, r_sLeadHead, hm, h2.facts, fMg]
    refine m_call (sl4Head_ok nm st v cs hm _ hq2) ?_
    rintro _ w3 hx3 rfl
    simp only [↓vsd, vsn, gW, qd, qv, ev, pick, argE, List.map_cons, List.map_nil, Option.map_some, Option.map_none, zipE, List.cons_append, List.nil_append, ne_eq, eq_self, forall_const, implies_true, if_true, if_false, reduceIte, List.cons.injEq, reduceCtorEq, Nat.reduceEqDiff, List.length_nil, List.length_cons, Nat.reduceAdd, Nat.reduceLT, List.set_cons_zero, List.set_cons_succ, ↓us_sLeadHead, r_sLeadHead]
    exact ⟨(hx1.trans hx2).trans hx3, by rw [headV, if_pos hm]⟩
  · simp only [↓vsd, vsn, gW, qd, qv, ev, pick, argE, List.map_cons, List.map_nil, Option.map_some, Option.map_none, zipE, List.cons_append, List.nil_append, ne_eq, eq_self, forall_const, implies_true, if_true, if_false, reduceIte, List.cons.injEq, reduceCtorEq, Nat.reduceEqDiff, List.length_nil, List.length_cons, Nat.reduceAdd, Nat.reduceLT, List.set_cons_zero, List.set_cons_succ, ↓us_sLeadHead, r_sLeadHead, hm]
    exact ⟨hx1.trans hx2, by rw [headV, if_neg hm]⟩
theorem iLeadHead_ok (nm : List UInt8) (st : Int) (v : Value) (cs : List (List UInt8)) (hnm : nm.length ≤ 1048576) (hs : ∀ c ∈ cs, c.length ≤ 1048576) (hl : cs.length ≤ 1000000000) (w : World) (h : Sq fS 1 w v cs) : Fn 53 [mV nm st v] w (fun r _ => r = headV nm st cs) := by
  (refine callsV_of mix Try.func53 c_iLeadHead ?_; simp only [↓vsd, vsn, gW, qd, qv, ev, pick, argE, List.map_cons, List.map_nil, Option.map_some, Option.map_none, zipE, List.cons_append, List.nil_append, ne_eq, eq_self, forall_const, implies_true, if_true, if_false, reduceIte, List.cons.injEq, reduceCtorEq, Nat.reduceEqDiff, List.length_nil, List.length_cons, Nat.reduceAdd, Nat.reduceLT, List.set_cons_zero, List.set_cons_succ, ↓us_iLeadHead, r_iLeadHead])
  refine m_al ?_
  rintro b w1 hb hblk hx1 hs1
  have h1 : Blk w1 b (fM nm st v) 58 := hblk
  have hq1 := h.ext hx1
  simp only [↓vsd, vsn, gW, qd, qv, ev, pick, argE, List.map_cons, List.map_nil, Option.map_some, Option.map_none, zipE, List.cons_append, List.nil_append, ne_eq, eq_self, forall_const, implies_true, if_true, if_false, reduceIte, List.cons.injEq, reduceCtorEq, Nat.reduceEqDiff, List.length_nil, List.length_cons, Nat.reduceAdd, Nat.reduceLT, List.set_cons_zero, List.set_cons_succ, ↓us_iLeadHead, r_iLeadHead, h1.facts, fMg]
  refine m_call (iGoodMethod_ok nm st v cs hnm hs hl _ hq1) ?_
  rintro _ w2 hx2 rfl
  have h2 := h1.ext hx2
  have hq2 := hq1.ext hx2
  by_cases hm : IsMethod nm st cs
  · simp only [↓vsd, vsn, gW, qd, qv, ev, pick, argE, List.map_cons, List.map_nil, Option.map_some, Option.map_none, zipE, List.cons_append, List.nil_append, ne_eq, eq_self, forall_const, implies_true, if_true, if_false, reduceIte, List.cons.injEq, reduceCtorEq, Nat.reduceEqDiff, List.length_nil, List.length_cons, Nat.reduceAdd, Nat.reduceLT, List.set_cons_zero, List.set_cons_succ, ↓us_iLeadHead, r_iLeadHead, hm, h2.facts, fMg]
    refine m_call (ileadHead_ok nm st v cs hm _ hq2) ?_
    rintro _ w3 hx3 rfl
    simp only [↓vsd, vsn, gW, qd, qv, ev, pick, argE, List.map_cons, List.map_nil, Option.map_some, Option.map_none, zipE, List.cons_append, List.nil_append, ne_eq, eq_self, forall_const, implies_true, if_true, if_false, reduceIte, List.cons.injEq, reduceCtorEq, Nat.reduceEqDiff, List.length_nil, List.length_cons, Nat.reduceAdd, Nat.reduceLT, List.set_cons_zero, List.set_cons_succ, ↓us_iLeadHead, r_iLeadHead]
    exact ⟨(hx1.trans hx2).trans hx3, by rw [headV, if_pos hm]⟩
  · simp only [↓vsd, vsn, gW, qd, qv, ev, pick, argE, List.map_cons, List.map_nil, Option.map_some, Option.map_none, zipE, List.cons_append, List.nil_append, ne_eq, eq_self, forall_const, implies_true, if_true, if_false, reduceIte, List.cons.injEq, reduceCtorEq, Nat.reduceEqDiff, List.length_nil, List.length_cons, Nat.reduceAdd, Nat.reduceLT, List.set_cons_zero, List.set_cons_succ, ↓us_iLeadHead, r_iLeadHead, hm]
    exact ⟨hx1.trans hx2, by rw [headV, if_neg hm]⟩
end Go.Proofs.Ytjcnmobdlkmaeaa
