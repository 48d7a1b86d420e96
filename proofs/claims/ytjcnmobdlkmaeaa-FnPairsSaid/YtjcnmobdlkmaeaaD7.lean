/-
  Orders, signs and powers of rows, as program and reference compute them.
  Conditions: none.
-/
import Derived.Test.YtjcnmobdlkmaeaaD3
import Derived.Test.YtjcnmobdlkmaeaaPh
set_option linter.unusedSimpArgs false
set_option linter.unusedVariables false
set_option linter.defProp false
namespace Go.Proofs.Ytjcnmobdlkmaeaa
open Go Go.RowKit
def t_ipowers_1 : X := (.cond (.t 14) .skip (.exit 0))
theorem u_ipowers_1 (P : Program) (k : KT) (e : Env) (w : World) : vcK P t_ipowers_1 k e w = vcK P (.cond (.t 14) .skip (.exit 0)) k e w := rfl
def t_ipowers_2 : X := (.reg [0, 3, 4] (.c (.q 15 [] (.mv (.t 4))) (.c (.q 16 [] (.mv (.t 0))) (.c (.e (some 17) [] (.call false 213 [(.t 15), (.t 16)])) (.c (.q 4 [] (.mv (.t 17))) .nil)))))
theorem u_ipowers_2 (P : Program) (k : KT) (e : Env) (w : World) : vcK P t_ipowers_2 k e w = vcK P (.reg [0, 3, 4] (.c (.q 15 [] (.mv (.t 4))) (.c (.q 16 [] (.mv (.t 0))) (.c (.e (some 17) [] (.call false 213 [(.t 15), (.t 16)])) (.c (.q 4 [] (.mv (.t 17))) .nil))))) k e w := rfl
def t_ipowers_3 : X := (.seq (.blk 1 (.reg [0, 3, 4] (.c (.q 18 [] (.mv (.t 3))) (.c (.q 19 [] (.mv (.t 4))) (.c (.e (some 20) [] (.bsl 9 1 [(.t 19)])) (.c (.e (some 21) [] (.app 42 9 1 16 [(S [])] 42 (.t 18) (.t 20))) (.c (.q 3 [] (.mv (.t 21))) .nil))))))) t_ipowers_2)
theorem u_ipowers_3 (P : Program) (k : KT) (e : Env) (w : World) : vcK P t_ipowers_3 k e w = vcK P (.seq (.blk 1 (.reg [0, 3, 4] (.c (.q 18 [] (.mv (.t 3))) (.c (.q 19 [] (.mv (.t 4))) (.c (.e (some 20) [] (.bsl 9 1 [(.t 19)])) (.c (.e (some 21) [] (.app 42 9 1 16 [(S [])] 42 (.t 18) (.t 20))) (.c (.q 3 [] (.mv (.t 21))) .nil))))))) t_ipowers_2) k e w := rfl
def t_ipowers_4 : X := (.seq (.seq (.reg [0, 3, 4, 14] (.c (.q 10 [] (.mv (.t 4))) (.c (.q 11 [] (.mv (.t 3))) (.c (.q 12 [] (.ia 1 (.t 11) (.c (.int .i64 0)))) (.c (.q 13 [] (.ld (.t 12))) (.c (.q 14 [] (.bin .neq (.t 10) (.t 13))) .nil)))))) t_ipowers_1) t_ipowers_3)
theorem u_ipowers_4 (P : Program) (k : KT) (e : Env) (w : World) : vcK P t_ipowers_4 k e w = vcK P (.seq (.seq (.reg [0, 3, 4, 14] (.c (.q 10 [] (.mv (.t 4))) (.c (.q 11 [] (.mv (.t 3))) (.c (.q 12 [] (.ia 1 (.t 11) (.c (.int .i64 0)))) (.c (.q 13 [] (.ld (.t 12))) (.c (.q 14 [] (.bin .neq (.t 10) (.t 13))) .nil)))))) t_ipowers_1) t_ipowers_3) k e w := rfl
def t_ipowers_5 : X := (.blk 0 (.loop [3, 4] [0] t_ipowers_4))
theorem u_ipowers_5 (P : Program) (k : KT) (e : Env) (w : World) : vcK P t_ipowers_5 k e w = vcK P (.blk 0 (.loop [3, 4] [0] t_ipowers_4)) k e w := rfl
def t_ipowers_6 : X := (.seq (.reg [2] (.c (.q 22 [] (.mv (.t 3))) (.c (.q 2 [] (.mv (.t 22))) .nil))) .ret)
theorem u_ipowers_6 (P : Program) (k : KT) (e : Env) (w : World) : vcK P t_ipowers_6 k e w = vcK P (.seq (.reg [2] (.c (.q 22 [] (.mv (.t 3))) (.c (.q 2 [] (.mv (.t 22))) .nil))) .ret) k e w := rfl
def t_ipowers_7 : X := (.seq (.seq (.reg [0, 3, 4] (.c (.q 9 [] (.mv (.t 0))) (.c (.q 4 [] (.mv (.t 9))) .nil))) t_ipowers_5) t_ipowers_6)
theorem u_ipowers_7 (P : Program) (k : KT) (e : Env) (w : World) : vcK P t_ipowers_7 k e w = vcK P (.seq (.seq (.reg [0, 3, 4] (.c (.q 9 [] (.mv (.t 0))) (.c (.q 4 [] (.mv (.t 9))) .nil))) t_ipowers_5) t_ipowers_6) k e w := rfl
def t_ipowers_8 : X := (.seq (.reg [0, 3] (.c (.q 5 [] (.mv (.t 0))) (.c (.q 6 [] (.len (.t 5))) (.c (.e (some 7) [] (.call false 161 [(.t 6)])) (.c (.e (some 8) [] (.bsl 9 1 [(.t 7)])) (.c (.q 3 [] (.mv (.t 8))) .nil)))))) t_ipowers_7)
theorem u_ipowers_8 (P : Program) (k : KT) (e : Env) (w : World) : vcK P t_ipowers_8 k e w = vcK P (.seq (.reg [0, 3] (.c (.q 5 [] (.mv (.t 0))) (.c (.q 6 [] (.len (.t 5))) (.c (.e (some 7) [] (.call false 161 [(.t 6)])) (.c (.e (some 8) [] (.bsl 9 1 [(.t 7)])) (.c (.q 3 [] (.mv (.t 8))) .nil)))))) t_ipowers_7) k e w := rfl
def x_ipowers : X := (.seq (.reg [0] (.c (.q 2 [] (.mv (.c (.slice none 0 0)))) .nil)) t_ipowers_8)
theorem u_ipowers (P : Program) (k : KT) (e : Env) (w : World) : vcK P x_ipowers k e w = vcK P (.seq (.reg [0] (.c (.q 2 [] (.mv (.c (.slice none 0 0)))) .nil)) t_ipowers_8) k e w := rfl
def r_ipowers : List XO := [(.mv (.t 2))]
theorem c_ipowers : convF Try.prog [145, 147, 148, 149, 158, 205, 206, 232, 234, 247, 248, 256, 261, 283, 284, 299, 300, 307] Try.f168 [([0], []), ([0, 3], []), ([0, 3, 4], []), ([3, 4], [0]), ([0, 3, 4, 14], []), ([0, 3, 4], []), ([0, 3, 4], []), ([2], [])] = some (x_ipowers, r_ipowers) := by kernel_rfl
def us_ipowers := And.intro @u_ipowers (And.intro @u_ipowers_1 (And.intro @u_ipowers_2 (And.intro @u_ipowers_3 (And.intro @u_ipowers_4 (And.intro @u_ipowers_5 (And.intro @u_ipowers_6 (And.intro @u_ipowers_7 @u_ipowers_8)))))))
def t_iOrderOf_1 : X := (.cond (.t 6) (.seq (.reg [2, 3] (.c (.q 2 [] (.mv (.c (.int .i64 0)))) (.c (.q 3 [] (.mv (.c (.bool false)))) .nil))) .ret) .skip)
theorem u_iOrderOf_1 (P : Program) (k : KT) (e : Env) (w : World) : vcK P t_iOrderOf_1 k e w = vcK P (.cond (.t 6) (.seq (.reg [2, 3] (.c (.q 2 [] (.mv (.c (.int .i64 0)))) (.c (.q 3 [] (.mv (.c (.bool false)))) .nil))) .ret) .skip) k e w := rfl
def t_iOrderOf_2 : X := (.seq (.reg [2, 3] (.c (.q 7 [] (.mv (.t 0))) (.c (.e (some 8) [] (.call false 168 [(.t 7)])) (.c (.q 9 [] (.lens (.t 8))) (.c (.q 2 [] (.mv (.t 9))) (.c (.q 3 [] (.mv (.c (.bool true)))) .nil)))))) .ret)
theorem u_iOrderOf_2 (P : Program) (k : KT) (e : Env) (w : World) : vcK P t_iOrderOf_2 k e w = vcK P (.seq (.reg [2, 3] (.c (.q 7 [] (.mv (.t 0))) (.c (.e (some 8) [] (.call false 168 [(.t 7)])) (.c (.q 9 [] (.lens (.t 8))) (.c (.q 2 [] (.mv (.t 9))) (.c (.q 3 [] (.mv (.c (.bool true)))) .nil)))))) .ret) k e w := rfl
def t_iOrderOf_3 : X := (.seq (.seq (.reg [0, 6] (.c (.q 4 [] (.mv (.t 0))) (.c (.e (some 5) [] (.call false 150 [(.t 4)])) (.c (.q 6 [] (.not (.t 5))) .nil)))) t_iOrderOf_1) t_iOrderOf_2)
theorem u_iOrderOf_3 (P : Program) (k : KT) (e : Env) (w : World) : vcK P t_iOrderOf_3 k e w = vcK P (.seq (.seq (.reg [0, 6] (.c (.q 4 [] (.mv (.t 0))) (.c (.e (some 5) [] (.call false 150 [(.t 4)])) (.c (.q 6 [] (.not (.t 5))) .nil)))) t_iOrderOf_1) t_iOrderOf_2) k e w := rfl
def x_iOrderOf : X := (.seq (.reg [0] (.c (.q 2 [] (.mv (.c (.int .i64 0)))) (.c (.q 3 [] (.mv (.c (.bool false)))) .nil))) t_iOrderOf_3)
theorem u_iOrderOf (P : Program) (k : KT) (e : Env) (w : World) : vcK P x_iOrderOf k e w = vcK P (.seq (.reg [0] (.c (.q 2 [] (.mv (.c (.int .i64 0)))) (.c (.q 3 [] (.mv (.c (.bool false)))) .nil))) t_iOrderOf_3) k e w := rfl
def r_iOrderOf : List XO := [(.mv (.t 2)), (.mv (.t 3))]
theorem c_iOrderOf : convF Try.prog [145, 147, 148, 149, 158, 205, 206, 232, 234, 247, 248, 256, 261, 283, 284, 299, 300, 307] Try.f29 [([0], []), ([0, 6], []), ([2, 3], []), ([2, 3], [])] = some (x_iOrderOf, r_iOrderOf) := by kernel_rfl
def us_iOrderOf := And.intro @u_iOrderOf (And.intro @u_iOrderOf_1 (And.intro @u_iOrderOf_2 @u_iOrderOf_3))

theorem inv_snoc (l : List UInt8) (y : UInt8) : invL (l ++ [y]) = invL l + (l.filter fun x => decide (y.toNat < x.toNat)).length := by
  induction l with
  | nil => simp [invL]
  | cons x l ih =>
    simp only [List.cons_append, invL, ih, List.filter_append, List.length_append, List.filter_cons, List.filter_nil]
    split <;> simp <;> omega
/-- Even so far: i bells, of the next one k comparisons. -/
def evN (a : List UInt8) (i k : Nat) : Nat := invL (a.take i) + ((a.take k).filter fun x => decide ((a.getD i 0).toNat < x.toNat)).length
theorem evN_step (a : List UInt8) (i k : Nat) (hk : k < a.length) : evN a i (k + 1) = evN a i k + if (a.getD i 0).toNat < (a.getD k 0).toNat then 1 else 0 := by
  unfold evN
  rw [List.take_add_one, List.getElem?_eq_getElem hk, List.filter_append, List.length_append, List.getD_eq_getElem?_getD, List.getD_eq_getElem?_getD, List.getElem?_eq_getElem hk]
  simp only [Option.toList_some, Option.getD_some, List.filter_cons, List.filter_nil, decide_eq_true_eq]
  split <;> simp <;> omega
theorem evN_next (a : List UInt8) (i : Nat) (hi : i < a.length) : evN a i i = invL (a.take (i + 1)) := by
  have e : a.take (i + 1) = a.take i ++ [a.getD i 0] := by
    rw [List.take_add_one, List.getElem?_eq_getElem hi, List.getD_eq_getElem?_getD, List.getElem?_eq_getElem hi]; rfl
  rw [e, inv_snoc]; rfl
def evB (n : Nat) : Bool := decide (n % 2 = 0)
theorem evB_not (n : Nat) : evB (n + 1) = !evB n := by
  unfold evB
  rw [← decide_not]
  exact decide_eq_decide.2 (by omega)
theorem Own.one1 {α : Type} {f : α → List Value} {z E B : Nat} {w : World} {a : α} {b : Nat} {cs : List Value} (hz : ∀ a, (f a).length = z) (hb : Blk w b cs E) (e : cs = f a) (hB : B ≤ b) : Own f z E B w (.slice (some ⟨b, 0, none⟩) 1 1) [a] :=
  ⟨hz, .inr ⟨b, 1, cs, rfl, hB, hb, Nat.le_refl _, by decide, by rw [e, hz, Nat.one_mul], by rw [e]; simp only [List.length_singleton, Nat.one_mul, List.flatMap_cons, List.flatMap_nil, List.append_nil]; rw [← hz a, List.take_length]⟩⟩
theorem ipowers_ok (a : List UInt8) (n : Nat) (ha : IsRow a) (ho : IsOrd a n) (w : World) : Fn 168 [S a] w (fun r w' => Own fS 1 9 w.heap.size w' r ((List.range n).map (powL a))) := by
  (refine callsV_of mix Try.func168 c_ipowers ?_; simp only [↓vsd, vsn, gW, qd, qv, ev, pick, argE, List.map_cons, List.map_nil, Option.map_some, Option.map_none, zipE, List.cons_append, List.nil_append, ne_eq, eq_self, forall_const, implies_true, if_true, if_false, reduceIte, List.cons.injEq, reduceCtorEq, Nat.reduceEqDiff, List.length_nil, List.length_cons, Nat.reduceAdd, Nat.reduceLT, List.set_cons_zero, List.set_cons_succ, ↓us_ipowers, r_ipowers])
  refine m_call (irounds_ok a.length (by have := ha.1; omega) _) ?_
  rintro _ w1 hx1 rfl
  simp only [↓vsd, vsn, gW, qd, qv, ev, pick, argE, List.map_cons, List.map_nil, Option.map_some, Option.map_none, zipE, List.cons_append, List.nil_append, ne_eq, eq_self, forall_const, implies_true, if_true, if_false, reduceIte, List.cons.injEq, reduceCtorEq, Nat.reduceEqDiff, List.length_nil, List.length_cons, Nat.reduceAdd, Nat.reduceLT, List.set_cons_zero, List.set_cons_succ, ↓us_ipowers, r_ipowers]
  refine m_bsl (one_el rfl) ?_
  rintro b w2 hb hblk hx2 hs2
  simp only [↓vsd, vsn, gW, qd, qv, ev, pick, argE, List.map_cons, List.map_nil, Option.map_some, Option.map_none, zipE, List.cons_append, List.nil_append, ne_eq, eq_self, forall_const, implies_true, if_true, if_false, reduceIte, List.cons.injEq, reduceCtorEq, Nat.reduceEqDiff, List.length_nil, List.length_cons, Nat.reduceAdd, Nat.reduceLT, List.set_cons_zero, List.set_cons_succ, ↓us_ipowers, r_ipowers]
  have h8 := ha.1
  have hp1 : powL a 1 = a := by show timesL (roundsL a.length) a = a; exact rounds_times ha
  have hx12 := hx1.trans hx2
  have hin : 0 < n := ho.1
  refine m_upto (n - 1) (fun k vs w' => ∃ v, vs = [v, S (powL a (k + 1))] ∧ Own fS 1 9 w.heap.size w' v ((List.range (k + 1)).map (powL a)) ∧ Ext w w') ⟨_, by rw [hp1], (Own.one1 fS_len hblk rfl (by have := hx1.size; omega)).to rfl, hx12⟩ ?_
  rintro k vs w3 hk ⟨v, rfl, ho3, hx3⟩
  have h0 : 0 < ((List.range (k + 1)).map (powL a)).length := by simp
  have hg0 : ((List.range (k + 1)).map (powL a)).getD 0 [] = roundsL a.length := by
    rw [List.getD_eq_getElem?_getD, List.getElem?_map, List.getElem?_range (by omega)]; rfl
  simp only [↓vsd, vsn, gW, qd, qv, ev, pick, argE, List.map_cons, List.map_nil, Option.map_some, Option.map_none, zipE, List.cons_append, List.nil_append, ne_eq, eq_self, forall_const, implies_true, if_true, if_false, reduceIte, List.cons.injEq, reduceCtorEq, Nat.reduceEqDiff, List.length_nil, List.length_cons, Nat.reduceAdd, Nat.reduceLT, List.set_cons_zero, List.set_cons_succ, ↓us_ipowers, r_ipowers, ho3.sq.facts, ho3.sq.at0 [] h0, hg0]
  have hin2 := ho.2.1
  have hl3 : ((List.range (k + 1)).map (powL a)).length = k + 1 := by simp
  refine ⟨by omega, fun hne => m_bsl (one_el rfl) ?_, fun he => ⟨hx3, ?_⟩⟩
  · rintro b4 w4 hb4 hblk4 hx4 hs4
    simp only [↓vsd, vsn, gW, qd, qv, ev, pick, argE, List.map_cons, List.map_nil, Option.map_some, Option.map_none, zipE, List.cons_append, List.nil_append, ne_eq, eq_self, forall_const, implies_true, if_true, if_false, reduceIte, List.cons.injEq, reduceCtorEq, Nat.reduceEqDiff, List.length_nil, List.length_cons, Nat.reduceAdd, Nat.reduceLT, List.set_cons_zero, List.set_cons_succ, ↓us_ipowers, r_ipowers]
    refine m_app (ho3.ext hx4) (Sq.one fS_len hblk4 rfl) fS_one (by decide) (by rw [hl3]; simp only [List.length_singleton]; omega) (by decide) ((hx3.trans hx4).size) ?_
    rintro v5 w5 ho5 hg5
    have hx5 := (ho3.ext hx4).grown (hx3.trans hx4) (Nat.le_refl _) hg5
    simp only [↓vsd, vsn, gW, qd, qv, ev, pick, argE, List.map_cons, List.map_nil, Option.map_some, Option.map_none, zipE, List.cons_append, List.nil_append, ne_eq, eq_self, forall_const, implies_true, if_true, if_false, reduceIte, List.cons.injEq, reduceCtorEq, Nat.reduceEqDiff, List.length_nil, List.length_cons, Nat.reduceAdd, Nat.reduceLT, List.set_cons_zero, List.set_cons_succ, ↓us_ipowers, r_ipowers]
    refine m_call (itimes_ok _ _ ha (powL_len _ _) _) ?_
    rintro _ w6 hx6 rfl
    simp only [↓vsd, vsn, gW, qd, qv, ev, pick, argE, List.map_cons, List.map_nil, Option.map_some, Option.map_none, zipE, List.cons_append, List.nil_append, ne_eq, eq_self, forall_const, implies_true, if_true, if_false, reduceIte, List.cons.injEq, reduceCtorEq, Nat.reduceEqDiff, List.length_nil, List.length_cons, Nat.reduceAdd, Nat.reduceLT, List.set_cons_zero, List.set_cons_succ, ↓us_ipowers, r_ipowers]
    have hlt : k < n - 1 := by
      rcases Nat.lt_or_ge k (n - 1) with h | h
      · exact h
      · exact absurd (by rw [show k + 1 = n by omega]; exact ho.2.2.1) hne
    exact UpTo.next hlt ⟨v5, rfl, (ho5.to (by rw [List.range_succ (n := k + 1), List.map_append]; rfl)).ext hx6, hx5.trans hx6⟩
  · have : k + 1 = n := by
      rcases Nat.lt_or_ge (k + 1) n with h | h
      · exact absurd he (ho.2.2.2 (k + 1) (by omega) h)
      · omega
    rw [← this]; exact ho3
def evenV (a : List UInt8) : Value := if IsRow a then .tuple ⟨[.bool (evB (invL a)), .bool true]⟩ else .tuple ⟨[.bool false, .bool false]⟩
def ordV (a : List UInt8) (n : Nat) : Value := if IsRow a then .tuple ⟨[.int .i64 (n : Nat), .bool true]⟩ else .tuple ⟨[.int .i64 0, .bool false]⟩
theorem iOrderOf_ok (a : List UInt8) (n : Nat) (ho : IsRow a → IsOrd a n) (w : World) : Fn 29 [S a] w (fun r _ => r = ordV a n) := by
  (refine callsV_of mix Try.func29 c_iOrderOf ?_; simp only [↓vsd, vsn, gW, qd, qv, ev, pick, argE, List.map_cons, List.map_nil, Option.map_some, Option.map_none, zipE, List.cons_append, List.nil_append, ne_eq, eq_self, forall_const, implies_true, if_true, if_false, reduceIte, List.cons.injEq, reduceCtorEq, Nat.reduceEqDiff, List.length_nil, List.length_cons, Nat.reduceAdd, Nat.reduceLT, List.set_cons_zero, List.set_cons_succ, ↓us_iOrderOf, r_iOrderOf])
  refine m_call (iGoodRow_ok _ _) ?_
  rintro _ w1 hx1 rfl
  by_cases h : IsRow a
  · simp only [↓vsd, vsn, gW, qd, qv, ev, pick, argE, List.map_cons, List.map_nil, Option.map_some, Option.map_none, zipE, List.cons_append, List.nil_append, ne_eq, eq_self, forall_const, implies_true, if_true, if_false, reduceIte, List.cons.injEq, reduceCtorEq, Nat.reduceEqDiff, List.length_nil, List.length_cons, Nat.reduceAdd, Nat.reduceLT, List.set_cons_zero, List.set_cons_succ, ↓us_iOrderOf, r_iOrderOf, h]
    refine m_call (ipowers_ok a n h (ho h) _) ?_
    rintro v w2 hx2 ho2
    simp only [↓vsd, vsn, gW, qd, qv, ev, pick, argE, List.map_cons, List.map_nil, Option.map_some, Option.map_none, zipE, List.cons_append, List.nil_append, ne_eq, eq_self, forall_const, implies_true, if_true, if_false, reduceIte, List.cons.injEq, reduceCtorEq, Nat.reduceEqDiff, List.length_nil, List.length_cons, Nat.reduceAdd, Nat.reduceLT, List.set_cons_zero, List.set_cons_succ, ↓us_iOrderOf, r_iOrderOf, ho2.sq.facts]
    exact ⟨hx1.trans hx2, by rw [ordV, if_pos h, List.length_map, List.length_range]⟩
  · simp only [↓vsd, vsn, gW, qd, qv, ev, pick, argE, List.map_cons, List.map_nil, Option.map_some, Option.map_none, zipE, List.cons_append, List.nil_append, ne_eq, eq_self, forall_const, implies_true, if_true, if_false, reduceIte, List.cons.injEq, reduceCtorEq, Nat.reduceEqDiff, List.length_nil, List.length_cons, Nat.reduceAdd, Nat.reduceLT, List.set_cons_zero, List.set_cons_succ, ↓us_iOrderOf, r_iOrderOf, h]
    exact ⟨hx1, by rw [ordV, if_neg h]⟩
end Go.Proofs.Ytjcnmobdlkmaeaa
