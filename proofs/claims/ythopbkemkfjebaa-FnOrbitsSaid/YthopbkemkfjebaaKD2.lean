/-
  The drawing of rows and stages.
  Conditions: none.
-/
import Derived.Test.YthopbkemkfjebaaKD1
set_option linter.unusedSimpArgs false
set_option linter.unusedVariables false
set_option linter.defProp false
namespace Go.Proofs.Ythopbkemkfjebaa
open Go Go.RowKit
section
variable (P : Program) (k : KT) (e : Env) (w : World)
abbrev b69_1 : X := (.seq (.reg [2] (.c (.q 3 [] (.mv (.t 0))) (.c (.e (some 4) [] (.bsl 3 1 [(.c (.int .i64 4)), (.c (.int .i64 4)), (.c (.int .i64 5)), (.c (.int .i64 5)), (.c (.int .i64 6)), (.c (.int .i64 6)), (.c (.int .i64 3)), (.c (.int .i64 7)), (.c (.int .i64 8))])) (.c (.e (some 5) [] (.call true 114 [(.t 3), (.t 4)])) (.c (.q 2 [] (.mv (.t 5))) .nil))))) .ret)
def t69_1 := b69_1
theorem u69_1 : vcK P t69_1 k e w = vcK P b69_1 k e w := rfl
abbrev b69_0 : X := (.seq (.reg [0] (.c (.q 2 [] (.mv (.c (.int .i64 0)))) .nil)) t69_1)
def x_sl1Cur_stage := b69_0
theorem u69_0 : vcK P x_sl1Cur_stage k e w = vcK P b69_0 k e w := rfl
def r_sl1Cur_stage : List XO := [(.mv (.t 2))]
theorem c_sl1Cur_stage : convF Try.prog [54, 55, 58, 69, 70, 71, 72, 73, 84, 89, 94, 95, 113, 114, 115, 130, 134, 143, 146, 161] Try.f69 [([0], []), ([2], [])] = some (x_sl1Cur_stage, r_sl1Cur_stage) := by kernel_rfl
def us_sl1Cur_stage :=  (aI @u69_0 @u69_1)
abbrev b73_1 : X := (.seq (.reg [4] (.c (.q 16 [] (.mv (.t 5))) (.c (.q 4 [] (.mv (.t 16))) .nil))) .ret)
def t73_1 := b73_1
theorem u73_1 : vcK P t73_1 k e w = vcK P b73_1 k e w := rfl
abbrev b73_2 : X := (.seq (.reg [5] (.c (.q 8 [] (.mv (.t 1))) (.c (.q 9 [] (.mv (.t 0))) (.c (.q 10 [] (.mv (.t 1))) (.c (.e (some 11) [] (.call false 138 [(.t 10)])) (.c (.e (some 12) [] (.call true 55 [(.t 9), (.t 11)])) (.c (.e (some 13) [] (.call false 137 [(.t 8), (.t 12)])) (.c (.q 7 [] (.mv (.t 13))) (.c (.q 14 [] (.ext 0 (.t 7))) (.c (.q 15 [] (.ext 1 (.t 7))) (.c (.q 5 [] (.mv (.t 14))) (.c (.q 6 [] (.mv (.t 15))) .nil)))))))))))) t73_1)
def t73_2 := b73_2
theorem u73_2 : vcK P t73_2 k e w = vcK P b73_2 k e w := rfl
abbrev b73_0 : X := (.seq (.reg [0, 1] (.c (.q 4 [] (.mv (.s []))) .nil)) t73_2)
def x_sl1Cur_row := b73_0
theorem u73_0 : vcK P x_sl1Cur_row k e w = vcK P b73_0 k e w := rfl
def r_sl1Cur_row : List XO := [(.mv (.t 4))]
theorem c_sl1Cur_row : convF Try.prog [54, 55, 58, 69, 70, 71, 72, 73, 84, 89, 94, 95, 113, 114, 115, 130, 134, 143, 146, 161] Try.f73 [([0, 1], []), ([5], []), ([4], [])] = some (x_sl1Cur_row, r_sl1Cur_row) := by kernel_rfl
def us_sl1Cur_row :=  (aI @u73_0 (aI @u73_1 @u73_2))
abbrev b71_1 : X := (.cond (.t 9) (.reg [3] (.c (.q 10 [] (.mv (.t 0))) (.c (.q 11 [] (.mv (.t 3))) (.c (.e (some 12) [] (.call true 95 [(.t 10), (.t 11), (.s [49, 50, 57, 48])])) (.c (.q 3 [] (.mv (.t 12))) .nil))))) .skip)
def t71_1 := b71_1
theorem u71_1 : vcK P t71_1 k e w = vcK P b71_1 k e w := rfl
abbrev b71_2 : X := (.seq (.reg [2] (.c (.q 13 [] (.mv (.t 3))) (.c (.q 2 [] (.mv (.t 13))) .nil))) .ret)
def t71_2 := b71_2
theorem u71_2 : vcK P t71_2 k e w = vcK P b71_2 k e w := rfl
abbrev b71_3 : X := (.seq (.seq (.reg [0, 3, 9] (.c (.q 8 [] (.mv (.t 0))) (.c (.e (some 9) [] (.call true 70 [(.t 8), (.c (.int .i64 12))])) .nil))) t71_1) t71_2)
def t71_3 := b71_3
theorem u71_3 : vcK P t71_3 k e w = vcK P b71_3 k e w := rfl
abbrev b71_4 : X := (.seq (.reg [0, 3] (.c (.q 4 [] (.mv (.t 0))) (.c (.q 5 [] (.mv (.t 0))) (.c (.e (some 6) [] (.call true 69 [(.t 5)])) (.c (.e (some 7) [] (.call true 73 [(.t 4), (.t 6)])) (.c (.q 3 [] (.mv (.t 7))) .nil)))))) t71_3)
def t71_4 := b71_4
theorem u71_4 : vcK P t71_4 k e w = vcK P b71_4 k e w := rfl
abbrev b71_0 : X := (.seq (.reg [0] (.c (.q 2 [] (.mv (.s []))) .nil)) t71_4)
def x_sl1Cur_anyRow := b71_0
theorem u71_0 : vcK P x_sl1Cur_anyRow k e w = vcK P b71_0 k e w := rfl
def r_sl1Cur_anyRow : List XO := [(.mv (.t 2))]
theorem c_sl1Cur_anyRow : convF Try.prog [54, 55, 58, 69, 70, 71, 72, 73, 84, 89, 94, 95, 113, 114, 115, 130, 134, 143, 146, 161] Try.f71 [([0], []), ([0, 3], []), ([0, 3, 9], []), ([3], []), ([2], [])] = some (x_sl1Cur_anyRow, r_sl1Cur_anyRow) := by kernel_rfl
def us_sl1Cur_anyRow :=  (aI (aI @u71_0 @u71_1) (aI @u71_2 (aI @u71_3 @u71_4)))
end
theorem Sq.lit {α : Type} {f : α → List Value} {z E : Nat} {w : World} {b : Nat} {cs : List Value} (l : List α) (n : Nat) (hz : ∀ a, (f a).length = z) (hb : Blk w b cs E) (e : cs = l.flatMap f) (hn : n = l.length) : Sq f z w (.slice (some ⟨b, 0, none⟩) n n) l := by
  subst e; subst hn
  refine ⟨hz, flat_len hz l, .inr ⟨⟨b, 0, none⟩, l.length, rfl, Nat.le_refl _, fun j u hj => ?_⟩⟩
  rw [Addr.add_lit, Nat.zero_add, hb.cell]
  exact hj
theorem Sq.litC {α : Type} {f : α → List Value} {z E : Nat} {w : World} {b c : Nat} {cs : List Value} (l : List α) (n : Nat) (hz : ∀ a, (f a).length = z) (hb : Blk w b cs E) (e : cs = l.flatMap f) (hn : n = l.length) (hne : c < b) : ∀ w', w.grownBy w' (some c) → Sq f z w' (.slice (some ⟨b, 0, none⟩) n n) l := fun w' hg =>
  Sq.lit l n hz (hb.same (hg.block b hb.lt (fun h => by have := Option.some.inj h; omega))) e hn
theorem Cur.new {w w1 : World} {v : Value} {code : List UInt8} {b : Nat} (h : Sq fU 1 w v code) (hl : code.length ≤ 1048576) (hb : b = w.heap.size) (hblk : Blk w1 b [v, .int .i64 0, .int .u64 0] 80) (hx : Ext w w1) : Cur w b 0 w1 :=
  ⟨v, code, 0, 0, hblk, h, hl, Nat.le_refl _, by omega, hx⟩
theorem sl1Cur_stage_ok (W : World) (b n : Nat) (w : World) (hn : n ≤ 800000000) (hc : Cur W b n w) : CurFn 69 [cV b] W b n 2 w (fun r _ => ∃ x : Nat, r = .int .i64 x ∧ 3 ≤ x ∧ x ≤ 8) := by
  (refine callsV_of mix Try.func69 c_sl1Cur_stage ?_; simp only [↓vsd, vsn, gW, qd, qv, ev, pick, argE, zipE, ne_eq, eq_self, forall_const, implies_true, if_true, if_false, reduceIte, reduceCtorEq, Nat.reduceEqDiff, Nat.reduceAdd, Nat.reduceLT, ↓us_sl1Cur_stage, r_sl1Cur_stage])
  refine m_bsl (fun p hp => by simp only [List.mem_cons, List.not_mem_nil, or_false] at hp; rcases hp with rfl | rfl | rfl | rfl | rfl | rfl | rfl | rfl | rfl <;> rfl) ?_
  rintro b1 w1 hb1 hblk1 hx1 hs1
  simp only [↓vsd, vsn, gW, qd, qv, ev, pick, argE, zipE, ne_eq, eq_self, forall_const, implies_true, if_true, if_false, reduceIte, reduceCtorEq, Nat.reduceEqDiff, Nat.reduceAdd, Nat.reduceLT, ↓us_sl1Cur_stage, r_sl1Cur_stage]
  have hlt := hc.lt
  refine m_callw (.inl rfl) (sl1Cur_among_ok W b n _ [4, 4, 5, 5, 6, 6, 3, 7, 8] w1 (by omega) (by decide) (hc.ext hx1) (Sq.litC _ _ fI_len hblk1 rfl rfl (by omega))) ?_
  rintro _ w2 ⟨hc2, hg2, x, rfl, hx⟩
  simp only [↓vsd, vsn, gW, qd, qv, ev, pick, argE, zipE, ne_eq, eq_self, forall_const, implies_true, if_true, if_false, reduceIte, reduceCtorEq, Nat.reduceEqDiff, Nat.reduceAdd, Nat.reduceLT, ↓us_sl1Cur_stage, r_sl1Cur_stage]
  have : 3 ≤ x ∧ x ≤ 8 := by simp only [List.mem_cons, List.not_mem_nil, or_false] at hx; omega
  exact ⟨hc2, grown_trans (grown_ext _ hx1) hg2, x.toNat, by rw [Int.toNat_of_nonneg (by omega)], by omega, by omega⟩
theorem sl1Cur_row_ok (W : World) (b n : Nat) (m : Nat) (hm : 3 ≤ m ∧ m ≤ 8) (w : World) (hn : n ≤ 800000000) (hc : Cur W b n w) : CurFn 73 [cV b, .int .i64 m] W b n 2 w (fun r _ => ∃ x, r = S x ∧ x.length = m) := by
  (refine callsV_of mix Try.func73 c_sl1Cur_row ?_; simp only [↓vsd, vsn, gW, qd, qv, ev, pick, argE, zipE, ne_eq, eq_self, forall_const, implies_true, if_true, if_false, reduceIte, reduceCtorEq, Nat.reduceEqDiff, Nat.reduceAdd, Nat.reduceLT, ↓us_sl1Cur_row, r_sl1Cur_row])
  refine m_call (sl1Fact_ok m (by omega) _) ?_
  rintro _ w1 hx1 rfl
  simp only [↓vsd, vsn, gW, qd, qv, ev, pick, argE, zipE, ne_eq, eq_self, forall_const, implies_true, if_true, if_false, reduceIte, reduceCtorEq, Nat.reduceEqDiff, Nat.reduceAdd, Nat.reduceLT, ↓us_sl1Cur_row, r_sl1Cur_row]
  have hf := factL_le m (by omega)
  refine m_callw (.inl rfl) (sl1Cur_pick_ok W b n (factL m : Nat) (by omega) w1 (by omega) (hc.ext hx1)) ?_
  rintro _ w2 ⟨hc2, hg2, x, rfl, hx⟩
  simp only [↓vsd, vsn, gW, qd, qv, ev, pick, argE, zipE, ne_eq, eq_self, forall_const, implies_true, if_true, if_false, reduceIte, reduceCtorEq, Nat.reduceEqDiff, Nat.reduceAdd, Nat.reduceLT, ↓us_sl1Cur_row, r_sl1Cur_row]
  refine m_call (sRowOf_ok m x (by omega) (by omega) _) ?_
  rintro _ w3 hx3 rfl
  simp only [↓vsd, vsn, gW, qd, qv, ev, pick, argE, zipE, ne_eq, eq_self, forall_const, implies_true, if_true, if_false, reduceIte, reduceCtorEq, Nat.reduceEqDiff, Nat.reduceAdd, Nat.reduceLT, ↓us_sl1Cur_row, r_sl1Cur_row]
  exact ⟨hc2.ext hx3, grown_trans (grown_trans (grown_ext _ hx1) hg2) (grown_ext _ hx3), _, rfl, rowGo_len _ _ _⟩
theorem sl1Cur_anyRow_ok (W : World) (b n : Nat) (w : World) (hn : n ≤ 700000000) (hc : Cur W b n w) : CurFn 71 [cV b] W b n 40 w (fun r _ => ∃ x, r = S x ∧ x.length ≤ 10) := by
  (refine callsV_of mix Try.func71 c_sl1Cur_anyRow ?_; simp only [↓vsd, vsn, gW, qd, qv, ev, pick, argE, zipE, ne_eq, eq_self, forall_const, implies_true, if_true, if_false, reduceIte, reduceCtorEq, Nat.reduceEqDiff, Nat.reduceAdd, Nat.reduceLT, ↓us_sl1Cur_anyRow, r_sl1Cur_anyRow])
  refine m_callw (.inl rfl) (sl1Cur_stage_ok W b n w (by omega) hc) ?_
  rintro _ w1 ⟨hc1, hg1, s, rfl, hs⟩
  simp only [↓vsd, vsn, gW, qd, qv, ev, pick, argE, zipE, ne_eq, eq_self, forall_const, implies_true, if_true, if_false, reduceIte, reduceCtorEq, Nat.reduceEqDiff, Nat.reduceAdd, Nat.reduceLT, ↓us_sl1Cur_anyRow, r_sl1Cur_anyRow]
  refine m_callw (.inl rfl) (sl1Cur_row_ok W b _ s hs w1 (by omega) hc1) ?_
  rintro _ w2 ⟨hc2, hg2, x, rfl, hx⟩
  simp only [↓vsd, vsn, gW, qd, qv, ev, pick, argE, zipE, ne_eq, eq_self, forall_const, implies_true, if_true, if_false, reduceIte, reduceCtorEq, Nat.reduceEqDiff, Nat.reduceAdd, Nat.reduceLT, ↓us_sl1Cur_anyRow, r_sl1Cur_anyRow]
  refine m_callw (.inl rfl) (sl1Cur_one_ok W b _ 12 (by omega) w2 (by omega) hc2) ?_
  rintro _ w3 ⟨hc3, hg3, y, rfl⟩
  have hg13 := grown_trans (grown_trans hg1 hg2) hg3
  cases y
  · simp only [↓vsd, vsn, gW, qd, qv, ev, pick, argE, zipE, ne_eq, eq_self, forall_const, implies_true, if_true, if_false, reduceIte, reduceCtorEq, Nat.reduceEqDiff, Nat.reduceAdd, Nat.reduceLT, ↓us_sl1Cur_anyRow, r_sl1Cur_anyRow]
    exact ⟨hc3.mono (by omega), hg13, _, rfl, by omega⟩
  · simp only [↓vsd, vsn, gW, qd, qv, ev, pick, argE, zipE, ne_eq, eq_self, forall_const, implies_true, if_true, if_false, reduceIte, reduceCtorEq, Nat.reduceEqDiff, Nat.reduceAdd, Nat.reduceLT, ↓us_sl1Cur_anyRow, r_sl1Cur_anyRow]
    refine m_callw (.inl rfl) (sl1Cur_spoilt_ok W b _ x [49, 50, 57, 48] w3 (by omega) (by omega) (by decide) hc3) ?_
    rintro _ w4 ⟨hc4, hg4, y, rfl, hy⟩
    simp only [↓vsd, vsn, gW, qd, qv, ev, pick, argE, zipE, ne_eq, eq_self, forall_const, implies_true, if_true, if_false, reduceIte, reduceCtorEq, Nat.reduceEqDiff, Nat.reduceAdd, Nat.reduceLT, ↓us_sl1Cur_anyRow, r_sl1Cur_anyRow]
    exact ⟨hc4.mono (by omega), grown_trans hg13 hg4, _, rfl, by omega⟩
end Go.Proofs.Ythopbkemkfjebaa
