/-
  The drawing of rows and stages.
  Conditions: none.
-/
import Derived.Test.YthopbkemkfjebaaGreatKD1
set_option linter.unusedSimpArgs false
set_option linter.unusedVariables false
set_option linter.defProp false
namespace Go.Proofs.YthopbkemkfjebaaGreat
open Go Go.RowKit
section
variable (P : Program) (k : KT) (e : Env) (w : World)
abbrev b62_1 : X := (.seq (.reg [4] (.c (.q 16 [] (.mv (.t 5))) (.c (.q 4 [] (.mv (.t 16))) .nil))) .ret)
def t62_1 := b62_1
theorem u62_1 : vcK P t62_1 k e w = vcK P b62_1 k e w := rfl
abbrev b62_2 : X := (.seq (.reg [5] (.c (.q 8 [] (.mv (.t 1))) (.c (.q 9 [] (.mv (.t 0))) (.c (.q 10 [] (.mv (.t 1))) (.c (.e (some 11) [] (.call false 117 [(.t 10)])) (.c (.e (some 12) [] (.call true 61 [(.t 9), (.t 11)])) (.c (.e (some 13) [] (.call false 116 [(.t 8), (.t 12)])) (.c (.q 7 [] (.mv (.t 13))) (.c (.q 14 [] (.ext 0 (.t 7))) (.c (.q 15 [] (.ext 1 (.t 7))) (.c (.q 5 [] (.mv (.t 14))) (.c (.q 6 [] (.mv (.t 15))) .nil)))))))))))) t62_1)
def t62_2 := b62_2
theorem u62_2 : vcK P t62_2 k e w = vcK P b62_2 k e w := rfl
abbrev b62_0 : X := (.seq (.reg [0, 1] (.c (.q 4 [] (.mv (.s []))) .nil)) t62_2)
def x_sl1Cur_row := b62_0
theorem u62_0 : vcK P x_sl1Cur_row k e w = vcK P b62_0 k e w := rfl
def r_sl1Cur_row : List XO := [(.mv (.t 4))]
theorem c_sl1Cur_row : convF Tryz.prog [56, 58, 59, 60, 61, 62, 72, 73, 77, 97, 98, 109, 110, 111, 112, 115, 128, 136] Tryz.f62 [([0, 1], []), ([5], []), ([4], [])] = some (x_sl1Cur_row, r_sl1Cur_row) := by kernel_rfl
def us_sl1Cur_row :=  (aI @u62_0 (aI @u62_1 @u62_2))
end
theorem Sq.lit {α : Type} {f : α → List Value} {z E : Nat} {w : World} {b : Nat} {cs : List Value} (l : List α) (n : Nat) (hz : ∀ a, (f a).length = z) (hb : Blk w b cs E) (e : cs = l.flatMap f) (hn : n = l.length) : Sq f z w (.slice (some ⟨b, 0, none⟩) n n) l := by
  subst e; subst hn
  refine ⟨hz, flat_len hz l, .inr ⟨⟨b, 0, none⟩, l.length, rfl, Nat.le_refl _, fun j u hj => ?_⟩⟩
  rw [Addr.add_lit, Nat.zero_add, hb.cell]
  exact hj
theorem Sq.litC {α : Type} {f : α → List Value} {z E : Nat} {w : World} {b c : Nat} {cs : List Value} (l : List α) (n : Nat) (hz : ∀ a, (f a).length = z) (hb : Blk w b cs E) (e : cs = l.flatMap f) (hn : n = l.length) (hne : c < b) : ∀ w', w.grownBy w' (some c) → Sq f z w' (.slice (some ⟨b, 0, none⟩) n n) l := fun w' hg =>
  Sq.lit l n hz (hb.same (hg.block b hb.lt (fun h => by have := Option.some.inj h; omega))) e hn
theorem Cur.new {w w1 : World} {v : Value} {code : List UInt8} {b : Nat} (h : Sq fU 1 w v code) (hl : code.length ≤ 1048576) (hb : b = w.heap.size) (hblk : Blk w1 b [v, .int .i64 0, .int .u64 0] 78) (hx : Ext w w1) : Cur w b 0 w1 :=
  ⟨v, code, 0, 0, hblk, h, hl, Nat.le_refl _, by omega, hx⟩
theorem sl1Cur_row_ok (W : World) (b n : Nat) (m : Nat) (hm : 3 ≤ m ∧ m ≤ 8) (w : World) (hn : n ≤ 800000000) (hc : Cur W b n w) : CurFn 62 [cV b, .int .i64 m] W b n 2 w (fun r _ => ∃ x, r = S x ∧ x.length = m) := by
  (refine callsV_of mix Tryz.func62 c_sl1Cur_row ?_; simp only [↓vsd, vsn, gW, qd, qv, ev, pick, argE, zipE, ne_eq, eq_self, forall_const, implies_true, if_true, if_false, reduceIte, reduceCtorEq, Nat.reduceEqDiff, Nat.reduceAdd, Nat.reduceLT, ↓us_sl1Cur_row, r_sl1Cur_row])
  refine m_call (sl1Fact_ok m (by omega) _) ?_
  rintro _ w1 hx1 rfl
  simp only [↓vsd, vsn, gW, qd, qv, ev, pick, argE, zipE, ne_eq, eq_self, forall_const, implies_true, if_true, if_false, reduceIte, reduceCtorEq, Nat.reduceEqDiff, Nat.reduceAdd, Nat.reduceLT, ↓us_sl1Cur_row, r_sl1Cur_row]
  have hf := factL_le m (by omega)
  refine m_callw (.inl rfl) (sl1Cur_pick_ok W b n (factL m : Nat) (by omega) w1 (by omega) (hc.ext hx1)) ?_
  rintro _ w2 ⟨hc2, hg2, x, rfl, hx⟩
  simp only [↓vsd, vsn, gW, qd, qv, ev, pick, argE, zipE, ne_eq, eq_self, forall_const, implies_true, if_true, if_false, reduceIte, reduceCtorEq, Nat.reduceEqDiff, Nat.reduceAdd, Nat.reduceLT, ↓us_sl1Cur_row, r_sl1Cur_row]
  refine m_call (sRowOf_ok m x (by omega) (by omega) _) ?_
  rintro _ w3 hx3 rfl
  simp only [↓vsd, vsn, gW, qd, qv, ev, pick, argE, zipE, ne_eq, eq_self, forall_const, implies_true, if_true, if_false, reduceIte, reduceCtorEq, Nat.reduceEqDiff, Nat.reduceAdd, Nat.reduceLT, ↓us_sl1Cur_row, r_sl1Cur_row]
  exact ⟨hc2.ext hx3, grown_trans (grown_trans (grown_ext _ hx1) hg2) (grown_ext _ hx3), _, rfl, rowGo_len _ _ _⟩
end Go.Proofs.YthopbkemkfjebaaGreat
