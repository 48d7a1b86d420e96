/-
  The drawing of rows and stages.
  Conditions: none.
-/
import Derived.Test.YtfklonhjgkahdaaD1
set_option linter.unusedSimpArgs false
set_option linter.unusedVariables false
set_option linter.defProp false
namespace Go.Proofs.Ytfklonhjgkahdaa
open Go Go.RowKit
section
variable (P : Program) (k : KT) (e : Env) (w : World)
abbrev b41_1 : X := (.seq (.reg [2] (.c (.q 3 [] (.mv (.t 0))) (.c (.e (some 4) [] (.bsl 3 1 [(.c (.int .i64 4)), (.c (.int .i64 4)), (.c (.int .i64 5)), (.c (.int .i64 5)), (.c (.int .i64 6)), (.c (.int .i64 6)), (.c (.int .i64 3)), (.c (.int .i64 7)), (.c (.int .i64 8))])) (.c (.e (some 5) [] (.call true 58 [(.t 3), (.t 4)])) (.c (.q 2 [] (.mv (.t 5))) .nil))))) .ret)
def t41_1 := b41_1
theorem u41_1 : vcK P t41_1 k e w = vcK P b41_1 k e w := rfl
abbrev b41_0 : X := (.seq (.reg [0] (.c (.q 2 [] (.mv (.c (.int .i64 0)))) .nil)) t41_1)
def x_sl1Cur_stage := b41_0
theorem u41_0 : vcK P x_sl1Cur_stage k e w = vcK P b41_0 k e w := rfl
def r_sl1Cur_stage : List XO := [(.mv (.t 2))]
theorem c_sl1Cur_stage : convF Try.prog [38, 39, 41, 42, 49, 54, 55, 57, 58, 59, 79, 81, 84, 87, 139] Try.f41 [([0], []), ([2], [])] = some (x_sl1Cur_stage, r_sl1Cur_stage) := by kernel_rfl
def us_sl1Cur_stage :=  (aI @u41_0 @u41_1)
end

theorem Sq.lit {α : Type} {f : α → List Value} {z E : Nat} {w : World} {b : Nat} {cs : List Value} (l : List α) (n : Nat) (hz : ∀ a, (f a).length = z) (hb : Blk w b cs E) (e : cs = l.flatMap f) (hn : n = l.length) : Sq f z w (.slice (some ⟨b, 0, none⟩) n n) l := by
  subst e; subst hn
  refine ⟨hz, flat_len hz l, .inr ⟨⟨b, 0, none⟩, l.length, rfl, Nat.le_refl _, fun j u hj => ?_⟩⟩
  rw [Addr.add_lit, Nat.zero_add, hb.cell]
  exact hj
theorem Sq.litC {α : Type} {f : α → List Value} {z E : Nat} {w : World} {b c : Nat} {cs : List Value} (l : List α) (n : Nat) (hz : ∀ a, (f a).length = z) (hb : Blk w b cs E) (e : cs = l.flatMap f) (hn : n = l.length) (hne : c < b) : ∀ w', w.grownBy w' (some c) → Sq f z w' (.slice (some ⟨b, 0, none⟩) n n) l := fun w' hg =>
  Sq.lit l n hz (hb.same (hg.block b hb.lt (fun h => by have := Option.some.inj h; omega))) e hn
theorem Cur.new {w w1 : World} {v : Value} {code : List UInt8} {b : Nat} (h : Sq fU 1 w v code) (hl : code.length ≤ 1048576) (hb : b = w.heap.size) (hblk : Blk w1 b [v, .int .i64 0, .int .u64 0] 61) (hx : Ext w w1) : Cur w b 0 w1 :=
  ⟨v, code, 0, 0, hblk, h, hl, Nat.le_refl _, by omega, hx⟩
theorem sl1Cur_stage_ok (W : World) (b n : Nat) (w : World) (hn : n ≤ 800000000) (hc : Cur W b n w) : CurFn 41 [cV b] W b n 2 w (fun r _ => ∃ x : Nat, r = .int .i64 x ∧ 3 ≤ x ∧ x ≤ 8) := by
  (refine callsV_of mix Try.func41 c_sl1Cur_stage ?_; simp only [↓vsd, vsn, gW, qd, qv, ev, pick, argE, zipE, ne_eq, eq_self, forall_const, implies_true, if_true, if_false, reduceIte, reduceCtorEq, Nat.reduceEqDiff, Nat.reduceAdd, Nat.reduceLT, ↓us_sl1Cur_stage, r_sl1Cur_stage])
  refine m_bsl (fun p hp => by simp only [List.mem_cons, List.not_mem_nil, or_false] at hp; rcases hp with rfl | rfl | rfl | rfl | rfl | rfl | rfl | rfl | rfl <;> rfl) ?_
  rintro b1 w1 hb1 hblk1 hx1 hs1
  simp only [↓vsd, vsn, gW, qd, qv, ev, pick, argE, zipE, ne_eq, eq_self, forall_const, implies_true, if_true, if_false, reduceIte, reduceCtorEq, Nat.reduceEqDiff, Nat.reduceAdd, Nat.reduceLT, ↓us_sl1Cur_stage, r_sl1Cur_stage]
  have hlt := hc.lt
  refine m_callw (.inl rfl) (sl1Cur_among_ok W b n _ [4, 4, 5, 5, 6, 6, 3, 7, 8] w1 (by omega) (by decide) (hc.ext hx1) (Sq.litC _ _ fI_len hblk1 rfl rfl (by omega))) ?_
  rintro _ w2 ⟨hc2, hg2, x, rfl, hx⟩
  simp only [↓vsd, vsn, gW, qd, qv, ev, pick, argE, zipE, ne_eq, eq_self, forall_const, implies_true, if_true, if_false, reduceIte, reduceCtorEq, Nat.reduceEqDiff, Nat.reduceAdd, Nat.reduceLT, ↓us_sl1Cur_stage, r_sl1Cur_stage]
  have : 3 ≤ x ∧ x ≤ 8 := by simp only [List.mem_cons, List.not_mem_nil, or_false] at hx; omega
  exact ⟨hc2, grown_trans (grown_ext _ hx1) hg2, x.toNat, by rw [Int.toNat_of_nonneg (by omega)], by omega, by omega⟩
end Go.Proofs.Ytfklonhjgkahdaa
