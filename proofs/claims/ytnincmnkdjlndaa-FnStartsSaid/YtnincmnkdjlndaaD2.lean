/-
  The drawing of rows and stages.
  Conditions: none.
-/
import Derived.Test.YtnincmnkdjlndaaD1
set_option linter.unusedSimpArgs false
set_option linter.unusedVariables false
set_option linter.defProp false
namespace Go.Proofs.Ytnincmnkdjlndaa
open Go Go.RowKit
section
variable (P : Program) (k : KT) (e : Env) (w : World)
abbrev b162_1 : X := (.seq (.reg [2] (.c (.q 3 [] (.mv (.t 0))) (.c (.e (some 4) [] (.bsl 3 1 [(.c (.int .i64 4)), (.c (.int .i64 4)), (.c (.int .i64 5)), (.c (.int .i64 5)), (.c (.int .i64 6)), (.c (.int .i64 6)), (.c (.int .i64 3)), (.c (.int .i64 7)), (.c (.int .i64 8))])) (.c (.e (some 5) [] (.call true 235 [(.t 3), (.t 4)])) (.c (.q 2 [] (.mv (.t 5))) .nil))))) .ret)
def t162_1 := b162_1
theorem u162_1 : vcK P t162_1 k e w = vcK P b162_1 k e w := rfl
abbrev b162_0 : X := (.seq (.reg [0] (.c (.q 2 [] (.mv (.c (.int .i64 0)))) .nil)) t162_1)
def x_sl1Cur_stage := b162_0
theorem u162_0 : vcK P x_sl1Cur_stage k e w = vcK P b162_0 k e w := rfl
def r_sl1Cur_stage : List XO := [(.mv (.t 2))]
theorem c_sl1Cur_stage : convF Try.prog [147, 148, 152, 160, 162, 163, 170, 178, 206, 208, 210, 224, 233, 235, 236, 251, 264, 265, 268, 270, 287, 322] Try.f162 [([0], []), ([2], [])] = some (x_sl1Cur_stage, r_sl1Cur_stage) := by kernel_rfl
def us_sl1Cur_stage :=  (aI @u162_0 @u162_1)
abbrev b178_1 : X := (.seq (.reg [4] (.c (.q 16 [] (.mv (.t 5))) (.c (.q 4 [] (.mv (.t 16))) .nil))) .ret)
def t178_1 := b178_1
theorem u178_1 : vcK P t178_1 k e w = vcK P b178_1 k e w := rfl
abbrev b178_2 : X := (.seq (.reg [5] (.c (.q 8 [] (.mv (.t 1))) (.c (.q 9 [] (.mv (.t 0))) (.c (.q 10 [] (.mv (.t 1))) (.c (.e (some 11) [] (.call false 275 [(.t 10)])) (.c (.e (some 12) [] (.call true 148 [(.t 9), (.t 11)])) (.c (.e (some 13) [] (.call false 202 [(.t 8), (.t 12)])) (.c (.q 7 [] (.mv (.t 13))) (.c (.q 14 [] (.ext 0 (.t 7))) (.c (.q 15 [] (.ext 1 (.t 7))) (.c (.q 5 [] (.mv (.t 14))) (.c (.q 6 [] (.mv (.t 15))) .nil)))))))))))) t178_1)
def t178_2 := b178_2
theorem u178_2 : vcK P t178_2 k e w = vcK P b178_2 k e w := rfl
abbrev b178_0 : X := (.seq (.reg [0, 1] (.c (.q 4 [] (.mv (.s []))) .nil)) t178_2)
def x_sl1Cur_row := b178_0
theorem u178_0 : vcK P x_sl1Cur_row k e w = vcK P b178_0 k e w := rfl
def r_sl1Cur_row : List XO := [(.mv (.t 4))]
theorem c_sl1Cur_row : convF Try.prog [147, 148, 152, 160, 162, 163, 170, 178, 206, 208, 210, 224, 233, 235, 236, 251, 264, 265, 268, 270, 287, 322] Try.f178 [([0, 1], []), ([5], []), ([4], [])] = some (x_sl1Cur_row, r_sl1Cur_row) := by kernel_rfl
def us_sl1Cur_row :=  (aI @u178_0 (aI @u178_1 @u178_2))
abbrev b208_1 : X := (.cond (.t 9) (.reg [3] (.c (.q 10 [] (.mv (.t 0))) (.c (.q 11 [] (.mv (.t 3))) (.c (.e (some 12) [] (.call true 270 [(.t 10), (.t 11), (.s [49, 50, 57, 48])])) (.c (.q 3 [] (.mv (.t 12))) .nil))))) .skip)
def t208_1 := b208_1
theorem u208_1 : vcK P t208_1 k e w = vcK P b208_1 k e w := rfl
abbrev b208_2 : X := (.seq (.reg [2] (.c (.q 13 [] (.mv (.t 3))) (.c (.q 2 [] (.mv (.t 13))) .nil))) .ret)
def t208_2 := b208_2
theorem u208_2 : vcK P t208_2 k e w = vcK P b208_2 k e w := rfl
abbrev b208_3 : X := (.seq (.seq (.reg [0, 3, 9] (.c (.q 8 [] (.mv (.t 0))) (.c (.e (some 9) [] (.call true 160 [(.t 8), (.c (.int .i64 12))])) .nil))) t208_1) t208_2)
def t208_3 := b208_3
theorem u208_3 : vcK P t208_3 k e w = vcK P b208_3 k e w := rfl
abbrev b208_4 : X := (.seq (.reg [0, 3] (.c (.q 4 [] (.mv (.t 0))) (.c (.q 5 [] (.mv (.t 0))) (.c (.e (some 6) [] (.call true 162 [(.t 5)])) (.c (.e (some 7) [] (.call true 178 [(.t 4), (.t 6)])) (.c (.q 3 [] (.mv (.t 7))) .nil)))))) t208_3)
def t208_4 := b208_4
theorem u208_4 : vcK P t208_4 k e w = vcK P b208_4 k e w := rfl
abbrev b208_0 : X := (.seq (.reg [0] (.c (.q 2 [] (.mv (.s []))) .nil)) t208_4)
def x_sl1Cur_anyRow := b208_0
theorem u208_0 : vcK P x_sl1Cur_anyRow k e w = vcK P b208_0 k e w := rfl
def r_sl1Cur_anyRow : List XO := [(.mv (.t 2))]
theorem c_sl1Cur_anyRow : convF Try.prog [147, 148, 152, 160, 162, 163, 170, 178, 206, 208, 210, 224, 233, 235, 236, 251, 264, 265, 268, 270, 287, 322] Try.f208 [([0], []), ([0, 3], []), ([0, 3, 9], []), ([3], []), ([2], [])] = some (x_sl1Cur_anyRow, r_sl1Cur_anyRow) := by kernel_rfl
def us_sl1Cur_anyRow :=  (aI (aI @u208_0 @u208_1) (aI @u208_2 (aI @u208_3 @u208_4)))
abbrev b211_1 : X := (.cond (.t 23) (.seq (.reg [2, 3] (.c (.q 24 [] (.mv (.t 5))) (.c (.q 25 [] (.mv (.t 4))) (.c (.q 26 [] (.mv (.t 5))) (.c (.q 27 [] (.len (.t 26))) (.c (.e (some 28) [] (.call true 178 [(.t 25), (.t 27)])) (.c (.q 2 [] (.mv (.t 24))) (.c (.q 3 [] (.mv (.t 28))) .nil)))))))) .ret) .skip)
def t211_1 := b211_1
theorem u211_1 : vcK P t211_1 k e w = vcK P b211_1 k e w := rfl
abbrev b211_2 : X := (.seq (.reg [2, 3] (.c (.q 29 [] (.mv (.t 5))) (.c (.q 30 [] (.mv (.t 4))) (.c (.e (some 31) [] (.call true 208 [(.t 30)])) (.c (.q 2 [] (.mv (.t 29))) (.c (.q 3 [] (.mv (.t 31))) .nil)))))) .ret)
def t211_2 := b211_2
theorem u211_2 : vcK P t211_2 k e w = vcK P b211_2 k e w := rfl
abbrev b211_3 : X := (.seq (.seq (.reg [4, 5, 23] (.c (.q 11 [] (.mv (.t 5))) (.c (.q 12 [] (.len (.t 11))) (.c (.q 13 [] (.bin .geq (.t 12) (.c (.int .i64 3)))) (.c (.q 14 [] (.mv (.t 13))) (.c (.q 15 [(14, true)] (.mv (.t 5))) (.c (.q 16 [(14, true)] (.len (.t 15))) (.c (.q 17 [(14, true)] (.bin .leq (.t 16) (.c (.int .i64 8)))) (.c (.q 18 [] (.pick (.t 14) (.t 17) (.c (.bool false)))) (.c (.q 19 [] (.mv (.t 18))) (.c (.q 20 [(19, true)] (.mv (.t 4))) (.c (.e (some 21) [(19, true)] (.call true 160 [(.t 20), (.c (.int .i64 8))])) (.c (.q 22 [(19, true)] (.not (.t 21))) (.c (.q 23 [] (.pick (.t 19) (.t 22) (.c (.bool false)))) .nil)))))))))))))) t211_1) t211_2)
def t211_3 := b211_3
theorem u211_3 : vcK P t211_3 k e w = vcK P b211_3 k e w := rfl
abbrev b211_4 : X := (.seq (.reg [4, 5] (.c (.q 9 [] (.mv (.t 4))) (.c (.e (some 10) [] (.call true 208 [(.t 9)])) (.c (.q 5 [] (.mv (.t 10))) .nil)))) t211_3)
def t211_4 := b211_4
theorem u211_4 : vcK P t211_4 k e w = vcK P b211_4 k e w := rfl
abbrev b211_5 : X := (.seq (.reg [4] (.c (.q 6 [] (.mv (.t 0))) (.c (.q 7 [] (.bld [(.slice none 0 0), (.int .i64 0), (.int .u64 0)] [(0, 0, (.t 6))])) (.c (.e (some 8) [] (.box 121 (.t 7))) (.c (.q 4 [] (.mv (.t 8))) .nil))))) t211_4)
def t211_5 := b211_5
theorem u211_5 : vcK P t211_5 k e w = vcK P b211_5 k e w := rfl
abbrev b211_0 : X := (.seq (.reg [0] (.c (.q 2 [] (.mv (.s []))) (.c (.q 3 [] (.mv (.s []))) .nil))) t211_5)
def x_sDrawTimes := b211_0
theorem u211_0 : vcK P x_sDrawTimes k e w = vcK P b211_0 k e w := rfl
def r_sDrawTimes : List XO := [(.mv (.t 2)), (.mv (.t 3))]
theorem c_sDrawTimes : convF Try.prog [147, 148, 152, 160, 162, 163, 170, 178, 206, 208, 210, 224, 233, 235, 236, 251, 264, 265, 268, 270, 287, 322] Try.f211 [([0], []), ([4], []), ([4, 5], []), ([4, 5, 23], []), ([2, 3], []), ([2, 3], [])] = some (x_sDrawTimes, r_sDrawTimes) := by kernel_rfl
def us_sDrawTimes :=  (aI (aI @u211_0 (aI @u211_1 @u211_2)) (aI @u211_3 (aI @u211_4 @u211_5)))
abbrev b205_1 : X := (.seq (.reg [2] (.c (.q 7 [] (.mv (.t 3))) (.c (.e (some 8) [] (.bsl 3 1 [(.c (.int .i64 2)), (.c (.int .i64 3)), (.c (.int .i64 4)), (.c (.int .i64 5)), (.c (.int .i64 6)), (.c (.int .i64 7)), (.c (.int .i64 8)), (.c (.int .i64 9)), (.c (.int .i64 0)), (.c (.int .i64 (-1)))])) (.c (.e (some 9) [] (.call true 235 [(.t 7), (.t 8)])) (.c (.q 2 [] (.mv (.t 9))) .nil))))) .ret)
def t205_1 := b205_1
theorem u205_1 : vcK P t205_1 k e w = vcK P b205_1 k e w := rfl
abbrev b205_2 : X := (.seq (.reg [3] (.c (.q 4 [] (.mv (.t 0))) (.c (.q 5 [] (.bld [(.slice none 0 0), (.int .i64 0), (.int .u64 0)] [(0, 0, (.t 4))])) (.c (.e (some 6) [] (.box 121 (.t 5))) (.c (.q 3 [] (.mv (.t 6))) .nil))))) t205_1)
def t205_2 := b205_2
theorem u205_2 : vcK P t205_2 k e w = vcK P b205_2 k e w := rfl
abbrev b205_0 : X := (.seq (.reg [0] (.c (.q 2 [] (.mv (.c (.int .i64 0)))) .nil)) t205_2)
def x_sDrawRoundsOf := b205_0
theorem u205_0 : vcK P x_sDrawRoundsOf k e w = vcK P b205_0 k e w := rfl
def r_sDrawRoundsOf : List XO := [(.mv (.t 2))]
theorem c_sDrawRoundsOf : convF Try.prog [147, 148, 152, 160, 162, 163, 170, 178, 206, 208, 210, 224, 233, 235, 236, 251, 264, 265, 268, 270, 287, 322] Try.f205 [([0], []), ([3], []), ([2], [])] = some (x_sDrawRoundsOf, r_sDrawRoundsOf) := by kernel_rfl
def us_sDrawRoundsOf :=  (aI @u205_0 (aI @u205_1 @u205_2))
end

theorem Sq.lit {α : Type} {f : α → List Value} {z E : Nat} {w : World} {b : Nat} {cs : List Value} (l : List α) (n : Nat) (hz : ∀ a, (f a).length = z) (hb : Blk w b cs E) (e : cs = l.flatMap f) (hn : n = l.length) : Sq f z w (.slice (some ⟨b, 0, none⟩) n n) l := by
  subst e; subst hn
  refine ⟨hz, flat_len hz l, .inr ⟨⟨b, 0, none⟩, l.length, rfl, Nat.le_refl _, fun j u hj => ?_⟩⟩
  rw [Addr.add_lit, Nat.zero_add, hb.cell]
  exact hj
theorem Sq.litC {α : Type} {f : α → List Value} {z E : Nat} {w : World} {b c : Nat} {cs : List Value} (l : List α) (n : Nat) (hz : ∀ a, (f a).length = z) (hb : Blk w b cs E) (e : cs = l.flatMap f) (hn : n = l.length) (hne : c < b) : ∀ w', w.grownBy w' (some c) → Sq f z w' (.slice (some ⟨b, 0, none⟩) n n) l := fun w' hg =>
  Sq.lit l n hz (hb.same (hg.block b hb.lt (fun h => by have := Option.some.inj h; omega))) e hn
theorem Cur.new {w w1 : World} {v : Value} {code : List UInt8} {b : Nat} (h : Sq fU 1 w v code) (hl : code.length ≤ 1048576) (hb : b = w.heap.size) (hblk : Blk w1 b [v, .int .i64 0, .int .u64 0] 121) (hx : Ext w w1) : Cur w b 0 w1 :=
  ⟨v, code, 0, 0, hblk, h, hl, Nat.le_refl _, by omega, hx⟩
theorem sl1Cur_stage_ok (W : World) (b n : Nat) (w : World) (hn : n ≤ 800000000) (hc : Cur W b n w) : CurFn 162 [cV b] W b n 2 w (fun r _ => ∃ x : Nat, r = .int .i64 x ∧ 3 ≤ x ∧ x ≤ 8) := by
  (refine callsV_of mix Try.func162 c_sl1Cur_stage ?_; simp only [↓vsd, vsn, gW, qd, qv, ev, pick, argE, zipE, ne_eq, eq_self, forall_const, implies_true, if_true, if_false, reduceIte, reduceCtorEq, Nat.reduceEqDiff, Nat.reduceAdd, Nat.reduceLT, ↓us_sl1Cur_stage, r_sl1Cur_stage])
  refine m_bsl (fun p hp => by simp only [List.mem_cons, List.not_mem_nil, or_false] at hp; rcases hp with rfl | rfl | rfl | rfl | rfl | rfl | rfl | rfl | rfl <;> rfl) ?_
  rintro b1 w1 hb1 hblk1 hx1 hs1
  simp only [↓vsd, vsn, gW, qd, qv, ev, pick, argE, zipE, ne_eq, eq_self, forall_const, implies_true, if_true, if_false, reduceIte, reduceCtorEq, Nat.reduceEqDiff, Nat.reduceAdd, Nat.reduceLT, ↓us_sl1Cur_stage, r_sl1Cur_stage]
  have hlt := hc.lt
  refine m_callw (.inl rfl) (sl1Cur_among_ok W b n _ [4, 4, 5, 5, 6, 6, 3, 7, 8] w1 (by omega) (by decide) (hc.ext hx1) (Sq.litC _ _ fI_len hblk1 rfl rfl (by omega))) ?_
  rintro _ w2 ⟨hc2, hg2, x, rfl, hx⟩
  simp only [↓vsd, vsn, gW, qd, qv, ev, pick, argE, zipE, ne_eq, eq_self, forall_const, implies_true, if_true, if_false, reduceIte, reduceCtorEq, Nat.reduceEqDiff, Nat.reduceAdd, Nat.reduceLT, ↓us_sl1Cur_stage, r_sl1Cur_stage]
  have : 3 ≤ x ∧ x ≤ 8 := by simp only [List.mem_cons, List.not_mem_nil, or_false] at hx; omega
  exact ⟨hc2, grown_trans (grown_ext _ hx1) hg2, x.toNat, by rw [Int.toNat_of_nonneg (by omega)], by omega, by omega⟩
theorem sl1Cur_row_ok (W : World) (b n : Nat) (m : Nat) (hm : 3 ≤ m ∧ m ≤ 8) (w : World) (hn : n ≤ 800000000) (hc : Cur W b n w) : CurFn 178 [cV b, .int .i64 m] W b n 2 w (fun r _ => ∃ x, r = S x ∧ x.length = m) := by
  (refine callsV_of mix Try.func178 c_sl1Cur_row ?_; simp only [↓vsd, vsn, gW, qd, qv, ev, pick, argE, zipE, ne_eq, eq_self, forall_const, implies_true, if_true, if_false, reduceIte, reduceCtorEq, Nat.reduceEqDiff, Nat.reduceAdd, Nat.reduceLT, ↓us_sl1Cur_row, r_sl1Cur_row])
  refine m_call (sl1Fact_ok m (by omega) _) ?_
  rintro _ w1 hx1 rfl
  simp only [↓vsd, vsn, gW, qd, qv, ev, pick, argE, zipE, ne_eq, eq_self, forall_const, implies_true, if_true, if_false, reduceIte, reduceCtorEq, Nat.reduceEqDiff, Nat.reduceAdd, Nat.reduceLT, ↓us_sl1Cur_row, r_sl1Cur_row]
  have hf := factL_le m (by omega)
  refine m_callw (.inl rfl) (sl1Cur_pick_ok W b n (factL m : Nat) (by omega) w1 (by omega) (hc.ext hx1)) ?_
  rintro _ w2 ⟨hc2, hg2, x, rfl, hx⟩
  simp only [↓vsd, vsn, gW, qd, qv, ev, pick, argE, zipE, ne_eq, eq_self, forall_const, implies_true, if_true, if_false, reduceIte, reduceCtorEq, Nat.reduceEqDiff, Nat.reduceAdd, Nat.reduceLT, ↓us_sl1Cur_row, r_sl1Cur_row]
  refine m_call (sRowOf_ok m x (by omega) (by omega) _) ?_
  rintro _ w3 hx3 rfl
  simp only [↓vsd, vsn, gW, qd, qv, ev, pick, argE, zipE, ne_eq, eq_self, forall_const, implies_true, if_true, if_false, reduceIte, reduceCtorEq, Nat.reduceEqDiff, Nat.reduceAdd, Nat.reduceLT, ↓us_sl1Cur_row, r_sl1Cur_row]
  exact ⟨hc2.ext hx3, grown_trans (grown_trans (grown_ext _ hx1) hg2) (grown_ext _ hx3), _, rfl, rowGo_len _ _ _⟩
theorem sl1Cur_anyRow_ok (W : World) (b n : Nat) (w : World) (hn : n ≤ 700000000) (hc : Cur W b n w) : CurFn 208 [cV b] W b n 40 w (fun r _ => ∃ x, r = S x ∧ x.length ≤ 10) := by
  (refine callsV_of mix Try.func208 c_sl1Cur_anyRow ?_; simp only [↓vsd, vsn, gW, qd, qv, ev, pick, argE, zipE, ne_eq, eq_self, forall_const, implies_true, if_true, if_false, reduceIte, reduceCtorEq, Nat.reduceEqDiff, Nat.reduceAdd, Nat.reduceLT, ↓us_sl1Cur_anyRow, r_sl1Cur_anyRow])
  refine m_callw (.inl rfl) (sl1Cur_stage_ok W b n w (by omega) hc) ?_
  rintro _ w1 ⟨hc1, hg1, s, rfl, hs⟩
  simp only [↓vsd, vsn, gW, qd, qv, ev, pick, argE, zipE, ne_eq, eq_self, forall_const, implies_true, if_true, if_false, reduceIte, reduceCtorEq, Nat.reduceEqDiff, Nat.reduceAdd, Nat.reduceLT, ↓us_sl1Cur_anyRow, r_sl1Cur_anyRow]
  refine m_callw (.inl rfl) (sl1Cur_row_ok W b _ s hs w1 (by omega) hc1) ?_
  rintro _ w2 ⟨hc2, hg2, x, rfl, hx⟩
  simp only [↓vsd, vsn, gW, qd, qv, ev, pick, argE, zipE, ne_eq, eq_self, forall_const, implies_true, if_true, if_false, reduceIte, reduceCtorEq, Nat.reduceEqDiff, Nat.reduceAdd, Nat.reduceLT, ↓us_sl1Cur_anyRow, r_sl1Cur_anyRow]
  refine m_callw (.inl rfl) (sl1Cur_one_ok W b _ 12 (by omega) w2 (by omega) hc2) ?_
  rintro _ w3 ⟨hc3, hg3, y, rfl⟩
  have hg13 := grown_trans (grown_trans hg1 hg2) hg3
  cases y
  · simp only [↓vsd, vsn, gW, qd, qv, ev, pick, argE, zipE, ne_eq, eq_self, forall_const, implies_true, if_true, if_false, reduceIte, reduceCtorEq, Nat.reduceEqDiff, Nat.reduceAdd, Nat.reduceLT, ↓us_sl1Cur_anyRow, r_sl1Cur_anyRow]
    exact ⟨hc3.mono (by omega), hg13, _, rfl, by omega⟩
  · simp only [↓vsd, vsn, gW, qd, qv, ev, pick, argE, zipE, ne_eq, eq_self, forall_const, implies_true, if_true, if_false, reduceIte, reduceCtorEq, Nat.reduceEqDiff, Nat.reduceAdd, Nat.reduceLT, ↓us_sl1Cur_anyRow, r_sl1Cur_anyRow]
    refine m_callw (.inl rfl) (sl1Cur_spoilt_ok W b _ x [49, 50, 57, 48] w3 (by omega) (by omega) (by decide) hc3) ?_
    rintro _ w4 ⟨hc4, hg4, y, rfl, hy⟩
    simp only [↓vsd, vsn, gW, qd, qv, ev, pick, argE, zipE, ne_eq, eq_self, forall_const, implies_true, if_true, if_false, reduceIte, reduceCtorEq, Nat.reduceEqDiff, Nat.reduceAdd, Nat.reduceLT, ↓us_sl1Cur_anyRow, r_sl1Cur_anyRow]
    exact ⟨hc4.mono (by omega), grown_trans hg13 hg4, _, rfl, by omega⟩
theorem sDrawRoundsOf_ok (v : Value) (code : List UInt8) (hl : code.length ≤ 1048576) (w : World) (h : Sq fU 1 w v code) : Fn 205 [v] w (fun r _ => ∃ x : Int, r = .int .i64 x ∧ -1 ≤ x ∧ x ≤ 9) := by
  (refine callsV_of mix Try.func205 c_sDrawRoundsOf ?_; simp only [↓vsd, vsn, gW, qd, qv, ev, pick, argE, zipE, ne_eq, eq_self, forall_const, implies_true, if_true, if_false, reduceIte, reduceCtorEq, Nat.reduceEqDiff, Nat.reduceAdd, Nat.reduceLT, ↓us_sDrawRoundsOf, r_sDrawRoundsOf])
  simp only [↓vsd, vsn, gW, qd, qv, ev, pick, argE, zipE, ne_eq, eq_self, forall_const, implies_true, if_true, if_false, reduceIte, reduceCtorEq, Nat.reduceEqDiff, Nat.reduceAdd, Nat.reduceLT, ↓us_sDrawRoundsOf, r_sDrawRoundsOf, h.facts]
  refine m_al ?_
  rintro b w1 hb hblk hx1 hs1
  have hc := Cur.new h hl hb hblk hx1
  simp only [↓vsd, vsn, gW, qd, qv, ev, pick, argE, zipE, ne_eq, eq_self, forall_const, implies_true, if_true, if_false, reduceIte, reduceCtorEq, Nat.reduceEqDiff, Nat.reduceAdd, Nat.reduceLT, ↓us_sDrawRoundsOf, r_sDrawRoundsOf]
  refine m_bsl (fun p hp => by simp only [List.mem_cons, List.not_mem_nil, or_false] at hp; rcases hp with rfl | rfl | rfl | rfl | rfl | rfl | rfl | rfl | rfl | rfl <;> rfl) ?_
  rintro b2 w2 hb2 hblk2 hx2 hs2
  simp only [↓vsd, vsn, gW, qd, qv, ev, pick, argE, zipE, ne_eq, eq_self, forall_const, implies_true, if_true, if_false, reduceIte, reduceCtorEq, Nat.reduceEqDiff, Nat.reduceAdd, Nat.reduceLT, ↓us_sDrawRoundsOf, r_sDrawRoundsOf]
  refine m_callw (.inl rfl) (sl1Cur_among_ok w b _ _ [2, 3, 4, 5, 6, 7, 8, 9, 0, -1] w2 (by omega) (by decide) (hc.ext hx2) (Sq.litC _ _ fI_len hblk2 rfl rfl (by omega))) ?_
  rintro _ w3 ⟨hc3, hg3, x, rfl, hx⟩
  simp only [↓vsd, vsn, gW, qd, qv, ev, pick, argE, zipE, ne_eq, eq_self, forall_const, implies_true, if_true, if_false, reduceIte, reduceCtorEq, Nat.reduceEqDiff, Nat.reduceAdd, Nat.reduceLT, ↓us_sDrawRoundsOf, r_sDrawRoundsOf]
  exact ⟨hc3.base, _, rfl, by simp only [List.mem_cons, List.not_mem_nil, or_false] at hx; omega⟩
theorem sDrawTimes_ok (v : Value) (code : List UInt8) (hl : code.length ≤ 1048576) (w : World) (h : Sq fU 1 w v code) : Fn 211 [v] w (fun r _ => ∃ x y, r = .tuple ⟨[S x, S y]⟩ ∧ x.length ≤ 10 ∧ y.length ≤ 10) := by
  (refine callsV_of mix Try.func211 c_sDrawTimes ?_; simp only [↓vsd, vsn, gW, qd, qv, ev, pick, argE, zipE, ne_eq, eq_self, forall_const, implies_true, if_true, if_false, reduceIte, reduceCtorEq, Nat.reduceEqDiff, Nat.reduceAdd, Nat.reduceLT, ↓us_sDrawTimes, r_sDrawTimes])
  simp only [↓vsd, vsn, gW, qd, qv, ev, pick, argE, zipE, ne_eq, eq_self, forall_const, implies_true, if_true, if_false, reduceIte, reduceCtorEq, Nat.reduceEqDiff, Nat.reduceAdd, Nat.reduceLT, ↓us_sDrawTimes, r_sDrawTimes, h.facts]
  refine m_al ?_
  rintro b w1 hb hblk hx1 hs1
  have hc := Cur.new h hl hb hblk hx1
  simp only [↓vsd, vsn, gW, qd, qv, ev, pick, argE, zipE, ne_eq, eq_self, forall_const, implies_true, if_true, if_false, reduceIte, reduceCtorEq, Nat.reduceEqDiff, Nat.reduceAdd, Nat.reduceLT, ↓us_sDrawTimes, r_sDrawTimes]
  refine m_callw (.inl rfl) (sl1Cur_anyRow_ok w b _ w1 (by omega) hc) ?_
  rintro _ w2 ⟨hc2, hg2, x, rfl, hx⟩
  by_cases h38 : 3 ≤ x.length ∧ x.length ≤ 8
  · have h3 : 3 ≤ (x.length : Int) := by omega
    have h8 : (x.length : Int) ≤ 8 := by omega
    simp only [↓vsd, vsn, gW, qd, qv, ev, pick, argE, zipE, ne_eq, eq_self, forall_const, implies_true, if_true, if_false, reduceIte, reduceCtorEq, Nat.reduceEqDiff, Nat.reduceAdd, Nat.reduceLT, ↓us_sDrawTimes, r_sDrawTimes, h3, h8]
    refine m_callw (.inl rfl) (sl1Cur_one_ok w b _ 8 (by omega) w2 (by omega) hc2) ?_
    rintro _ w3 ⟨hc3, hg3, y, rfl⟩
    cases y
    · simp only [↓vsd, vsn, gW, qd, qv, ev, pick, argE, zipE, ne_eq, eq_self, forall_const, implies_true, if_true, if_false, reduceIte, reduceCtorEq, Nat.reduceEqDiff, Nat.reduceAdd, Nat.reduceLT, ↓us_sDrawTimes, r_sDrawTimes]
      refine m_callw (.inl rfl) (sl1Cur_row_ok w b _ x.length h38 w3 (by omega) hc3) ?_
      rintro _ w4 ⟨hc4, hg4, y, rfl, hy⟩
      simp only [↓vsd, vsn, gW, qd, qv, ev, pick, argE, zipE, ne_eq, eq_self, forall_const, implies_true, if_true, if_false, reduceIte, reduceCtorEq, Nat.reduceEqDiff, Nat.reduceAdd, Nat.reduceLT, ↓us_sDrawTimes, r_sDrawTimes]
      exact ⟨hc4.base, _, _, rfl, hx, by omega⟩
    · simp only [↓vsd, vsn, gW, qd, qv, ev, pick, argE, zipE, ne_eq, eq_self, forall_const, implies_true, if_true, if_false, reduceIte, reduceCtorEq, Nat.reduceEqDiff, Nat.reduceAdd, Nat.reduceLT, ↓us_sDrawTimes, r_sDrawTimes]
      refine m_callw (.inl rfl) (sl1Cur_anyRow_ok w b _ w3 (by omega) hc3) ?_
      rintro _ w4 ⟨hc4, hg4, y, rfl, hy⟩
      simp only [↓vsd, vsn, gW, qd, qv, ev, pick, argE, zipE, ne_eq, eq_self, forall_const, implies_true, if_true, if_false, reduceIte, reduceCtorEq, Nat.reduceEqDiff, Nat.reduceAdd, Nat.reduceLT, ↓us_sDrawTimes, r_sDrawTimes]
      exact ⟨hc4.base, _, _, rfl, hx, by omega⟩
  · have hno : ¬ (3 ≤ (x.length : Int) ∧ (x.length : Int) ≤ 8) := by omega
    simp only [↓vsd, vsn, gW, qd, qv, ev, pick, argE, zipE, ne_eq, eq_self, forall_const, implies_true, if_true, if_false, reduceIte, reduceCtorEq, Nat.reduceEqDiff, Nat.reduceAdd, Nat.reduceLT, ↓us_sDrawTimes, r_sDrawTimes, hno]
    refine m_callw (.inl rfl) (sl1Cur_anyRow_ok w b _ w2 (by omega) hc2) ?_
    rintro _ w4 ⟨hc4, hg4, y, rfl, hy⟩
    simp only [↓vsd, vsn, gW, qd, qv, ev, pick, argE, zipE, ne_eq, eq_self, forall_const, implies_true, if_true, if_false, reduceIte, reduceCtorEq, Nat.reduceEqDiff, Nat.reduceAdd, Nat.reduceLT, ↓us_sDrawTimes, r_sDrawTimes]
    exact ⟨hc4.base, _, _, rfl, hx, by omega⟩
end Go.Proofs.Ytnincmnkdjlndaa
