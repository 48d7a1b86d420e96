/-
  The drawing of generators, groups and lists of rows.
  Conditions: none.
-/
import Derived.Test.YtnincmnkdjlndaaD30
import Derived.Test.YtnincmnkdjlndaaA71
set_option linter.unusedSimpArgs false
set_option linter.unusedVariables false
set_option linter.defProp false
namespace Go.Proofs.Ytnincmnkdjlndaa
open Go Go.RowKit
section
variable (P : Program) (k : KT) (e : Env) (w : World)
abbrev b236_1 : X := (.cond (.t 13) .skip (.exit 0))
def t236_1 := b236_1
theorem u236_1 : vcK P t236_1 k e w = vcK P b236_1 k e w := rfl
abbrev b236_2 : X := (.reg [0, 3, 4, 5] (.c (.q 14 [] (.mv (.t 5))) (.c (.q 15 [] (.bin .sub (.t 14) (.c (.int .i64 1)))) (.c (.q 5 [] (.mv (.t 15))) .nil))))
def t236_2 := b236_2
theorem u236_2 : vcK P t236_2 k e w = vcK P b236_2 k e w := rfl
abbrev b236_3 : X := (.seq (.blk 1 (.reg [0, 3, 4, 5] (.c (.q 16 [] (.mv (.t 4))) (.c (.q 17 [] (.mv (.t 0))) (.c (.q 18 [] (.mv (.t 3))) (.c (.e (some 19) [] (.call true 178 [(.t 17), (.t 18)])) (.c (.e (some 20) [] (.bsl 9 1 [(.t 19)])) (.c (.e (some 21) [] (.app 24 9 1 16 [(S [])] 24 (.t 16) (.t 20))) (.c (.q 4 [] (.mv (.t 21))) .nil))))))))) t236_2)
def t236_3 := b236_3
theorem u236_3 : vcK P t236_3 k e w = vcK P b236_3 k e w := rfl
abbrev b236_4 : X := (.seq (.seq (.reg [0, 3, 4, 5, 13] (.c (.q 12 [] (.mv (.t 5))) (.c (.q 13 [] (.bin .gtr (.t 12) (.c (.int .i64 0)))) .nil))) t236_1) t236_3)
def t236_4 := b236_4
theorem u236_4 : vcK P t236_4 k e w = vcK P b236_4 k e w := rfl
abbrev b236_5 : X := (.blk 0 (.loop [4, 5] [0, 3] t236_4))
def t236_5 := b236_5
theorem u236_5 : vcK P t236_5 k e w = vcK P b236_5 k e w := rfl
abbrev b236_6 : X := (.seq (.reg [2] (.c (.q 22 [] (.mv (.t 4))) (.c (.q 2 [] (.mv (.t 22))) .nil))) .ret)
def t236_6 := b236_6
theorem u236_6 : vcK P t236_6 k e w = vcK P b236_6 k e w := rfl
abbrev b236_7 : X := (.seq (.seq (.reg [0, 3, 4, 5] (.c (.q 9 [] (.mv (.t 0))) (.c (.e (some 10) [] (.call true 148 [(.t 9), (.c (.int .i64 2))])) (.c (.q 11 [] (.bin .add (.c (.int .i64 1)) (.t 10))) (.c (.q 5 [] (.mv (.t 11))) .nil))))) t236_5) t236_6)
def t236_7 := b236_7
theorem u236_7 : vcK P t236_7 k e w = vcK P b236_7 k e w := rfl
abbrev b236_8 : X := (.seq (.reg [0, 3, 4] (.c (.q 4 [] (.mv (.c (.slice none 0 0)))) .nil)) t236_7)
def t236_8 := b236_8
theorem u236_8 : vcK P t236_8 k e w = vcK P b236_8 k e w := rfl
abbrev b236_9 : X := (.seq (.reg [0, 3] (.c (.q 6 [] (.mv (.t 0))) (.c (.e (some 7) [] (.bsl 3 1 [(.c (.int .i64 3)), (.c (.int .i64 4)), (.c (.int .i64 4)), (.c (.int .i64 5)), (.c (.int .i64 5))])) (.c (.e (some 8) [] (.call true 235 [(.t 6), (.t 7)])) (.c (.q 3 [] (.mv (.t 8))) .nil))))) t236_8)
def t236_9 := b236_9
theorem u236_9 : vcK P t236_9 k e w = vcK P b236_9 k e w := rfl
abbrev b236_0 : X := (.seq (.reg [0] (.c (.q 2 [] (.mv (.c (.slice none 0 0)))) .nil)) t236_9)
def x_sl1Cur_gens := b236_0
theorem u236_0 : vcK P x_sl1Cur_gens k e w = vcK P b236_0 k e w := rfl
def r_sl1Cur_gens : List XO := [(.mv (.t 2))]
theorem c_sl1Cur_gens : convF Try.prog [147, 148, 152, 160, 162, 163, 170, 178, 206, 208, 210, 224, 233, 235, 236, 251, 264, 265, 268, 270, 287, 322] Try.f236 [([0], []), ([0, 3], []), ([0, 3, 4], []), ([0, 3, 4, 5], []), ([4, 5], [0, 3]), ([0, 3, 4, 5, 13], []), ([0, 3, 4, 5], []), ([0, 3, 4, 5], []), ([2], [])] = some (x_sl1Cur_gens, r_sl1Cur_gens) := by kernel_rfl
def us_sl1Cur_gens :=  (aI (aI (aI @u236_0 @u236_1) (aI @u236_2 (aI @u236_3 @u236_4))) (aI (aI @u236_5 @u236_6) (aI @u236_7 (aI @u236_8 @u236_9))))
abbrev b224_1 : X := (.cond (.t 17) (.seq (.reg [2] (.c (.q 18 [] (.mv (.t 3))) (.c (.q 19 [] (.ssl 1 (.t 18) (some (.c (.int .i64 1))) none)) (.c (.q 2 [] (.mv (.t 19))) .nil)))) .ret) .skip)
def t224_1 := b224_1
theorem u224_1 : vcK P t224_1 k e w = vcK P b224_1 k e w := rfl
abbrev b224_2 : X := (.seq (.reg [2] (.c (.q 20 [] (.mv (.t 3))) (.c (.q 2 [] (.mv (.t 20))) .nil))) .ret)
def t224_2 := b224_2
theorem u224_2 : vcK P t224_2 k e w = vcK P b224_2 k e w := rfl
abbrev b224_3 : X := (.seq (.seq (.reg [3, 17] (.c (.q 11 [] (.mv (.t 3))) (.c (.q 12 [] (.lens (.t 11))) (.c (.q 13 [] (.bin .gtr (.t 12) (.c (.int .i64 1)))) (.c (.q 14 [] (.mv (.t 13))) (.c (.q 15 [(14, true)] (.mv (.t 0))) (.c (.e (some 16) [(14, true)] (.call true 160 [(.t 15), (.c (.int .i64 10))])) (.c (.q 17 [] (.pick (.t 14) (.t 16) (.c (.bool false)))) .nil)))))))) t224_1) t224_2)
def t224_3 := b224_3
theorem u224_3 : vcK P t224_3 k e w = vcK P b224_3 k e w := rfl
abbrev b224_4 : X := (.seq (.reg [0, 3] (.c (.q 6 [] (.mv (.t 0))) (.c (.e (some 7) [] (.call true 236 [(.t 6)])) (.c (.e (some 8) [] (.call false 194 [(.t 7)])) (.c (.q 5 [] (.mv (.t 8))) (.c (.q 9 [] (.ext 0 (.t 5))) (.c (.q 10 [] (.ext 1 (.t 5))) (.c (.q 3 [] (.mv (.t 9))) (.c (.q 4 [] (.mv (.t 10))) .nil))))))))) t224_3)
def t224_4 := b224_4
theorem u224_4 : vcK P t224_4 k e w = vcK P b224_4 k e w := rfl
abbrev b224_0 : X := (.seq (.reg [0] (.c (.q 2 [] (.mv (.c (.slice none 0 0)))) .nil)) t224_4)
def x_sl1Cur_group := b224_0
theorem u224_0 : vcK P x_sl1Cur_group k e w = vcK P b224_0 k e w := rfl
def r_sl1Cur_group : List XO := [(.mv (.t 2))]
theorem c_sl1Cur_group : convF Try.prog [147, 148, 152, 160, 162, 163, 170, 178, 206, 208, 210, 224, 233, 235, 236, 251, 264, 265, 268, 270, 287, 322] Try.f224 [([0], []), ([0, 3], []), ([3, 17], []), ([2], []), ([2], [])] = some (x_sl1Cur_group, r_sl1Cur_group) := by kernel_rfl
def us_sl1Cur_group :=  (aI (aI @u224_0 @u224_1) (aI @u224_2 (aI @u224_3 @u224_4)))
abbrev b114_1 : X := (.cond (.t 13) (.reg [4] (.c (.q 14 [] (.mv (.t 4))) (.c (.e (some 15) [] (.bsl 9 1 [(.s [49, 50, 51])])) (.c (.e (some 16) [] (.app 24 9 1 16 [(S [])] 24 (.t 14) (.t 15))) (.c (.q 4 [] (.mv (.t 16))) .nil))))) .skip)
def t114_1 := b114_1
theorem u114_1 : vcK P t114_1 k e w = vcK P b114_1 k e w := rfl
abbrev b114_2 : X := (.seq (.reg [2] (.c (.q 17 [] (.mv (.t 4))) (.c (.q 2 [] (.mv (.t 17))) .nil))) .ret)
def t114_2 := b114_2
theorem u114_2 : vcK P t114_2 k e w = vcK P b114_2 k e w := rfl
abbrev b114_3 : X := (.seq (.seq (.reg [4, 13] (.c (.q 12 [] (.mv (.t 3))) (.c (.e (some 13) [] (.call true 160 [(.t 12), (.c (.int .i64 12))])) .nil))) t114_1) t114_2)
def t114_3 := b114_3
theorem u114_3 : vcK P t114_3 k e w = vcK P b114_3 k e w := rfl
abbrev b114_4 : X := (.seq (.reg [3, 4] (.c (.q 8 [] (.mv (.t 3))) (.c (.q 9 [] (.mv (.t 3))) (.c (.e (some 10) [] (.call true 162 [(.t 9)])) (.c (.e (some 11) [] (.call true 233 [(.t 8), (.t 10), (.c (.int .i64 6))])) (.c (.q 4 [] (.mv (.t 11))) .nil)))))) t114_3)
def t114_4 := b114_4
theorem u114_4 : vcK P t114_4 k e w = vcK P b114_4 k e w := rfl
abbrev b114_5 : X := (.seq (.reg [3] (.c (.q 5 [] (.mv (.t 0))) (.c (.q 6 [] (.bld [(.slice none 0 0), (.int .i64 0), (.int .u64 0)] [(0, 0, (.t 5))])) (.c (.e (some 7) [] (.box 121 (.t 6))) (.c (.q 3 [] (.mv (.t 7))) .nil))))) t114_4)
def t114_5 := b114_5
theorem u114_5 : vcK P t114_5 k e w = vcK P b114_5 k e w := rfl
abbrev b114_0 : X := (.seq (.reg [0] (.c (.q 2 [] (.mv (.c (.slice none 0 0)))) .nil)) t114_5)
def x_sDrawGoodRows := b114_0
theorem u114_0 : vcK P x_sDrawGoodRows k e w = vcK P b114_0 k e w := rfl
def r_sDrawGoodRows : List XO := [(.mv (.t 2))]
theorem c_sDrawGoodRows : convF Try.prog [147, 148, 152, 160, 162, 163, 170, 178, 206, 208, 210, 224, 233, 235, 236, 251, 264, 265, 268, 270, 287, 322] Try.f114 [([0], []), ([3], []), ([3, 4], []), ([4, 13], []), ([4], []), ([2], [])] = some (x_sDrawGoodRows, r_sDrawGoodRows) := by kernel_rfl
def us_sDrawGoodRows :=  (aI (aI @u114_0 (aI @u114_1 @u114_2)) (aI @u114_3 (aI @u114_4 @u114_5)))
abbrev b107_1 : X := (.cond (.t 8) (.seq (.reg [2] (.c (.q 9 [] (.mv (.t 3))) (.c (.q 10 [] (.mv (.t 3))) (.c (.e (some 11) [] (.bsl 3 1 [(.c (.int .i64 6)), (.c (.int .i64 7))])) (.c (.e (some 12) [] (.call true 235 [(.t 10), (.t 11)])) (.c (.e (some 13) [] (.call true 233 [(.t 9), (.t 12), (.c (.int .i64 3))])) (.c (.q 2 [] (.mv (.t 13))) .nil))))))) .ret) .skip)
def t107_1 := b107_1
theorem u107_1 : vcK P t107_1 k e w = vcK P b107_1 k e w := rfl
abbrev b107_2 : X := (.seq (.reg [2] (.c (.q 14 [] (.mv (.t 3))) (.c (.e (some 15) [] (.call true 236 [(.t 14)])) (.c (.q 2 [] (.mv (.t 15))) .nil)))) .ret)
def t107_2 := b107_2
theorem u107_2 : vcK P t107_2 k e w = vcK P b107_2 k e w := rfl
abbrev b107_3 : X := (.seq (.seq (.reg [3, 8] (.c (.q 7 [] (.mv (.t 3))) (.c (.e (some 8) [] (.call true 160 [(.t 7), (.c (.int .i64 10))])) .nil))) t107_1) t107_2)
def t107_3 := b107_3
theorem u107_3 : vcK P t107_3 k e w = vcK P b107_3 k e w := rfl
abbrev b107_4 : X := (.seq (.reg [3] (.c (.q 4 [] (.mv (.t 0))) (.c (.q 5 [] (.bld [(.slice none 0 0), (.int .i64 0), (.int .u64 0)] [(0, 0, (.t 4))])) (.c (.e (some 6) [] (.box 121 (.t 5))) (.c (.q 3 [] (.mv (.t 6))) .nil))))) t107_3)
def t107_4 := b107_4
theorem u107_4 : vcK P t107_4 k e w = vcK P b107_4 k e w := rfl
abbrev b107_0 : X := (.seq (.reg [0] (.c (.q 2 [] (.mv (.c (.slice none 0 0)))) .nil)) t107_4)
def x_sDrawCloseRows := b107_0
theorem u107_0 : vcK P x_sDrawCloseRows k e w = vcK P b107_0 k e w := rfl
def r_sDrawCloseRows : List XO := [(.mv (.t 2))]
theorem c_sDrawCloseRows : convF Try.prog [147, 148, 152, 160, 162, 163, 170, 178, 206, 208, 210, 224, 233, 235, 236, 251, 264, 265, 268, 270, 287, 322] Try.f107 [([0], []), ([3], []), ([3, 8], []), ([2], []), ([2], [])] = some (x_sDrawCloseRows, r_sDrawCloseRows) := by kernel_rfl
def us_sDrawCloseRows :=  (aI (aI @u107_0 @u107_1) (aI @u107_2 (aI @u107_3 @u107_4)))
abbrev b112_1 : X := (.cond (.t 8) (.seq (.reg [2] (.c (.q 9 [] (.mv (.t 3))) (.c (.e (some 10) [] (.call true 233 [(.t 9), (.c (.int .i64 4)), (.c (.int .i64 5))])) (.c (.e (some 11) [] (.call false 230 [(.t 10)])) (.c (.q 2 [] (.mv (.t 11))) .nil))))) .ret) .skip)
def t112_1 := b112_1
theorem u112_1 : vcK P t112_1 k e w = vcK P b112_1 k e w := rfl
abbrev b112_2 : X := (.seq (.reg [2] (.c (.q 12 [] (.mv (.t 3))) (.c (.e (some 13) [] (.call true 224 [(.t 12)])) (.c (.q 2 [] (.mv (.t 13))) .nil)))) .ret)
def t112_2 := b112_2
theorem u112_2 : vcK P t112_2 k e w = vcK P b112_2 k e w := rfl
abbrev b112_3 : X := (.seq (.seq (.reg [3, 8] (.c (.q 7 [] (.mv (.t 3))) (.c (.e (some 8) [] (.call true 160 [(.t 7), (.c (.int .i64 4))])) .nil))) t112_1) t112_2)
def t112_3 := b112_3
theorem u112_3 : vcK P t112_3 k e w = vcK P b112_3 k e w := rfl
abbrev b112_4 : X := (.seq (.reg [3] (.c (.q 4 [] (.mv (.t 0))) (.c (.q 5 [] (.bld [(.slice none 0 0), (.int .i64 0), (.int .u64 0)] [(0, 0, (.t 4))])) (.c (.e (some 6) [] (.box 121 (.t 5))) (.c (.q 3 [] (.mv (.t 6))) .nil))))) t112_3)
def t112_4 := b112_4
theorem u112_4 : vcK P t112_4 k e w = vcK P b112_4 k e w := rfl
abbrev b112_0 : X := (.seq (.reg [0] (.c (.q 2 [] (.mv (.c (.slice none 0 0)))) .nil)) t112_4)
def x_sDrawIsGroup := b112_0
theorem u112_0 : vcK P x_sDrawIsGroup k e w = vcK P b112_0 k e w := rfl
def r_sDrawIsGroup : List XO := [(.mv (.t 2))]
theorem c_sDrawIsGroup : convF Try.prog [147, 148, 152, 160, 162, 163, 170, 178, 206, 208, 210, 224, 233, 235, 236, 251, 264, 265, 268, 270, 287, 322] Try.f112 [([0], []), ([3], []), ([3, 8], []), ([2], []), ([2], [])] = some (x_sDrawIsGroup, r_sDrawIsGroup) := by kernel_rfl
def us_sDrawIsGroup :=  (aI (aI @u112_0 @u112_1) (aI @u112_2 (aI @u112_3 @u112_4)))
end

theorem sl1Cur_row_okR (W : World) (b n : Nat) (m : Nat) (hm : 3 ≤ m ∧ m ≤ 8) (w : World) (hn : n ≤ 800000000) (hc : Cur W b n w) : CurFn 178 [cV b, .int .i64 m] W b n 2 w (fun r _ => ∃ x, r = S x ∧ IsRow x ∧ x.length = m) := by
  (refine callsV_of mix Try.func178 c_sl1Cur_row ?_; simp only [↓vsd, vsn, gW, qd, qv, ev, pick, argE, zipE, ne_eq, eq_self, forall_const, implies_true, if_true, if_false, reduceIte, reduceCtorEq, Nat.reduceEqDiff, Nat.reduceAdd, Nat.reduceLT, ↓us_sl1Cur_row, r_sl1Cur_row])
  refine m_call (sl1Fact_ok m (by omega) _) ?_
  rintro _ w1 hx1 rfl
  simp only [↓vsd, vsn, gW, qd, qv, ev, pick, argE, zipE, ne_eq, eq_self, forall_const, implies_true, if_true, if_false, reduceIte, reduceCtorEq, Nat.reduceEqDiff, Nat.reduceAdd, Nat.reduceLT, ↓us_sl1Cur_row, r_sl1Cur_row]
  have hf := factL_le m (by omega)
  have hp := factL_pos m
  refine m_callw (.inl rfl) (sl1Cur_pick_ok W b n (factL m : Nat) (by omega) w1 (by omega) (hc.ext hx1)) ?_
  rintro _ w2 ⟨hc2, hg2, x, rfl, hx⟩
  simp only [↓vsd, vsn, gW, qd, qv, ev, pick, argE, zipE, ne_eq, eq_self, forall_const, implies_true, if_true, if_false, reduceIte, reduceCtorEq, Nat.reduceEqDiff, Nat.reduceAdd, Nat.reduceLT, ↓us_sl1Cur_row, r_sl1Cur_row]
  refine m_call (sRowOf_ok m x (by omega) (by omega) _) ?_
  rintro _ w3 hx3 rfl
  simp only [↓vsd, vsn, gW, qd, qv, ev, pick, argE, zipE, ne_eq, eq_self, forall_const, implies_true, if_true, if_false, reduceIte, reduceCtorEq, Nat.reduceEqDiff, Nat.reduceAdd, Nat.reduceLT, ↓us_sl1Cur_row, r_sl1Cur_row]
  have hmem : rowGo m (roundsL m) x ∈ allR m := List.mem_map.2 ⟨x, List.mem_range.2 (by omega), rfl⟩
  have hr := (allR_mem hm _).1 hmem
  exact ⟨hc2.ext hx3, grown_trans (grown_trans (grown_ext _ hx1) hg2) (grown_ext _ hx3), _, rfl, hr.1, hr.2⟩
theorem sl1Cur_gens_ok (W : World) (b n : Nat) (w : World) (hn : n ≤ 700000000) (hc : Cur W b n w) : CurFn 236 [cV b] W b n 40 w (fun r w' => ∃ l : List Bs, Own fS 1 9 w.heap.size w' r l ∧ (1 ≤ l.length ∧ l.length ≤ 2) ∧ ∃ m, (3 ≤ m ∧ m ≤ 5) ∧ RowN m l) := by
  (refine callsV_of mix Try.func236 c_sl1Cur_gens ?_; simp only [↓vsd, vsn, gW, qd, qv, ev, pick, argE, zipE, ne_eq, eq_self, forall_const, implies_true, if_true, if_false, reduceIte, reduceCtorEq, Nat.reduceEqDiff, Nat.reduceAdd, Nat.reduceLT, ↓us_sl1Cur_gens, r_sl1Cur_gens])
  refine m_bsl (fun p hp => by simp only [List.mem_cons, List.not_mem_nil, or_false] at hp; rcases hp with rfl | rfl | rfl | rfl | rfl <;> rfl) ?_
  rintro b1 w1 hb1 hblk1 hx1 hs1
  have hlt := hc.lt
  simp only [↓vsd, vsn, gW, qd, qv, ev, pick, argE, zipE, ne_eq, eq_self, forall_const, implies_true, if_true, if_false, reduceIte, reduceCtorEq, Nat.reduceEqDiff, Nat.reduceAdd, Nat.reduceLT, ↓us_sl1Cur_gens, r_sl1Cur_gens]
  refine m_callw (.inl rfl) (sl1Cur_among_ok W b n _ [3, 4, 4, 5, 5] w1 (by omega) (by decide) (hc.ext hx1) (Sq.litC _ _ fI_len hblk1 rfl rfl (by omega))) ?_
  rintro _ w2 ⟨hc2, hg2, x, rfl, hx⟩
  have hx35 : 3 ≤ x ∧ x ≤ 5 := (by decide : ∀ x ∈ ([3, 4, 4, 5, 5] : List Int), 3 ≤ x ∧ x ≤ 5) x hx
  obtain ⟨m, rfl⟩ : ∃ m : Nat, x = m := ⟨x.toNat, by omega⟩
  have hm : 3 ≤ m ∧ m ≤ 5 := by omega
  simp only [↓vsd, vsn, gW, qd, qv, ev, pick, argE, zipE, ne_eq, eq_self, forall_const, implies_true, if_true, if_false, reduceIte, reduceCtorEq, Nat.reduceEqDiff, Nat.reduceAdd, Nat.reduceLT, ↓us_sl1Cur_gens, r_sl1Cur_gens]
  refine m_callw (.inl rfl) (sl1Cur_pick_ok W b _ 2 (by omega) w2 (by omega) hc2) ?_
  rintro _ w3 ⟨hc3, hg3, y, rfl, hy⟩
  have hg03 := grown_trans (grown_trans (grown_ext _ hx1) hg2) hg3
  simp only [↓vsd, vsn, gW, qd, qv, ev, pick, argE, zipE, ne_eq, eq_self, forall_const, implies_true, if_true, if_false, reduceIte, reduceCtorEq, Nat.reduceEqDiff, Nat.reduceAdd, Nat.reduceLT, ↓us_sl1Cur_gens, r_sl1Cur_gens]
  have hBb : ∀ c, some b = some c → c < w.heap.size := fun c hc => by obtain rfl := Option.some.inj hc; exact hlt.2
  refine ⟨inR_i64 (by omega), ?_⟩
  refine m_loop (fun j vs w' => ∃ (v : Value) (l : List Bs), vs = [v, .int .i64 j] ∧ j ≤ 2 ∧ l.length + j = 1 + y ∧ Own fS 1 9 w.heap.size w' v l ∧ RowN m l ∧ Cur W b (n + 14 - 2 * j) w' ∧ w.grownBy w' (some b)) (1 + y) ⟨_, [], by first | rfl | (simp; done) | (simp; omega), by omega, by simp, Own.nil fS_len, (fun r hr => by cases hr), hc3.mono (by omega), hg03⟩ ?_
  rintro j vs w4 ⟨v, l, rfl, hj, hl, ho, hr, hc4, hg4⟩
  by_cases hj0 : 0 < j
  · have hjI : 0 < (j : Int) := by omega
    have hjJ : ¬ (j : Int) ≤ 0 := by omega
    simp only [↓vsd, vsn, gW, qd, qv, ev, pick, argE, zipE, ne_eq, eq_self, forall_const, implies_true, if_true, if_false, reduceIte, reduceCtorEq, Nat.reduceEqDiff, Nat.reduceAdd, Nat.reduceLT, ↓us_sl1Cur_gens, r_sl1Cur_gens, hjI, hjJ]
    refine m_callw (.inl rfl) (sl1Cur_row_okR W b _ m (by omega) w4 (by omega) hc4) ?_
    rintro _ w5 ⟨hc5, hg5, z, rfl, hz⟩
    have ho5 := ho.keep hg5 hBb
    simp only [↓vsd, vsn, gW, qd, qv, ev, pick, argE, zipE, ne_eq, eq_self, forall_const, implies_true, if_true, if_false, reduceIte, reduceCtorEq, Nat.reduceEqDiff, Nat.reduceAdd, Nat.reduceLT, ↓us_sl1Cur_gens, r_sl1Cur_gens]
    refine m_bsl (one_el rfl) ?_
    rintro b6 w6 hb6 hblk6 hx6 hs6
    simp only [↓vsd, vsn, gW, qd, qv, ev, pick, argE, zipE, ne_eq, eq_self, forall_const, implies_true, if_true, if_false, reduceIte, reduceCtorEq, Nat.reduceEqDiff, Nat.reduceAdd, Nat.reduceLT, ↓us_sl1Cur_gens, r_sl1Cur_gens]
    have hg46 := grown_trans (grown_trans hg4 hg5) (grown_ext _ hx6)
    refine m_app (ho5.ext hx6) (Sq.one fS_len hblk6 rfl) fS_one (by decide) (by simp; omega) (by decide) hg46.size ?_
    rintro v7 w7 ho7 hg7
    simp only [↓vsd, vsn, gW, qd, qv, ev, pick, argE, zipE, ne_eq, eq_self, forall_const, implies_true, if_true, if_false, reduceIte, reduceCtorEq, Nat.reduceEqDiff, Nat.reduceAdd, Nat.reduceLT, ↓us_sl1Cur_gens, r_sl1Cur_gens]
    have hbnd := (ho5.ext hx6).bound
    refine ⟨inR_i64 (by omega), j - 1, by omega, v7, l ++ [z], ⟨rfl, by rw [show ((j : Int) - 1) = ((j - 1 : Nat) : Int) by omega]⟩, by omega, by simp; omega, ho7, fun r hm => ?_, ((hc5.ext hx6).keep hg7 (fun c hc => by have := (hbnd c hc).1; omega)).mono (by omega), grown_new hg46 hg7 (fun c hc => (hbnd c hc).1)⟩
    rcases List.mem_append.1 hm with h1 | h1
    · exact hr r h1
    · rw [List.mem_singleton.1 h1]; exact hz
  · have hjI : ¬ 0 < (j : Int) := by omega
    simp only [↓vsd, vsn, gW, qd, qv, ev, pick, argE, zipE, ne_eq, eq_self, forall_const, implies_true, if_true, if_false, reduceIte, reduceCtorEq, Nat.reduceEqDiff, Nat.reduceAdd, Nat.reduceLT, ↓us_sl1Cur_gens, r_sl1Cur_gens, hjI]
    exact ⟨hc4.mono (by omega), hg4, l, ho, by omega, m, hm, hr⟩
theorem gen_small {gens : List Bs} {n : Nat} (hn : 3 ≤ n ∧ n ≤ 8) (hr : RowN n gens) (hf : factL n ≤ 800) : GenOk gens (roundsL n) 800 := by
  have h := sub_lenP (clo_nodup gens (roundsL n) 800) (B := allR n) fun x hx => (allR_mem hn x).2 (gens_row hn hr 800 x hx)
  rw [allR_len] at h
  exact Nat.le_trans h hf
theorem genV_rows {gens : List Bs} {n : Nat} (hn : 3 ≤ n ∧ n ≤ 8) (hr : RowN n gens) (m : Nat) : RowN n (genV gens (roundsL n) m) := fun x hx => by
  unfold genV at hx
  split at hx
  · exact gens_row hn hr m x (srt_mem.1 hx)
  · cases hx
/-- What is read of a drawn list stays where the cursor goes on. -/
def Held (b : Nat) (w : World) (r : Value) (l : List Bs) : Prop := ∀ w', w.grownBy w' (some b) → Sq fS 1 w' r l
theorem Held.of {b B : Nat} {w : World} {r : Value} {l : List Bs} (h : Own fS 1 9 B w r l) (hb : b < B) : Held b w r l := fun w' hg => (h.keep hg fun c hc => by rw [← Option.some.inj hc]; exact hb).sq
theorem Held.go {b : Nat} {w w' : World} {r : Value} {l : List Bs} (h : Held b w r l) (hg : w.grownBy w' (some b)) : Held b w' r l := fun w'' hg' => h w'' (grown_trans hg hg')
theorem Held.sq {b : Nat} {w : World} {r : Value} {l : List Bs} (h : Held b w r l) : Sq fS 1 w r l := h w (grown_refl _ _)
/-- A list of rows of a stage: a group, or a group without its first row. -/
theorem sl1Cur_group_ok (W : World) (b n : Nat) (w : World) (hn : n ≤ 600000000) (hc : Cur W b n w) : CurFn 224 [cV b] W b n 50 w (fun r w' => ∃ l : List Bs, Held b w' r l ∧ l.length ≤ 800 ∧ ∃ m, (3 ≤ m ∧ m ≤ 5) ∧ RowN m l) := by
  (refine callsV_of mix Try.func224 c_sl1Cur_group ?_; simp only [↓vsd, vsn, gW, qd, qv, ev, pick, argE, zipE, ne_eq, eq_self, forall_const, implies_true, if_true, if_false, reduceIte, reduceCtorEq, Nat.reduceEqDiff, Nat.reduceAdd, Nat.reduceLT, ↓us_sl1Cur_group, r_sl1Cur_group])
  have hlt := hc.lt
  refine m_callw (.inl rfl) (sl1Cur_gens_ok W b n w (by omega) hc) ?_
  rintro x w1 ⟨hc1, hg1, l, ho1, hl, m, hm, hr⟩
  simp only [↓vsd, vsn, gW, qd, qv, ev, pick, argE, zipE, ne_eq, eq_self, forall_const, implies_true, if_true, if_false, reduceIte, reduceCtorEq, Nat.reduceEqDiff, Nat.reduceAdd, Nat.reduceLT, ↓us_sl1Cur_group, r_sl1Cur_group]
  refine m_call (sl6Close_ok m (by omega) x l hr (by omega) _ ho1.sq) ?_
  rintro _ w2 hx2 ⟨y, rfl, ho2⟩
  have hlen := genV_len l (roundsL m) 800
  have hs1 := hg1.size
  have hg2 := grown_trans hg1 (grown_ext _ hx2)
  have hc2 := hc1.ext hx2
  have hGr := genV_rows (by omega) hr 800
  generalize genV l (roundsL m) 800 = G at *
  by_cases h1 : 1 < G.length
  · have h1I : 1 < (G.length : Int) := by omega
    simp only [↓vsd, vsn, gW, qd, qv, ev, pick, argE, zipE, ne_eq, eq_self, forall_const, implies_true, if_true, if_false, reduceIte, reduceCtorEq, Nat.reduceEqDiff, Nat.reduceAdd, Nat.reduceLT, ↓us_sl1Cur_group, r_sl1Cur_group, ho2.sq.facts, h1I]
    refine m_callw (by first | exact .inl rfl | exact .inr rfl) (sl1Cur_one_ok W b (n + 40) 10 (by omega) _ (by omega) (by first | exact hc2 | exact hc2.ext (dr (Ext.refl _)))) ?_
    rintro _ w3 ⟨hc3, hg3, z, rfl⟩
    have hg3 : w2.grownBy w3 (some b) := by first | exact hg3 | exact gud hg3
    have ho3 := ho2.keep hg3 (fun c hc => by rw [← Option.some.inj hc]; omega)
    have hg13 := grown_trans hg2 hg3
    cases z
    · simp only [↓vsd, vsn, gW, qd, qv, ev, pick, argE, zipE, ne_eq, eq_self, forall_const, implies_true, if_true, if_false, reduceIte, reduceCtorEq, Nat.reduceEqDiff, Nat.reduceAdd, Nat.reduceLT, ↓us_sl1Cur_group, r_sl1Cur_group]
      exact ⟨hc3.mono (by omega), hg13, G, Held.of ho3 (by omega), by omega, m, hm, hGr⟩
    · obtain ⟨t1, t2⟩ := ho3.sq.tail .i64 1 (by omega)
      rw [Int.natCast_one] at t1 t2
      simp only [↓vsd, vsn, gW, qd, qv, ev, pick, argE, zipE, ne_eq, eq_self, forall_const, implies_true, if_true, if_false, reduceIte, reduceCtorEq, Nat.reduceEqDiff, Nat.reduceAdd, Nat.reduceLT, ↓us_sl1Cur_group, r_sl1Cur_group, t1]
      refine ⟨hc3.mono (by omega), hg13, G.drop 1, fun w' hg => ?_, by rw [List.length_drop]; omega, m, hm, fun x hx => hGr x (List.mem_of_mem_drop hx)⟩
      have ho' := ho3.keep hg (fun c hc => by rw [← Option.some.inj hc]; omega)
      have := (ho'.sq.tail .i64 1 (by omega)).2
      rw [Int.natCast_one] at this
      exact this
  · have h1I : ¬ 1 < (G.length : Int) := by omega
    simp only [↓vsd, vsn, gW, qd, qv, ev, pick, argE, zipE, ne_eq, eq_self, forall_const, implies_true, if_true, if_false, reduceIte, reduceCtorEq, Nat.reduceEqDiff, Nat.reduceAdd, Nat.reduceLT, ↓us_sl1Cur_group, r_sl1Cur_group, ho2.sq.facts, h1I]
    exact ⟨hc2.mono (by omega), hg2, G, Held.of ho2 (by omega), by omega, m, hm, hGr⟩
theorem sDrawCloseRows_ok (v : Value) (code : List UInt8) (hl : code.length ≤ 1048576) (w : World) (h : Sq fU 1 w v code) : Fn 107 [v] w (fun r w' => ∃ l : List Bs, Sq fS 1 w' r l ∧ l.length ≤ 100) := by
  (refine callsV_of mix Try.func107 c_sDrawCloseRows ?_; simp only [↓vsd, vsn, gW, qd, qv, ev, pick, argE, zipE, ne_eq, eq_self, forall_const, implies_true, if_true, if_false, reduceIte, reduceCtorEq, Nat.reduceEqDiff, Nat.reduceAdd, Nat.reduceLT, ↓us_sDrawCloseRows, r_sDrawCloseRows])
  simp only [↓vsd, vsn, gW, qd, qv, ev, pick, argE, zipE, ne_eq, eq_self, forall_const, implies_true, if_true, if_false, reduceIte, reduceCtorEq, Nat.reduceEqDiff, Nat.reduceAdd, Nat.reduceLT, ↓us_sDrawCloseRows, r_sDrawCloseRows, h.facts]
  refine m_al ?_
  rintro b w1 hb hblk hx1 hs1
  have hc := Cur.new h hl hb hblk hx1
  have hlt := hc.lt
  simp only [↓vsd, vsn, gW, qd, qv, ev, pick, argE, zipE, ne_eq, eq_self, forall_const, implies_true, if_true, if_false, reduceIte, reduceCtorEq, Nat.reduceEqDiff, Nat.reduceAdd, Nat.reduceLT, ↓us_sDrawCloseRows, r_sDrawCloseRows]
  refine m_callw (.inl rfl) (sl1Cur_one_ok w b _ 10 (by omega) w1 (by omega) hc) ?_
  rintro _ w2 ⟨hc2, hg2, z, rfl⟩
  cases z
  · simp only [↓vsd, vsn, gW, qd, qv, ev, pick, argE, zipE, ne_eq, eq_self, forall_const, implies_true, if_true, if_false, reduceIte, reduceCtorEq, Nat.reduceEqDiff, Nat.reduceAdd, Nat.reduceLT, ↓us_sDrawCloseRows, r_sDrawCloseRows]
    refine m_callw (.inl rfl) (sl1Cur_gens_ok w b _ w2 (by omega) hc2) ?_
    rintro x w3 ⟨hc3, hg3, l, ho3, hl3, _⟩
    simp only [↓vsd, vsn, gW, qd, qv, ev, pick, argE, zipE, ne_eq, eq_self, forall_const, implies_true, if_true, if_false, reduceIte, reduceCtorEq, Nat.reduceEqDiff, Nat.reduceAdd, Nat.reduceLT, ↓us_sDrawCloseRows, r_sDrawCloseRows]
    exact ⟨hc3.base, l, ho3.sq, by omega⟩
  · simp only [↓vsd, vsn, gW, qd, qv, ev, pick, argE, zipE, ne_eq, eq_self, forall_const, implies_true, if_true, if_false, reduceIte, reduceCtorEq, Nat.reduceEqDiff, Nat.reduceAdd, Nat.reduceLT, ↓us_sDrawCloseRows, r_sDrawCloseRows]
    refine m_bsl (fun p hp => by simp only [List.mem_cons, List.not_mem_nil, or_false] at hp; rcases hp with rfl | rfl <;> rfl) ?_
    rintro b3 w3 hb3 hblk3 hx3 hs3
    have hlt2 := hc2.lt
    simp only [↓vsd, vsn, gW, qd, qv, ev, pick, argE, zipE, ne_eq, eq_self, forall_const, implies_true, if_true, if_false, reduceIte, reduceCtorEq, Nat.reduceEqDiff, Nat.reduceAdd, Nat.reduceLT, ↓us_sDrawCloseRows, r_sDrawCloseRows]
    refine m_callw (.inl rfl) (sl1Cur_among_ok w b _ _ [6, 7] w3 (by omega) (by decide) (hc2.ext hx3) (Sq.litC _ _ fI_len hblk3 rfl rfl (by omega))) ?_
    rintro _ w4 ⟨hc4, hg4, x, rfl, hx⟩
    have hx67 : 6 ≤ x ∧ x ≤ 7 := (by decide : ∀ x ∈ ([6, 7] : List Int), 6 ≤ x ∧ x ≤ 7) x hx
    obtain ⟨m, rfl⟩ : ∃ m : Nat, x = m := ⟨x.toNat, by omega⟩
    simp only [↓vsd, vsn, gW, qd, qv, ev, pick, argE, zipE, ne_eq, eq_self, forall_const, implies_true, if_true, if_false, reduceIte, reduceCtorEq, Nat.reduceEqDiff, Nat.reduceAdd, Nat.reduceLT, ↓us_sDrawCloseRows, r_sDrawCloseRows]
    refine m_callw (.inl rfl) (sl1Cur_rowsOf_ok w b _ m (by omega) 3 (by omega) w4 (by omega) hc4) ?_
    rintro y w5 ⟨hc5, hg5, l, ho5, hl5⟩
    simp only [↓vsd, vsn, gW, qd, qv, ev, pick, argE, zipE, ne_eq, eq_self, forall_const, implies_true, if_true, if_false, reduceIte, reduceCtorEq, Nat.reduceEqDiff, Nat.reduceAdd, Nat.reduceLT, ↓us_sDrawCloseRows, r_sDrawCloseRows]
    exact ⟨hc5.base, l, ho5.sq, by omega⟩
theorem sDrawIsGroup_ok (v : Value) (code : List UInt8) (hl : code.length ≤ 1048576) (w : World) (h : Sq fU 1 w v code) : Fn 112 [v] w (fun r w' => ∃ l : List Bs, Sq fS 1 w' r l ∧ l.length ≤ 800) := by
  (refine callsV_of mix Try.func112 c_sDrawIsGroup ?_; simp only [↓vsd, vsn, gW, qd, qv, ev, pick, argE, zipE, ne_eq, eq_self, forall_const, implies_true, if_true, if_false, reduceIte, reduceCtorEq, Nat.reduceEqDiff, Nat.reduceAdd, Nat.reduceLT, ↓us_sDrawIsGroup, r_sDrawIsGroup])
  simp only [↓vsd, vsn, gW, qd, qv, ev, pick, argE, zipE, ne_eq, eq_self, forall_const, implies_true, if_true, if_false, reduceIte, reduceCtorEq, Nat.reduceEqDiff, Nat.reduceAdd, Nat.reduceLT, ↓us_sDrawIsGroup, r_sDrawIsGroup, h.facts]
  refine m_al ?_
  rintro b w1 hb hblk hx1 hs1
  have hc := Cur.new h hl hb hblk hx1
  simp only [↓vsd, vsn, gW, qd, qv, ev, pick, argE, zipE, ne_eq, eq_self, forall_const, implies_true, if_true, if_false, reduceIte, reduceCtorEq, Nat.reduceEqDiff, Nat.reduceAdd, Nat.reduceLT, ↓us_sDrawIsGroup, r_sDrawIsGroup]
  refine m_callw (.inl rfl) (sl1Cur_one_ok w b _ 4 (by omega) w1 (by omega) hc) ?_
  rintro _ w2 ⟨hc2, hg2, z, rfl⟩
  cases z
  · simp only [↓vsd, vsn, gW, qd, qv, ev, pick, argE, zipE, ne_eq, eq_self, forall_const, implies_true, if_true, if_false, reduceIte, reduceCtorEq, Nat.reduceEqDiff, Nat.reduceAdd, Nat.reduceLT, ↓us_sDrawIsGroup, r_sDrawIsGroup]
    refine m_callw (.inl rfl) (sl1Cur_group_ok w b _ w2 (by omega) hc2) ?_
    rintro x w3 ⟨hc3, hg3, l, ho3, hl3, _⟩
    simp only [↓vsd, vsn, gW, qd, qv, ev, pick, argE, zipE, ne_eq, eq_self, forall_const, implies_true, if_true, if_false, reduceIte, reduceCtorEq, Nat.reduceEqDiff, Nat.reduceAdd, Nat.reduceLT, ↓us_sDrawIsGroup, r_sDrawIsGroup]
    exact ⟨hc3.base, l, ho3.sq, hl3⟩
  · simp only [↓vsd, vsn, gW, qd, qv, ev, pick, argE, zipE, ne_eq, eq_self, forall_const, implies_true, if_true, if_false, reduceIte, reduceCtorEq, Nat.reduceEqDiff, Nat.reduceAdd, Nat.reduceLT, ↓us_sDrawIsGroup, r_sDrawIsGroup]
    refine m_callw (.inl rfl) (sl1Cur_rowsOf_ok w b _ 4 (by omega) 5 (by omega) w2 (by omega) hc2) ?_
    rintro y w3 ⟨hc3, hg3, l, ho3, hl3⟩
    simp only [↓vsd, vsn, gW, qd, qv, ev, pick, argE, zipE, ne_eq, eq_self, forall_const, implies_true, if_true, if_false, reduceIte, reduceCtorEq, Nat.reduceEqDiff, Nat.reduceAdd, Nat.reduceLT, ↓us_sDrawIsGroup, r_sDrawIsGroup]
    refine m_call (sl6Sort_ok _ _ y (Nat.le_refl _) (by omega) _ ho3.sq) ?_
    rintro z w4 hx4 ho4
    simp only [↓vsd, vsn, gW, qd, qv, ev, pick, argE, zipE, ne_eq, eq_self, forall_const, implies_true, if_true, if_false, reduceIte, reduceCtorEq, Nat.reduceEqDiff, Nat.reduceAdd, Nat.reduceLT, ↓us_sDrawIsGroup, r_sDrawIsGroup]
    exact ⟨hc3.base.trans hx4, _, ho4.sq, by rw [srt_len]; omega⟩
theorem sDrawGoodRows_ok (v : Value) (code : List UInt8) (hl : code.length ≤ 1048576) (w : World) (h : Sq fU 1 w v code) : Fn 114 [v] w (fun r w' => ∃ l : List Bs, Sq fS 1 w' r l ∧ l.length ≤ 101) := by
  (refine callsV_of mix Try.func114 c_sDrawGoodRows ?_; simp only [↓vsd, vsn, gW, qd, qv, ev, pick, argE, zipE, ne_eq, eq_self, forall_const, implies_true, if_true, if_false, reduceIte, reduceCtorEq, Nat.reduceEqDiff, Nat.reduceAdd, Nat.reduceLT, ↓us_sDrawGoodRows, r_sDrawGoodRows])
  simp only [↓vsd, vsn, gW, qd, qv, ev, pick, argE, zipE, ne_eq, eq_self, forall_const, implies_true, if_true, if_false, reduceIte, reduceCtorEq, Nat.reduceEqDiff, Nat.reduceAdd, Nat.reduceLT, ↓us_sDrawGoodRows, r_sDrawGoodRows, h.facts]
  refine m_al ?_
  rintro b w1 hb hblk hx1 hs1
  have hc := Cur.new h hl hb hblk hx1
  simp only [↓vsd, vsn, gW, qd, qv, ev, pick, argE, zipE, ne_eq, eq_self, forall_const, implies_true, if_true, if_false, reduceIte, reduceCtorEq, Nat.reduceEqDiff, Nat.reduceAdd, Nat.reduceLT, ↓us_sDrawGoodRows, r_sDrawGoodRows]
  refine m_callw (.inl rfl) (sl1Cur_stage_ok w b _ w1 (by omega) hc) ?_
  rintro _ w2 ⟨hc2, hg2, s, rfl, hs⟩
  simp only [↓vsd, vsn, gW, qd, qv, ev, pick, argE, zipE, ne_eq, eq_self, forall_const, implies_true, if_true, if_false, reduceIte, reduceCtorEq, Nat.reduceEqDiff, Nat.reduceAdd, Nat.reduceLT, ↓us_sDrawGoodRows, r_sDrawGoodRows]
  refine m_callw (.inl rfl) (sl1Cur_rowsOf_ok w b _ s hs 6 (by omega) w2 (by omega) hc2) ?_
  rintro y w3 ⟨hc3, hg3, l, ho3, hl3⟩
  have hlt2 := hc2.lt
  have hlt3 := hc3.lt
  simp only [↓vsd, vsn, gW, qd, qv, ev, pick, argE, zipE, ne_eq, eq_self, forall_const, implies_true, if_true, if_false, reduceIte, reduceCtorEq, Nat.reduceEqDiff, Nat.reduceAdd, Nat.reduceLT, ↓us_sDrawGoodRows, r_sDrawGoodRows]
  refine m_callw (.inl rfl) (sl1Cur_one_ok w b _ 12 (by omega) w3 (by omega) hc3) ?_
  rintro _ w4 ⟨hc4, hg4, z, rfl⟩
  have ho4 := ho3.keep hg4 (fun c hc => by rw [← Option.some.inj hc]; omega)
  cases z
  · simp only [↓vsd, vsn, gW, qd, qv, ev, pick, argE, zipE, ne_eq, eq_self, forall_const, implies_true, if_true, if_false, reduceIte, reduceCtorEq, Nat.reduceEqDiff, Nat.reduceAdd, Nat.reduceLT, ↓us_sDrawGoodRows, r_sDrawGoodRows]
    exact ⟨hc4.base, l, ho4.sq, by omega⟩
  · simp only [↓vsd, vsn, gW, qd, qv, ev, pick, argE, zipE, ne_eq, eq_self, forall_const, implies_true, if_true, if_false, reduceIte, reduceCtorEq, Nat.reduceEqDiff, Nat.reduceAdd, Nat.reduceLT, ↓us_sDrawGoodRows, r_sDrawGoodRows]
    refine m_bsl (one_el rfl) ?_
    rintro b5 w5 hb5 hblk5 hx5 hs5
    simp only [↓vsd, vsn, gW, qd, qv, ev, pick, argE, zipE, ne_eq, eq_self, forall_const, implies_true, if_true, if_false, reduceIte, reduceCtorEq, Nat.reduceEqDiff, Nat.reduceAdd, Nat.reduceLT, ↓us_sDrawGoodRows, r_sDrawGoodRows]
    refine m_app (ho4.ext hx5) (Sq.one fS_len hblk5 rfl) fS_one (by decide) (by simp; omega) (by decide) (Nat.le_trans hg3.size (Nat.le_trans hg4.size hx5.size)) ?_
    rintro v6 w6 ho6 hg6
    have hx6 := (ho4.ext hx5).grown (hc4.base.trans hx5) hc2.base.size hg6
    simp only [↓vsd, vsn, gW, qd, qv, ev, pick, argE, zipE, ne_eq, eq_self, forall_const, implies_true, if_true, if_false, reduceIte, reduceCtorEq, Nat.reduceEqDiff, Nat.reduceAdd, Nat.reduceLT, ↓us_sDrawGoodRows, r_sDrawGoodRows]
    exact ⟨hx6, _, ho6.sq, by simp; omega⟩
end Go.Proofs.Ytnincmnkdjlndaa
