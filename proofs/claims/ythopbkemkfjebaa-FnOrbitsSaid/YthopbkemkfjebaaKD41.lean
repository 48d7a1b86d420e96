/-
  The drawing of generators, groups and lists of rows.
  Conditions: none.
-/
import Derived.Test.YthopbkemkfjebaaKA71
import Derived.Test.YthopbkemkfjebaaKD30
set_option linter.unusedSimpArgs false
set_option linter.unusedVariables false
set_option linter.defProp false
namespace Go.Proofs.Ythopbkemkfjebaa
open Go Go.RowKit
section
variable (P : Program) (k : KT) (e : Env) (w : World)
abbrev b54_1 : X := (.cond (.t 13) .skip (.exit 0))
def t54_1 := b54_1
theorem u54_1 : vcK P t54_1 k e w = vcK P b54_1 k e w := rfl
abbrev b54_2 : X := (.reg [0, 3, 4, 5] (.c (.q 14 [] (.mv (.t 5))) (.c (.q 15 [] (.bin .sub (.t 14) (.c (.int .i64 1)))) (.c (.q 5 [] (.mv (.t 15))) .nil))))
def t54_2 := b54_2
theorem u54_2 : vcK P t54_2 k e w = vcK P b54_2 k e w := rfl
abbrev b54_3 : X := (.seq (.blk 1 (.reg [0, 3, 4, 5] (.c (.q 16 [] (.mv (.t 4))) (.c (.q 17 [] (.mv (.t 0))) (.c (.q 18 [] (.mv (.t 3))) (.c (.e (some 19) [] (.call true 73 [(.t 17), (.t 18)])) (.c (.e (some 20) [] (.bsl 9 1 [(.t 19)])) (.c (.e (some 21) [] (.app 24 9 1 16 [(S [])] 24 (.t 16) (.t 20))) (.c (.q 4 [] (.mv (.t 21))) .nil))))))))) t54_2)
def t54_3 := b54_3
theorem u54_3 : vcK P t54_3 k e w = vcK P b54_3 k e w := rfl
abbrev b54_4 : X := (.seq (.seq (.reg [0, 3, 4, 5, 13] (.c (.q 12 [] (.mv (.t 5))) (.c (.q 13 [] (.bin .gtr (.t 12) (.c (.int .i64 0)))) .nil))) t54_1) t54_3)
def t54_4 := b54_4
theorem u54_4 : vcK P t54_4 k e w = vcK P b54_4 k e w := rfl
abbrev b54_5 : X := (.blk 0 (.loop [4, 5] [0, 3] t54_4))
def t54_5 := b54_5
theorem u54_5 : vcK P t54_5 k e w = vcK P b54_5 k e w := rfl
abbrev b54_6 : X := (.seq (.reg [2] (.c (.q 22 [] (.mv (.t 4))) (.c (.q 2 [] (.mv (.t 22))) .nil))) .ret)
def t54_6 := b54_6
theorem u54_6 : vcK P t54_6 k e w = vcK P b54_6 k e w := rfl
abbrev b54_7 : X := (.seq (.seq (.reg [0, 3, 4, 5] (.c (.q 9 [] (.mv (.t 0))) (.c (.e (some 10) [] (.call true 55 [(.t 9), (.c (.int .i64 2))])) (.c (.q 11 [] (.bin .add (.c (.int .i64 1)) (.t 10))) (.c (.q 5 [] (.mv (.t 11))) .nil))))) t54_5) t54_6)
def t54_7 := b54_7
theorem u54_7 : vcK P t54_7 k e w = vcK P b54_7 k e w := rfl
abbrev b54_8 : X := (.seq (.reg [0, 3, 4] (.c (.q 4 [] (.mv (.c (.slice none 0 0)))) .nil)) t54_7)
def t54_8 := b54_8
theorem u54_8 : vcK P t54_8 k e w = vcK P b54_8 k e w := rfl
abbrev b54_9 : X := (.seq (.reg [0, 3] (.c (.q 6 [] (.mv (.t 0))) (.c (.e (some 7) [] (.bsl 3 1 [(.c (.int .i64 3)), (.c (.int .i64 4)), (.c (.int .i64 4)), (.c (.int .i64 5)), (.c (.int .i64 5))])) (.c (.e (some 8) [] (.call true 114 [(.t 6), (.t 7)])) (.c (.q 3 [] (.mv (.t 8))) .nil))))) t54_8)
def t54_9 := b54_9
theorem u54_9 : vcK P t54_9 k e w = vcK P b54_9 k e w := rfl
abbrev b54_0 : X := (.seq (.reg [0] (.c (.q 2 [] (.mv (.c (.slice none 0 0)))) .nil)) t54_9)
def x_sl1Cur_gens := b54_0
theorem u54_0 : vcK P x_sl1Cur_gens k e w = vcK P b54_0 k e w := rfl
def r_sl1Cur_gens : List XO := [(.mv (.t 2))]
theorem c_sl1Cur_gens : convF Try.prog [54, 55, 58, 69, 70, 71, 72, 73, 84, 89, 94, 95, 113, 114, 115, 130, 134, 143, 146, 161] Try.f54 [([0], []), ([0, 3], []), ([0, 3, 4], []), ([0, 3, 4, 5], []), ([4, 5], [0, 3]), ([0, 3, 4, 5, 13], []), ([0, 3, 4, 5], []), ([0, 3, 4, 5], []), ([2], [])] = some (x_sl1Cur_gens, r_sl1Cur_gens) := by kernel_rfl
def us_sl1Cur_gens :=  (aI (aI (aI @u54_0 @u54_1) (aI @u54_2 (aI @u54_3 @u54_4))) (aI (aI @u54_5 @u54_6) (aI @u54_7 (aI @u54_8 @u54_9))))
abbrev b66_1 : X := (.cond (.t 13) (.reg [4] (.c (.q 14 [] (.mv (.t 4))) (.c (.e (some 15) [] (.bsl 9 1 [(.s [49, 50, 51])])) (.c (.e (some 16) [] (.app 24 9 1 16 [(S [])] 24 (.t 14) (.t 15))) (.c (.q 4 [] (.mv (.t 16))) .nil))))) .skip)
def t66_1 := b66_1
theorem u66_1 : vcK P t66_1 k e w = vcK P b66_1 k e w := rfl
abbrev b66_2 : X := (.seq (.reg [2] (.c (.q 17 [] (.mv (.t 4))) (.c (.q 2 [] (.mv (.t 17))) .nil))) .ret)
def t66_2 := b66_2
theorem u66_2 : vcK P t66_2 k e w = vcK P b66_2 k e w := rfl
abbrev b66_3 : X := (.seq (.seq (.reg [4, 13] (.c (.q 12 [] (.mv (.t 3))) (.c (.e (some 13) [] (.call true 70 [(.t 12), (.c (.int .i64 12))])) .nil))) t66_1) t66_2)
def t66_3 := b66_3
theorem u66_3 : vcK P t66_3 k e w = vcK P b66_3 k e w := rfl
abbrev b66_4 : X := (.seq (.reg [3, 4] (.c (.q 8 [] (.mv (.t 3))) (.c (.q 9 [] (.mv (.t 3))) (.c (.e (some 10) [] (.call true 69 [(.t 9)])) (.c (.e (some 11) [] (.call true 72 [(.t 8), (.t 10), (.c (.int .i64 6))])) (.c (.q 4 [] (.mv (.t 11))) .nil)))))) t66_3)
def t66_4 := b66_4
theorem u66_4 : vcK P t66_4 k e w = vcK P b66_4 k e w := rfl
abbrev b66_5 : X := (.seq (.reg [3] (.c (.q 5 [] (.mv (.t 0))) (.c (.q 6 [] (.bld [(.slice none 0 0), (.int .i64 0), (.int .u64 0)] [(0, 0, (.t 5))])) (.c (.e (some 7) [] (.box 80 (.t 6))) (.c (.q 3 [] (.mv (.t 7))) .nil))))) t66_4)
def t66_5 := b66_5
theorem u66_5 : vcK P t66_5 k e w = vcK P b66_5 k e w := rfl
abbrev b66_0 : X := (.seq (.reg [0] (.c (.q 2 [] (.mv (.c (.slice none 0 0)))) .nil)) t66_5)
def x_sDrawGoodRows := b66_0
theorem u66_0 : vcK P x_sDrawGoodRows k e w = vcK P b66_0 k e w := rfl
def r_sDrawGoodRows : List XO := [(.mv (.t 2))]
theorem c_sDrawGoodRows : convF Try.prog [54, 55, 58, 69, 70, 71, 72, 73, 84, 89, 94, 95, 113, 114, 115, 130, 134, 143, 146, 161] Try.f66 [([0], []), ([3], []), ([3, 4], []), ([4, 13], []), ([4], []), ([2], [])] = some (x_sDrawGoodRows, r_sDrawGoodRows) := by kernel_rfl
def us_sDrawGoodRows :=  (aI (aI @u66_0 (aI @u66_1 @u66_2)) (aI @u66_3 (aI @u66_4 @u66_5)))
end
theorem sl1Cur_row_okR (W : World) (b n : Nat) (m : Nat) (hm : 3 ≤ m ∧ m ≤ 8) (w : World) (hn : n ≤ 800000000) (hc : Cur W b n w) : CurFn 73 [cV b, .int .i64 m] W b n 2 w (fun r _ => ∃ x, r = S x ∧ IsRow x ∧ x.length = m) := by
  (refine callsV_of mix Try.func73 c_sl1Cur_row ?_; simp only [↓vsd, vsn, gW, qd, qv, ev, pick, argE, zipE, ne_eq, eq_self, forall_const, implies_true, if_true, if_false, reduceIte, reduceCtorEq, Nat.reduceEqDiff, Nat.reduceAdd, Nat.reduceLT, ↓us_sl1Cur_row, r_sl1Cur_row])
  refine m_call (sl1Fact_ok m (by omega) _) ?_
  rintro _ w1 hx1 rfl
  simp only [↓vsd, vsn, gW, qd, qv, ev, pick, argE, zipE, ne_eq, eq_self, forall_const, implies_true, if_true, if_false, reduceIte, reduceCtorEq, Nat.reduceEqDiff, Nat.reduceAdd, Nat.reduceLT, ↓us_sl1Cur_row, r_sl1Cur_row]
  have hf := factL_le m (by omega)
  have hp := factL_pos m
  refine m_callw (.inl rfl) (sl1Cur_pick_ok W b n (factL m : Nat) (by omega) w1 (by omega) (hc.ext hx1)) ?_
  rintro _ w2 ⟨hc2, hg2, x, rfl, hx⟩
  simp only [↓vsd, vsn, gW, qd, qv, ev, pick, argE, zipE, ne_eq, eq_self, forall_const, implies_true, if_true, if_false, reduceIte, reduceCtorEq, Nat.reduceEqDiff, Nat.reduceAdd, Nat.reduceLT, ↓us_sl1Cur_row, r_sl1Cur_row]
  refine m_call (sRowOf_ok m x (by omega) (by omega) _) ?_
  rintro _ w3 hx3 rfl
  simp only [↓vsd, vsn, gW, qd, qv, ev, pick, argE, zipE, ne_eq, eq_self, forall_const, implies_true, if_true, if_false, reduceIte, reduceCtorEq, Nat.reduceEqDiff, Nat.reduceAdd, Nat.reduceLT, ↓us_sl1Cur_row, r_sl1Cur_row]
  have hmem : rowGo m (roundsL m) x ∈ allR m := List.mem_map.2 ⟨x, List.mem_range.2 (by omega), rfl⟩
  have hr := (allR_mem hm _).1 hmem
  exact ⟨hc2.ext hx3, grown_trans (grown_trans (grown_ext _ hx1) hg2) (grown_ext _ hx3), _, rfl, hr.1, hr.2⟩
theorem sl1Cur_gens_ok (W : World) (b n : Nat) (w : World) (hn : n ≤ 700000000) (hc : Cur W b n w) : CurFn 54 [cV b] W b n 40 w (fun r w' => ∃ l : List Bs, Own fS 1 9 w.heap.size w' r l ∧ (1 ≤ l.length ∧ l.length ≤ 2) ∧ ∃ m, (3 ≤ m ∧ m ≤ 5) ∧ RowN m l) := by
  (refine callsV_of mix Try.func54 c_sl1Cur_gens ?_; simp only [↓vsd, vsn, gW, qd, qv, ev, pick, argE, zipE, ne_eq, eq_self, forall_const, implies_true, if_true, if_false, reduceIte, reduceCtorEq, Nat.reduceEqDiff, Nat.reduceAdd, Nat.reduceLT, ↓us_sl1Cur_gens, r_sl1Cur_gens])
  refine m_bsl (fun p hp => by simp only [List.mem_cons, List.not_mem_nil, or_false] at hp; rcases hp with rfl | rfl | rfl | rfl | rfl <;> rfl) ?_
  rintro b1 w1 hb1 hblk1 hx1 hs1
  have hlt := hc.lt
  simp only [↓vsd, vsn, gW, qd, qv, ev, pick, argE, zipE, ne_eq, eq_self, forall_const, implies_true, if_true, if_false, reduceIte, reduceCtorEq, Nat.reduceEqDiff, Nat.reduceAdd, Nat.reduceLT, ↓us_sl1Cur_gens, r_sl1Cur_gens]
  refine m_callw (.inl rfl) (sl1Cur_among_ok W b n _ [3, 4, 4, 5, 5] w1 (by omega) (by decide) (hc.ext hx1) (Sq.litC _ _ fI_len hblk1 rfl rfl (by omega))) ?_
  rintro _ w2 ⟨hc2, hg2, x, rfl, hx⟩
  have hx35 : 3 ≤ x ∧ x ≤ 5 := (by decide : ∀ x ∈ ([3, 4, 4, 5, 5] : List Int), 3 ≤ x ∧ x ≤ 5) x hx
  obtain ⟨m, rfl⟩ : ∃ m : Nat, x = m := ⟨x.toNat, by omega⟩
  have hm : 3 ≤ m ∧ m ≤ 5 := by omega
  simp only [↓vsd, vsn, gW, qd, qv, ev, pick, argE, zipE, ne_eq, eq_self, forall_const, implies_true, if_true, if_false, reduceIte, reduceCtorEq, Nat.reduceEqDiff, Nat.reduceAdd, Nat.reduceLT, ↓us_sl1Cur_gens, r_sl1Cur_gens]
  refine m_callw (.inl rfl) (sl1Cur_pick_ok W b _ 2 (by omega) w2 (by omega) hc2) ?_
  rintro _ w3 ⟨hc3, hg3, y, rfl, hy⟩
  have hg03 := grown_trans (grown_trans (grown_ext _ hx1) hg2) hg3
  simp only [↓vsd, vsn, gW, qd, qv, ev, pick, argE, zipE, ne_eq, eq_self, forall_const, implies_true, if_true, if_false, reduceIte, reduceCtorEq, Nat.reduceEqDiff, Nat.reduceAdd, Nat.reduceLT, ↓us_sl1Cur_gens, r_sl1Cur_gens]
  have hBb : ∀ c, some b = some c → c < w.heap.size := fun c hc => by obtain rfl := Option.some.inj hc; exact hlt.2
  refine ⟨inR_i64 (by omega), ?_⟩
  refine m_loop (fun j vs w' => ∃ (v : Value) (l : List Bs), vs = [v, .int .i64 j] ∧ j ≤ 2 ∧ l.length + j = 1 + y ∧ Own fS 1 9 w.heap.size w' v l ∧ RowN m l ∧ Cur W b (n + 14 - 2 * j) w' ∧ w.grownBy w' (some b)) (1 + y) ⟨_, [], by first | rfl | (simp; done) | (simp; omega), by omega, by simp, Own.nil fS_len, (fun r hr => by cases hr), hc3.mono (by omega), hg03⟩ ?_
  rintro j vs w4 ⟨v, l, rfl, hj, hl, ho, hr, hc4, hg4⟩
  by_cases hj0 : 0 < j
  · have hjI : 0 < (j : Int) := by omega
    have hjJ : ¬ (j : Int) ≤ 0 := by omega
    simp only [↓vsd, vsn, gW, qd, qv, ev, pick, argE, zipE, ne_eq, eq_self, forall_const, implies_true, if_true, if_false, reduceIte, reduceCtorEq, Nat.reduceEqDiff, Nat.reduceAdd, Nat.reduceLT, ↓us_sl1Cur_gens, r_sl1Cur_gens, hjI, hjJ]
    refine m_callw (.inl rfl) (sl1Cur_row_okR W b _ m (by omega) w4 (by omega) hc4) ?_
    rintro _ w5 ⟨hc5, hg5, z, rfl, hz⟩
    have ho5 := ho.keep hg5 hBb
    simp only [↓vsd, vsn, gW, qd, qv, ev, pick, argE, zipE, ne_eq, eq_self, forall_const, implies_true, if_true, if_false, reduceIte, reduceCtorEq, Nat.reduceEqDiff, Nat.reduceAdd, Nat.reduceLT, ↓us_sl1Cur_gens, r_sl1Cur_gens]
    refine m_bsl (one_el rfl) ?_
    rintro b6 w6 hb6 hblk6 hx6 hs6
    simp only [↓vsd, vsn, gW, qd, qv, ev, pick, argE, zipE, ne_eq, eq_self, forall_const, implies_true, if_true, if_false, reduceIte, reduceCtorEq, Nat.reduceEqDiff, Nat.reduceAdd, Nat.reduceLT, ↓us_sl1Cur_gens, r_sl1Cur_gens]
    have hg46 := grown_trans (grown_trans hg4 hg5) (grown_ext _ hx6)
    refine m_app (ho5.ext hx6) (Sq.one fS_len hblk6 rfl) fS_one (by decide) (by simp; omega) (by decide) hg46.size ?_
    rintro v7 w7 ho7 hg7
    simp only [↓vsd, vsn, gW, qd, qv, ev, pick, argE, zipE, ne_eq, eq_self, forall_const, implies_true, if_true, if_false, reduceIte, reduceCtorEq, Nat.reduceEqDiff, Nat.reduceAdd, Nat.reduceLT, ↓us_sl1Cur_gens, r_sl1Cur_gens]
    have hbnd := (ho5.ext hx6).bound
    refine ⟨inR_i64 (by omega), j - 1, by omega, v7, l ++ [z], ⟨rfl, by rw [show ((j : Int) - 1) = ((j - 1 : Nat) : Int) by omega]⟩, by omega, by simp; omega, ho7, fun r hm => ?_, ((hc5.ext hx6).keep hg7 (fun c hc => by have := (hbnd c hc).1; omega)).mono (by omega), grown_new hg46 hg7 (fun c hc => (hbnd c hc).1)⟩
    rcases List.mem_append.1 hm with h1 | h1
    · exact hr r h1
    · rw [List.mem_singleton.1 h1]; exact hz
  · have hjI : ¬ 0 < (j : Int) := by omega
    simp only [↓vsd, vsn, gW, qd, qv, ev, pick, argE, zipE, ne_eq, eq_self, forall_const, implies_true, if_true, if_false, reduceIte, reduceCtorEq, Nat.reduceEqDiff, Nat.reduceAdd, Nat.reduceLT, ↓us_sl1Cur_gens, r_sl1Cur_gens, hjI]
    exact ⟨hc4.mono (by omega), hg4, l, ho, by omega, m, hm, hr⟩
/-- What is read of a drawn list stays where the cursor goes on. -/
def Held (b : Nat) (w : World) (r : Value) (l : List Bs) : Prop := ∀ w', w.grownBy w' (some b) → Sq fS 1 w' r l
theorem Held.of {b B : Nat} {w : World} {r : Value} {l : List Bs} (h : Own fS 1 9 B w r l) (hb : b < B) : Held b w r l := fun w' hg => (h.keep hg fun c hc => by rw [← Option.some.inj hc]; exact hb).sq
theorem Held.go {b : Nat} {w w' : World} {r : Value} {l : List Bs} (h : Held b w r l) (hg : w.grownBy w' (some b)) : Held b w' r l := fun w'' hg' => h w'' (grown_trans hg hg')
theorem Held.sq {b : Nat} {w : World} {r : Value} {l : List Bs} (h : Held b w r l) : Sq fS 1 w r l := h w (grown_refl _ _)
theorem sDrawGoodRows_ok (v : Value) (code : List UInt8) (hl : code.length ≤ 1048576) (w : World) (h : Sq fU 1 w v code) : Fn 66 [v] w (fun r w' => ∃ l : List Bs, Sq fS 1 w' r l ∧ l.length ≤ 101) := by
  (refine callsV_of mix Try.func66 c_sDrawGoodRows ?_; simp only [↓vsd, vsn, gW, qd, qv, ev, pick, argE, zipE, ne_eq, eq_self, forall_const, implies_true, if_true, if_false, reduceIte, reduceCtorEq, Nat.reduceEqDiff, Nat.reduceAdd, Nat.reduceLT, ↓us_sDrawGoodRows, r_sDrawGoodRows])
  simp only [↓vsd, vsn, gW, qd, qv, ev, pick, argE, zipE, ne_eq, eq_self, forall_const, implies_true, if_true, if_false, reduceIte, reduceCtorEq, Nat.reduceEqDiff, Nat.reduceAdd, Nat.reduceLT, ↓us_sDrawGoodRows, r_sDrawGoodRows, h.facts]
  refine m_al ?_
  rintro b w1 hb hblk hx1 hs1
  have hc := Cur.new h hl hb hblk hx1
  simp only [↓vsd, vsn, gW, qd, qv, ev, pick, argE, zipE, ne_eq, eq_self, forall_const, implies_true, if_true, if_false, reduceIte, reduceCtorEq, Nat.reduceEqDiff, Nat.reduceAdd, Nat.reduceLT, ↓us_sDrawGoodRows, r_sDrawGoodRows]
  refine m_callw (.inl rfl) (sl1Cur_stage_ok w b _ w1 (by omega) hc) ?_
  rintro _ w2 ⟨hc2, hg2, s, rfl, hs⟩
  simp only [↓vsd, vsn, gW, qd, qv, ev, pick, argE, zipE, ne_eq, eq_self, forall_const, implies_true, if_true, if_false, reduceIte, reduceCtorEq, Nat.reduceEqDiff, Nat.reduceAdd, Nat.reduceLT, ↓us_sDrawGoodRows, r_sDrawGoodRows]
  refine m_callw (.inl rfl) (sl1Cur_rowsOf_ok w b _ s hs 6 (by omega) w2 (by omega) hc2) ?_
  rintro y w3 ⟨hc3, hg3, l, ho3, hl3⟩
  have hlt2 := hc2.lt
  have hlt3 := hc3.lt
  simp only [↓vsd, vsn, gW, qd, qv, ev, pick, argE, zipE, ne_eq, eq_self, forall_const, implies_true, if_true, if_false, reduceIte, reduceCtorEq, Nat.reduceEqDiff, Nat.reduceAdd, Nat.reduceLT, ↓us_sDrawGoodRows, r_sDrawGoodRows]
  refine m_callw (.inl rfl) (sl1Cur_one_ok w b _ 12 (by omega) w3 (by omega) hc3) ?_
  rintro _ w4 ⟨hc4, hg4, z, rfl⟩
  have ho4 := ho3.keep hg4 (fun c hc => by rw [← Option.some.inj hc]; omega)
  cases z
  · simp only [↓vsd, vsn, gW, qd, qv, ev, pick, argE, zipE, ne_eq, eq_self, forall_const, implies_true, if_true, if_false, reduceIte, reduceCtorEq, Nat.reduceEqDiff, Nat.reduceAdd, Nat.reduceLT, ↓us_sDrawGoodRows, r_sDrawGoodRows]
    exact ⟨hc4.base, l, ho4.sq, by omega⟩
  · simp only [↓vsd, vsn, gW, qd, qv, ev, pick, argE, zipE, ne_eq, eq_self, forall_const, implies_true, if_true, if_false, reduceIte, reduceCtorEq, Nat.reduceEqDiff, Nat.reduceAdd, Nat.reduceLT, ↓us_sDrawGoodRows, r_sDrawGoodRows]
    refine m_bsl (one_el rfl) ?_
    rintro b5 w5 hb5 hblk5 hx5 hs5
    simp only [↓vsd, vsn, gW, qd, qv, ev, pick, argE, zipE, ne_eq, eq_self, forall_const, implies_true, if_true, if_false, reduceIte, reduceCtorEq, Nat.reduceEqDiff, Nat.reduceAdd, Nat.reduceLT, ↓us_sDrawGoodRows, r_sDrawGoodRows]
    refine m_app (ho4.ext hx5) (Sq.one fS_len hblk5 rfl) fS_one (by decide) (by simp; omega) (by decide) (Nat.le_trans hg3.size (Nat.le_trans hg4.size hx5.size)) ?_
    rintro v6 w6 ho6 hg6
    have hx6 := (ho4.ext hx5).grown (hc4.base.trans hx5) hc2.base.size hg6
    simp only [↓vsd, vsn, gW, qd, qv, ev, pick, argE, zipE, ne_eq, eq_self, forall_const, implies_true, if_true, if_false, reduceIte, reduceCtorEq, Nat.reduceEqDiff, Nat.reduceAdd, Nat.reduceLT, ↓us_sDrawGoodRows, r_sDrawGoodRows]
    exact ⟨hx6, _, ho6.sq, by simp; omega⟩
end Go.Proofs.Ythopbkemkfjebaa
