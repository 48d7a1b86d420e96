/-
  The drawing of scored leads and rows.
  Conditions: none.
-/
import Derived.Test.YtpnopboffalfnaaD30
import Derived.Test.YtpnopboffalfnaaA5
import Derived.Test.YtpnopboffalfnaaD31
import Derived.Test.YtpnopboffalfnaaD23
set_option linter.unusedSimpArgs false
set_option linter.unusedVariables false
set_option linter.defProp false
namespace Go.Proofs.Ytpnopboffalfnaa
open Go Go.RowKit
section
variable (P : Program) (k : KT) (e : Env) (w : World)
abbrev b268_1 : X := (.cond (.t 9) .skip (.exit 0))
def t268_1 := b268_1
theorem u268_1 : vcK P t268_1 k e w = vcK P b268_1 k e w := rfl
abbrev b268_2 : X := (.reg [0, 3, 4] (.c (.q 10 [] (.mv (.t 4))) (.c (.q 11 [] (.bin .sub (.t 10) (.c (.int .i64 1)))) (.c (.q 4 [] (.mv (.t 11))) .nil))))
def t268_2 := b268_2
theorem u268_2 : vcK P t268_2 k e w = vcK P b268_2 k e w := rfl
abbrev b268_3 : X := (.seq (.blk 1 (.reg [0, 3, 4] (.c (.q 12 [] (.mv (.t 3))) (.c (.q 13 [] (.mv (.t 0))) (.c (.e (some 14) [] (.call true 309 [(.t 13)])) (.c (.q 15 [] (.mv (.t 0))) (.c (.e (some 16) [] (.bsl 3 1 [(.c (.int .i64 1)), (.c (.int .i64 2)), (.c (.int .i64 (-3))), (.c (.int .i64 100)), (.c (.int .i64 0))])) (.c (.e (some 17) [] (.call true 210 [(.t 15), (.t 16)])) (.c (.q 18 [] (.bld [(S []), (.int .i64 0)] [(0, 0, (.t 14)), (1, 0, (.t 17))])) (.c (.e (some 19) [] (.bsl 151 2 [(.t 18)])) (.c (.e (some 20) [] (.app 73 151 2 24 [(S []), (.int .i64 0)] 73 (.t 12) (.t 19))) (.c (.q 3 [] (.mv (.t 20))) .nil)))))))))))) t268_2)
def t268_3 := b268_3
theorem u268_3 : vcK P t268_3 k e w = vcK P b268_3 k e w := rfl
abbrev b268_4 : X := (.seq (.seq (.reg [0, 3, 4, 9] (.c (.q 8 [] (.mv (.t 4))) (.c (.q 9 [] (.bin .gtr (.t 8) (.c (.int .i64 0)))) .nil))) t268_1) t268_3)
def t268_4 := b268_4
theorem u268_4 : vcK P t268_4 k e w = vcK P b268_4 k e w := rfl
abbrev b268_5 : X := (.blk 0 (.loop [3, 4] [0] t268_4))
def t268_5 := b268_5
theorem u268_5 : vcK P t268_5 k e w = vcK P b268_5 k e w := rfl
abbrev b268_6 : X := (.cond (.t 22) (.reg [0, 3] (.c (.q 23 [] (.mv (.t 3))) (.c (.q 24 [] (.mv (.t 0))) (.c (.e (some 25) [] (.bsl 3 1 [(.c (.int .i64 101)), (.c (.int .i64 (-101))), (.c (.int .i64 (-100)))])) (.c (.e (some 26) [] (.call true 210 [(.t 24), (.t 25)])) (.c (.q 27 [] (.bld [(S []), (.int .i64 0)] [(0, 0, (.s [49, 42])), (1, 0, (.t 26))])) (.c (.e (some 28) [] (.bsl 151 2 [(.t 27)])) (.c (.e (some 29) [] (.app 73 151 2 24 [(S []), (.int .i64 0)] 73 (.t 23) (.t 28))) (.c (.q 3 [] (.mv (.t 29))) .nil))))))))) .skip)
def t268_6 := b268_6
theorem u268_6 : vcK P t268_6 k e w = vcK P b268_6 k e w := rfl
abbrev b268_7 : X := (.cond (.t 36) .skip (.exit 2))
def t268_7 := b268_7
theorem u268_7 : vcK P t268_7 k e w = vcK P b268_7 k e w := rfl
abbrev b268_8 : X := (.reg [3, 5] (.c (.q 37 [] (.mv (.t 5))) (.c (.q 38 [] (.bin .sub (.t 37) (.c (.int .i64 1)))) (.c (.q 5 [] (.mv (.t 38))) .nil))))
def t268_8 := b268_8
theorem u268_8 : vcK P t268_8 k e w = vcK P b268_8 k e w := rfl
abbrev b268_9 : X := (.seq (.blk 3 (.reg [3, 5] (.c (.q 39 [] (.mv (.t 3))) (.c (.q 40 [] (.bld [(S []), (.int .i64 0)] [(0, 0, (.s [42]))])) (.c (.e (some 41) [] (.bsl 151 2 [(.t 40)])) (.c (.e (some 42) [] (.app 73 151 2 24 [(S []), (.int .i64 0)] 73 (.t 39) (.t 41))) (.c (.q 3 [] (.mv (.t 42))) .nil))))))) t268_8)
def t268_9 := b268_9
theorem u268_9 : vcK P t268_9 k e w = vcK P b268_9 k e w := rfl
abbrev b268_10 : X := (.seq (.seq (.reg [3, 5, 36] (.c (.q 35 [] (.mv (.t 5))) (.c (.q 36 [] (.bin .gtr (.t 35) (.c (.int .i64 0)))) .nil))) t268_7) t268_9)
def t268_10 := b268_10
theorem u268_10 : vcK P t268_10 k e w = vcK P b268_10 k e w := rfl
abbrev b268_11 : X := (.blk 2 (.loop [3, 5] [] t268_10))
def t268_11 := b268_11
theorem u268_11 : vcK P t268_11 k e w = vcK P b268_11 k e w := rfl
abbrev b268_12 : X := (.seq (.reg [3, 5] (.c (.q 32 [] (.mv (.t 0))) (.c (.e (some 33) [] (.bsl 3 1 [(.c (.int .i64 8)), (.c (.int .i64 9))])) (.c (.e (some 34) [] (.call true 210 [(.t 32), (.t 33)])) (.c (.q 5 [] (.mv (.t 34))) .nil))))) t268_11)
def t268_12 := b268_12
theorem u268_12 : vcK P t268_12 k e w = vcK P b268_12 k e w := rfl
abbrev b268_13 : X := (.cond (.t 31) (.seq (.reg [0, 3] (.c (.q 3 [] (.mv (.c (.slice none 0 0)))) .nil)) t268_12) .skip)
def t268_13 := b268_13
theorem u268_13 : vcK P t268_13 k e w = vcK P b268_13 k e w := rfl
abbrev b268_14 : X := (.seq (.reg [2] (.c (.q 43 [] (.mv (.t 3))) (.c (.q 2 [] (.mv (.t 43))) .nil))) .ret)
def t268_14 := b268_14
theorem u268_14 : vcK P t268_14 k e w = vcK P b268_14 k e w := rfl
abbrev b268_15 : X := (.seq (.seq (.reg [0, 3, 31] (.c (.q 30 [] (.mv (.t 0))) (.c (.e (some 31) [] (.call true 207 [(.t 30), (.c (.int .i64 30))])) .nil))) t268_13) t268_14)
def t268_15 := b268_15
theorem u268_15 : vcK P t268_15 k e w = vcK P b268_15 k e w := rfl
abbrev b268_16 : X := (.seq (.seq (.reg [0, 3, 22] (.c (.q 21 [] (.mv (.t 0))) (.c (.e (some 22) [] (.call true 207 [(.t 21), (.c (.int .i64 12))])) .nil))) t268_6) t268_15)
def t268_16 := b268_16
theorem u268_16 : vcK P t268_16 k e w = vcK P b268_16 k e w := rfl
abbrev b268_17 : X := (.seq (.seq (.reg [0, 3, 4] (.c (.q 6 [] (.mv (.t 0))) (.c (.e (some 7) [] (.call true 170 [(.t 6), (.c (.int .i64 4))])) (.c (.q 4 [] (.mv (.t 7))) .nil)))) t268_5) t268_16)
def t268_17 := b268_17
theorem u268_17 : vcK P t268_17 k e w = vcK P b268_17 k e w := rfl
abbrev b268_18 : X := (.seq (.reg [0, 3] (.c (.q 3 [] (.mv (.c (.slice none 0 0)))) .nil)) t268_17)
def t268_18 := b268_18
theorem u268_18 : vcK P t268_18 k e w = vcK P b268_18 k e w := rfl
abbrev b268_0 : X := (.seq (.reg [0] (.c (.q 2 [] (.mv (.c (.slice none 0 0)))) .nil)) t268_18)
def x_sl1Cur_liked := b268_0
theorem u268_0 : vcK P x_sl1Cur_liked k e w = vcK P b268_0 k e w := rfl
def r_sl1Cur_liked : List XO := [(.mv (.t 2))]
theorem c_sl1Cur_liked : convF Try.prog [169, 170, 207, 208, 210, 227, 232, 233, 255, 259, 268, 269, 270, 280, 281, 296, 299, 306, 307, 309] Try.f268 [([0], []), ([0, 3], []), ([0, 3, 4], []), ([3, 4], [0]), ([0, 3, 4, 9], []), ([0, 3, 4], []), ([0, 3, 4], []), ([0, 3, 22], []), ([0, 3], []), ([0, 3, 31], []), ([0, 3], []), ([3, 5], []), ([3, 5], []), ([3, 5, 36], []), ([3, 5], []), ([3, 5], []), ([2], [])] = some (x_sl1Cur_liked, r_sl1Cur_liked) := by kernel_rfl
def us_sl1Cur_liked := aI @u268_0 (aI @u268_1 (aI @u268_2 (aI @u268_3 (aI @u268_4 (aI @u268_5 (aI @u268_6 (aI @u268_7 (aI @u268_8 (aI @u268_9 (aI @u268_10 (aI @u268_11 (aI @u268_12 (aI @u268_13 (aI @u268_14 (aI @u268_15 (aI @u268_16 (aI @u268_17 @u268_18)))))))))))))))))
abbrev b147_1 : X := (.seq (.drw [2, 3, 4, 5] (.c (.q 25 [] (.mv (.t 8))) (.c (.q 26 [] (.mv (.t 9))) (.alt (.c (.p 23 [] (.lda 3 (.t 6))) (.alt (.c (.p 24 [] (.lda 2 (.t 7))) (.c (.e (some 27) [] (.call true 268 [(.t 26)])) (.c (.e none [] (.st 3 (.t 2) (.t 23))) (.c (.e none [] (.st 2 (.t 3) (.t 24))) (.c (.q 4 [] (.mv (.t 25))) (.c (.q 5 [] (.mv (.t 27))) .nil)))))) (.c (.e (some 27) [] (.call true 268 [(.t 26)])) (.alt (.c (.p 24 [] (.lda 2 (.t 7))) (.c (.e none [] (.st 3 (.t 2) (.t 23))) (.c (.e none [] (.st 2 (.t 3) (.t 24))) (.c (.q 4 [] (.mv (.t 25))) (.c (.q 5 [] (.mv (.t 27))) .nil))))) (.c (.e none [] (.st 3 (.t 2) (.t 23))) (.c (.p 24 [] (.lda 2 (.t 7))) (.c (.e none [] (.st 2 (.t 3) (.t 24))) (.c (.q 4 [] (.mv (.t 25))) (.c (.q 5 [] (.mv (.t 27))) .nil))))))))) (.alt (.c (.p 24 [] (.lda 2 (.t 7))) (.alt (.c (.p 23 [] (.lda 3 (.t 6))) (.c (.e (some 27) [] (.call true 268 [(.t 26)])) (.c (.e none [] (.st 3 (.t 2) (.t 23))) (.c (.e none [] (.st 2 (.t 3) (.t 24))) (.c (.q 4 [] (.mv (.t 25))) (.c (.q 5 [] (.mv (.t 27))) .nil)))))) (.c (.e (some 27) [] (.call true 268 [(.t 26)])) (.c (.p 23 [] (.lda 3 (.t 6))) (.c (.e none [] (.st 3 (.t 2) (.t 23))) (.c (.e none [] (.st 2 (.t 3) (.t 24))) (.c (.q 4 [] (.mv (.t 25))) (.c (.q 5 [] (.mv (.t 27))) .nil)))))))) (.c (.e (some 27) [] (.call true 268 [(.t 26)])) (.alt (.c (.p 23 [] (.lda 3 (.t 6))) (.alt (.c (.p 24 [] (.lda 2 (.t 7))) (.c (.e none [] (.st 3 (.t 2) (.t 23))) (.c (.e none [] (.st 2 (.t 3) (.t 24))) (.c (.q 4 [] (.mv (.t 25))) (.c (.q 5 [] (.mv (.t 27))) .nil))))) (.c (.e none [] (.st 3 (.t 2) (.t 23))) (.c (.p 24 [] (.lda 2 (.t 7))) (.c (.e none [] (.st 2 (.t 3) (.t 24))) (.c (.q 4 [] (.mv (.t 25))) (.c (.q 5 [] (.mv (.t 27))) .nil))))))) (.c (.p 24 [] (.lda 2 (.t 7))) (.c (.p 23 [] (.lda 3 (.t 6))) (.c (.e none [] (.st 3 (.t 2) (.t 23))) (.c (.e none [] (.st 2 (.t 3) (.t 24))) (.c (.q 4 [] (.mv (.t 25))) (.c (.q 5 [] (.mv (.t 27))) .nil))))))))))))) .ret)
def t147_1 := b147_1
theorem u147_1 : vcK P t147_1 k e w = vcK P b147_1 k e w := rfl
abbrev b147_2 : X := (.seq (.reg [2, 3, 6, 7, 8, 9] (.c (.q 16 [] (.mv (.t 0))) (.c (.q 17 [] (.mv (.t 0))) (.c (.q 18 [] (.lens (.t 17))) (.c (.q 19 [] (.bin .quo (.t 18) (.c (.int .i64 2)))) (.c (.q 20 [] (.ssl 1 (.t 16) (some (.t 19)) none)) (.c (.q 21 [] (.bld [(.slice none 0 0), (.int .i64 0), (.int .u64 0)] [(0, 0, (.t 20))])) (.c (.e (some 22) [] (.box 132 (.t 21))) (.c (.q 9 [] (.mv (.t 22))) .nil))))))))) t147_1)
def t147_2 := b147_2
theorem u147_2 : vcK P t147_2 k e w = vcK P b147_2 k e w := rfl
abbrev b147_3 : X := (.seq (.reg [0, 2, 3, 6, 7, 8] (.c (.q 11 [] (.mv (.t 0))) (.c (.e (some 12) [] (.call false 160 [(.t 11)])) (.c (.q 10 [] (.mv (.t 12))) (.c (.q 13 [] (.ext 0 (.t 10))) (.c (.q 14 [] (.ext 1 (.t 10))) (.c (.q 15 [] (.ext 2 (.t 10))) (.c (.e (some 6) [] (.al 41 [(S []), (.int .i64 0), (.slice none 0 0)])) (.c (.e (some 7) [] (.al 32 [(S []), (S [])])) (.c (.e none [] (.st 3 (.t 6) (.t 13))) (.c (.e none [] (.st 2 (.t 7) (.t 14))) (.c (.q 8 [] (.mv (.t 15))) .nil)))))))))))) t147_2)
def t147_3 := b147_3
theorem u147_3 : vcK P t147_3 k e w = vcK P b147_3 k e w := rfl
abbrev b147_0 : X := (.seq (.reg [0, 2, 3] (.c (.e (some 2) [] (.al 41 [(S []), (.int .i64 0), (.slice none 0 0)])) (.c (.e (some 3) [] (.al 32 [(S []), (S [])])) (.c (.q 4 [] (.mv (.s []))) (.c (.q 5 [] (.mv (.c (.slice none 0 0)))) .nil))))) t147_3)
def x_sDrawScoreLeads := b147_0
theorem u147_0 : vcK P x_sDrawScoreLeads k e w = vcK P b147_0 k e w := rfl
def r_sDrawScoreLeads : List XO := [(.lda 3 (.t 2)), (.lda 2 (.t 3)), (.mv (.t 4)), (.mv (.t 5))]
theorem c_sDrawScoreLeads : convF Try.prog [169, 170, 207, 208, 210, 227, 232, 233, 255, 259, 268, 269, 270, 280, 281, 296, 299, 306, 307, 309] Try.f147 [([0, 2, 3], []), ([0, 2, 3, 6, 7, 8], []), ([2, 3, 6, 7, 8, 9], []), ([2, 3, 4, 5], [])] = some (x_sDrawScoreLeads, r_sDrawScoreLeads) := by kernel_rfl
def us_sDrawScoreLeads := aI @u147_0 (aI @u147_1 (aI @u147_2 @u147_3))
abbrev b148_1 : X := (.seq (.reg [2, 3] (.c (.q 11 [] (.mv (.t 5))) (.c (.q 12 [] (.mv (.t 4))) (.c (.q 13 [] (.mv (.t 4))) (.c (.e (some 14) [] (.call true 270 [(.t 13)])) (.c (.e (some 15) [] (.call true 269 [(.t 12), (.t 14), (.c (.int .i64 9))])) (.c (.q 2 [] (.mv (.t 11))) (.c (.q 3 [] (.mv (.t 15))) .nil)))))))) .ret)
def t148_1 := b148_1
theorem u148_1 : vcK P t148_1 k e w = vcK P b148_1 k e w := rfl
abbrev b148_2 : X := (.seq (.reg [4, 5] (.c (.q 9 [] (.mv (.t 4))) (.c (.e (some 10) [] (.call true 268 [(.t 9)])) (.c (.q 5 [] (.mv (.t 10))) .nil)))) t148_1)
def t148_2 := b148_2
theorem u148_2 : vcK P t148_2 k e w = vcK P b148_2 k e w := rfl
abbrev b148_3 : X := (.seq (.reg [4] (.c (.q 6 [] (.mv (.t 0))) (.c (.q 7 [] (.bld [(.slice none 0 0), (.int .i64 0), (.int .u64 0)] [(0, 0, (.t 6))])) (.c (.e (some 8) [] (.box 132 (.t 7))) (.c (.q 4 [] (.mv (.t 8))) .nil))))) t148_2)
def t148_3 := b148_3
theorem u148_3 : vcK P t148_3 k e w = vcK P b148_3 k e w := rfl
abbrev b148_0 : X := (.seq (.reg [0] (.c (.q 2 [] (.mv (.c (.slice none 0 0)))) (.c (.q 3 [] (.mv (.c (.slice none 0 0)))) .nil))) t148_3)
def x_sDrawScoreRows := b148_0
theorem u148_0 : vcK P x_sDrawScoreRows k e w = vcK P b148_0 k e w := rfl
def r_sDrawScoreRows : List XO := [(.mv (.t 2)), (.mv (.t 3))]
theorem c_sDrawScoreRows : convF Try.prog [169, 170, 207, 208, 210, 227, 232, 233, 255, 259, 268, 269, 270, 280, 281, 296, 299, 306, 307, 309] Try.f148 [([0], []), ([4], []), ([4, 5], []), ([2, 3], [])] = some (x_sDrawScoreRows, r_sDrawScoreRows) := by kernel_rfl
def us_sDrawScoreRows := aI @u148_0 (aI @u148_1 (aI @u148_2 @u148_3))
end

theorem sl1Cur_liked_ok (W : World) (b n : Nat) (w : World) (hn : n ≤ 600000000) (hc : Cur W b n w) : CurFn 268 [cV b] W b n 600 w (fun r w' => ∃ l : List LK, Own fK 2 151 w.heap.size w' r l ∧ l.length ≤ 30 ∧ ∀ x ∈ l, x.pat.length ≤ 20) := by
  (refine callsV_of mix Try.func268 c_sl1Cur_liked ?_; simp only [↓vsd, vsn, gW, qd, qv, ev, pick, argE, zipE, ne_eq, eq_self, forall_const, implies_true, if_true, if_false, reduceIte, reduceCtorEq, Nat.reduceEqDiff, Nat.reduceAdd, Nat.reduceLT, ↓us_sl1Cur_liked, r_sl1Cur_liked])
  have hlt := hc.lt
  refine m_callw (.inl rfl) (sl1Cur_pick_ok W b n 4 (by omega) w (by omega) hc) ?_
  rintro _ w1 ⟨hc1, hg1, x, rfl, hx⟩
  have hBb : ∀ c, some b = some c → c < w.heap.size := fun c hc => by obtain rfl := Option.some.inj hc; exact hlt.2
  simp only [↓vsd, vsn, gW, qd, qv, ev, pick, argE, zipE, ne_eq, eq_self, forall_const, implies_true, if_true, if_false, reduceIte, reduceCtorEq, Nat.reduceEqDiff, Nat.reduceAdd, Nat.reduceLT, ↓us_sl1Cur_liked, r_sl1Cur_liked]
  refine m_loop (fun j vs w' => ∃ (v : Value) (l : List LK), vs = [v, .int .i64 j] ∧ j ≤ 4 ∧ l.length + j ≤ 4 ∧ (∀ x ∈ l, x.pat.length ≤ 20) ∧ Own fK 2 151 w.heap.size w' v l ∧ Cur W b (n + 202 - 50 * j) w' ∧ w.grownBy w' (some b)) x ⟨_, [], rfl, by omega, by simp; omega, by simp, Own.nil fK_len, hc1.mono (by omega), hg1⟩ ?_
  rintro j vs w2 ⟨v, l, rfl, hj, hl, hlp, ho, hc2, hg2⟩
  by_cases hj0 : 0 < j
  · have hjI : 0 < (j : Int) := by omega
    have hjJ : ¬ (j : Int) ≤ 0 := by omega
    simp only [↓vsd, vsn, gW, qd, qv, ev, pick, argE, zipE, ne_eq, eq_self, forall_const, implies_true, if_true, if_false, reduceIte, reduceCtorEq, Nat.reduceEqDiff, Nat.reduceAdd, Nat.reduceLT, ↓us_sl1Cur_liked, r_sl1Cur_liked, hjI, hjJ]
    refine m_callw (.inl rfl) (sl1Cur_pattern_ok W b _ w2 (by omega) hc2) ?_
    rintro _ w3 ⟨hc3, hg3, y, rfl, hy⟩
    simp only [↓vsd, vsn, gW, qd, qv, ev, pick, argE, zipE, ne_eq, eq_self, forall_const, implies_true, if_true, if_false, reduceIte, reduceCtorEq, Nat.reduceEqDiff, Nat.reduceAdd, Nat.reduceLT, ↓us_sl1Cur_liked, r_sl1Cur_liked]
    refine m_bsl (by simp; repeat' constructor) ?_
    rintro b4 w4 hb4 hblk4 hx4 hs4
    have hlt3 := hc3.lt
    simp only [↓vsd, vsn, gW, qd, qv, ev, pick, argE, zipE, ne_eq, eq_self, forall_const, implies_true, if_true, if_false, reduceIte, reduceCtorEq, Nat.reduceEqDiff, Nat.reduceAdd, Nat.reduceLT, ↓us_sl1Cur_liked, r_sl1Cur_liked]
    refine m_callw (.inl rfl) (sl1Cur_among_ok W b _ _ [1, 2, -3, 100, 0] w4 (by omega) (by decide) (hc3.ext hx4) (Sq.litC _ _ fI_len hblk4 rfl rfl (by omega))) ?_
    rintro _ w5 ⟨hc5, hg5, z, rfl, hz⟩
    simp only [↓vsd, vsn, gW, qd, qv, ev, pick, argE, zipE, ne_eq, eq_self, forall_const, implies_true, if_true, if_false, reduceIte, reduceCtorEq, Nat.reduceEqDiff, Nat.reduceAdd, Nat.reduceLT, ↓us_sl1Cur_liked, r_sl1Cur_liked]
    refine m_bsl (one_el rfl) ?_
    rintro b6 w6 hb6 hblk6 hx6 hs6
    simp only [↓vsd, vsn, gW, qd, qv, ev, pick, argE, zipE, ne_eq, eq_self, forall_const, implies_true, if_true, if_false, reduceIte, reduceCtorEq, Nat.reduceEqDiff, Nat.reduceAdd, Nat.reduceLT, ↓us_sl1Cur_liked, r_sl1Cur_liked]
    have hg26 := grown_trans (grown_trans (grown_trans (grown_trans hg2 hg3) (grown_ext _ hx4)) hg5) (grown_ext _ hx6)
    have ho6 := (((ho.keep hg3 hBb).ext hx4).keep hg5 hBb).ext hx6
    refine m_app ho6 (Sq.one (f := fK) (a := ⟨y, z⟩) fK_len hblk6 rfl) fK_one (by decide) (by simp; omega) (by decide) hg26.size ?_
    rintro v7 w7 ho7 hg7
    simp only [↓vsd, vsn, gW, qd, qv, ev, pick, argE, zipE, ne_eq, eq_self, forall_const, implies_true, if_true, if_false, reduceIte, reduceCtorEq, Nat.reduceEqDiff, Nat.reduceAdd, Nat.reduceLT, ↓us_sl1Cur_liked, r_sl1Cur_liked]
    have hbnd := ho6.bound
    refine ⟨inR_i64 (by omega), j - 1, by omega, v7, l ++ [⟨y, z⟩], ⟨rfl, by rw [show ((j : Int) - 1) = ((j - 1 : Nat) : Int) by omega]⟩, by omega, by simp; omega, fun q hq => ?_, ho7, ((hc5.ext hx6).keep hg7 (fun c hc => by have := (hbnd c hc).1; omega)).mono (by omega), grown_new hg26 hg7 (fun c hc => (hbnd c hc).1)⟩
    rcases List.mem_append.1 hq with h' | h'
    · exact hlp q h'
    · obtain rfl := List.mem_singleton.1 h'
      exact hy
  · have hjI : ¬ 0 < (j : Int) := by omega
    simp only [↓vsd, vsn, gW, qd, qv, ev, pick, argE, zipE, ne_eq, eq_self, forall_const, implies_true, if_true, if_false, reduceIte, reduceCtorEq, Nat.reduceEqDiff, Nat.reduceAdd, Nat.reduceLT, ↓us_sl1Cur_liked, r_sl1Cur_liked, hjI, ho.sq.facts]
    obtain rfl : j = 0 := by omega
    refine m_callw (.inl rfl) (sl1Cur_one_ok W b _ 12 (by omega) w2 (by omega) hc2) ?_
    rintro _ w3 ⟨hc3, hg3, y, rfl⟩
    have ho3 := ho.keep hg3 hBb
    have hg13 := grown_trans hg2 hg3
    have hc3 := hc3.mono (m := n + 300) (by omega)
    cases y
    · simp only [↓vsd, vsn, gW, qd, qv, ev, pick, argE, zipE, ne_eq, eq_self, forall_const, implies_true, if_true, if_false, reduceIte, reduceCtorEq, Nat.reduceEqDiff, Nat.reduceAdd, Nat.reduceLT, ↓us_sl1Cur_liked, r_sl1Cur_liked]
      refine m_callw (.inl rfl) (sl1Cur_one_ok W b _ 30 (by omega) _ (by omega) hc3) ?_
      rintro _ w4 ⟨hc4, hg4, y, rfl⟩
      have ho4 := ho3.keep hg4 hBb
      have hg14 := grown_trans hg13 hg4
      cases y
      · simp only [↓vsd, vsn, gW, qd, qv, ev, pick, argE, zipE, ne_eq, eq_self, forall_const, implies_true, if_true, if_false, reduceIte, reduceCtorEq, Nat.reduceEqDiff, Nat.reduceAdd, Nat.reduceLT, ↓us_sl1Cur_liked, r_sl1Cur_liked]
        exact ⟨hc4.mono (by omega), hg14, _, ho4, by omega, hlp⟩
      · simp only [↓vsd, vsn, gW, qd, qv, ev, pick, argE, zipE, ne_eq, eq_self, forall_const, implies_true, if_true, if_false, reduceIte, reduceCtorEq, Nat.reduceEqDiff, Nat.reduceAdd, Nat.reduceLT, ↓us_sl1Cur_liked, r_sl1Cur_liked]
        refine m_bsl (by simp; repeat' constructor) ?_
        rintro b5 w5 hb5 hblk5 hx5 hs5
        have hlt4 := hc4.lt
        simp only [↓vsd, vsn, gW, qd, qv, ev, pick, argE, zipE, ne_eq, eq_self, forall_const, implies_true, if_true, if_false, reduceIte, reduceCtorEq, Nat.reduceEqDiff, Nat.reduceAdd, Nat.reduceLT, ↓us_sl1Cur_liked, r_sl1Cur_liked]
        refine m_callw (.inl rfl) (sl1Cur_among_ok W b _ _ [8, 9] w5 (by omega) (by decide) (hc4.ext hx5) (Sq.litC _ _ fI_len hblk5 rfl rfl (by omega))) ?_
        rintro _ w6 ⟨hc6, hg6, z, rfl, hz⟩
        obtain ⟨k, rfl, hk⟩ : ∃ k : Nat, z = k ∧ k ≤ 9 := by
          simp only [List.mem_cons, List.not_mem_nil, or_false] at hz
          rcases hz with rfl | rfl
          · exact ⟨8, rfl, by omega⟩
          · exact ⟨9, rfl, by omega⟩
        have hg16 := grown_trans (grown_trans hg14 (grown_ext _ hx5)) hg6
        simp only [↓vsd, vsn, gW, qd, qv, ev, pick, argE, zipE, ne_eq, eq_self, forall_const, implies_true, if_true, if_false, reduceIte, reduceCtorEq, Nat.reduceEqDiff, Nat.reduceAdd, Nat.reduceLT, ↓us_sl1Cur_liked, r_sl1Cur_liked]
        refine m_loop (fun j vs w' => ∃ (v : Value) (l : List LK), vs = [v, .int .i64 j] ∧ j ≤ 9 ∧ l.length + j ≤ 9 ∧ (∀ x ∈ l, x.pat.length ≤ 20) ∧ Own fK 2 151 w.heap.size w' v l ∧ Cur W b (n + 400) w' ∧ w.grownBy w' (some b)) k ⟨_, [], rfl, by omega, by simp; omega, by simp, Own.nil fK_len, hc6.mono (by omega), hg16⟩ ?_
        rintro j vs w7 ⟨v7, l7, rfl, hj7, hl7, hp7, ho7, hc7, hg7⟩
        by_cases hj0 : 0 < j
        · have hjI : 0 < (j : Int) := by omega
          have hjJ : ¬ (j : Int) ≤ 0 := by omega
          simp only [↓vsd, vsn, gW, qd, qv, ev, pick, argE, zipE, ne_eq, eq_self, forall_const, implies_true, if_true, if_false, reduceIte, reduceCtorEq, Nat.reduceEqDiff, Nat.reduceAdd, Nat.reduceLT, ↓us_sl1Cur_liked, r_sl1Cur_liked, hjI, hjJ]
          refine m_bsl (one_el rfl) ?_
          rintro b8 w8 hb8 hblk8 hx8 hs8
          simp only [↓vsd, vsn, gW, qd, qv, ev, pick, argE, zipE, ne_eq, eq_self, forall_const, implies_true, if_true, if_false, reduceIte, reduceCtorEq, Nat.reduceEqDiff, Nat.reduceAdd, Nat.reduceLT, ↓us_sl1Cur_liked, r_sl1Cur_liked]
          have hg18 := grown_trans hg7 (grown_ext _ hx8)
          have ho8 := ho7.ext hx8
          refine m_app ho8 (Sq.one (f := fK) (a := ⟨[42], 0⟩) fK_len hblk8 rfl) fK_one (by decide) (by simp; omega) (by decide) hg18.size ?_
          rintro v9 w9 ho9 hg9
          simp only [↓vsd, vsn, gW, qd, qv, ev, pick, argE, zipE, ne_eq, eq_self, forall_const, implies_true, if_true, if_false, reduceIte, reduceCtorEq, Nat.reduceEqDiff, Nat.reduceAdd, Nat.reduceLT, ↓us_sl1Cur_liked, r_sl1Cur_liked]
          have hbnd := ho8.bound
          refine ⟨inR_i64 (by omega), j - 1, by omega, v9, l7 ++ [⟨[42], 0⟩], ⟨rfl, by rw [show ((j : Int) - 1) = ((j - 1 : Nat) : Int) by omega]⟩, by omega, by simp; omega, fun q hq => ?_, ho9, (hc7.ext hx8).keep hg9 (fun c hc => by have := (hbnd c hc).1; omega), grown_new hg18 hg9 (fun c hc => (hbnd c hc).1)⟩
          rcases List.mem_append.1 hq with h' | h'
          · exact hp7 q h'
          · obtain rfl := List.mem_singleton.1 h'
            decide
        · have hjI : ¬ 0 < (j : Int) := by omega
          simp only [↓vsd, vsn, gW, qd, qv, ev, pick, argE, zipE, ne_eq, eq_self, forall_const, implies_true, if_true, if_false, reduceIte, reduceCtorEq, Nat.reduceEqDiff, Nat.reduceAdd, Nat.reduceLT, ↓us_sl1Cur_liked, r_sl1Cur_liked, hjI]
          exact ⟨hc7.mono (by omega), hg7, l7, ho7, by omega, hp7⟩
    · simp only [↓vsd, vsn, gW, qd, qv, ev, pick, argE, zipE, ne_eq, eq_self, forall_const, implies_true, if_true, if_false, reduceIte, reduceCtorEq, Nat.reduceEqDiff, Nat.reduceAdd, Nat.reduceLT, ↓us_sl1Cur_liked, r_sl1Cur_liked]
      refine m_bsl (by simp; repeat' constructor) ?_
      rintro b4 w4 hb4 hblk4 hx4 hs4
      have hlt3 := hc3.lt
      simp only [↓vsd, vsn, gW, qd, qv, ev, pick, argE, zipE, ne_eq, eq_self, forall_const, implies_true, if_true, if_false, reduceIte, reduceCtorEq, Nat.reduceEqDiff, Nat.reduceAdd, Nat.reduceLT, ↓us_sl1Cur_liked, r_sl1Cur_liked]
      refine m_callw (.inl rfl) (sl1Cur_among_ok W b _ _ [101, -101, -100] w4 (by omega) (by decide) (hc3.ext hx4) (Sq.litC _ _ fI_len hblk4 rfl rfl (by omega))) ?_
      rintro _ w5 ⟨hc5, hg5, z, rfl, hz⟩
      simp only [↓vsd, vsn, gW, qd, qv, ev, pick, argE, zipE, ne_eq, eq_self, forall_const, implies_true, if_true, if_false, reduceIte, reduceCtorEq, Nat.reduceEqDiff, Nat.reduceAdd, Nat.reduceLT, ↓us_sl1Cur_liked, r_sl1Cur_liked]
      refine m_bsl (one_el rfl) ?_
      rintro b6 w6 hb6 hblk6 hx6 hs6
      simp only [↓vsd, vsn, gW, qd, qv, ev, pick, argE, zipE, ne_eq, eq_self, forall_const, implies_true, if_true, if_false, reduceIte, reduceCtorEq, Nat.reduceEqDiff, Nat.reduceAdd, Nat.reduceLT, ↓us_sl1Cur_liked, r_sl1Cur_liked]
      have hg26 := grown_trans (grown_trans (grown_trans hg13 (grown_ext _ hx4)) hg5) (grown_ext _ hx6)
      have ho6 := ((ho3.ext hx4).keep hg5 hBb).ext hx6
      refine m_app ho6 (Sq.one (f := fK) (a := ⟨[49, 42], z⟩) fK_len hblk6 rfl) fK_one (by decide) (by simp; omega) (by decide) hg26.size ?_
      rintro v3 w3 ho3 hg3
      simp only [↓vsd, vsn, gW, qd, qv, ev, pick, argE, zipE, ne_eq, eq_self, forall_const, implies_true, if_true, if_false, reduceIte, reduceCtorEq, Nat.reduceEqDiff, Nat.reduceAdd, Nat.reduceLT, ↓us_sl1Cur_liked, r_sl1Cur_liked]
      have hbnd := ho6.bound
      have hc3 := ((hc5.ext hx6).keep hg3 (fun c hc => by have := (hbnd c hc).1; omega)).mono (m := n + 310) (by omega)
      have hg13 := grown_new hg26 hg3 (fun c hc => (hbnd c hc).1)
      have hlp : ∀ x ∈ l ++ [(⟨[49, 42], z⟩ : LK)], x.pat.length ≤ 20 := fun q hq => by
        rcases List.mem_append.1 hq with h' | h'
        · exact hlp q h'
        · obtain rfl := List.mem_singleton.1 h'
          exact (by decide : ([49, 42] : List UInt8).length ≤ 20)
      have hl : (l ++ [(⟨[49, 42], z⟩ : LK)]).length ≤ 5 := by simp; omega
      clear hg26 ho6 hblk6
      refine m_callw (.inl rfl) (sl1Cur_one_ok W b _ 30 (by omega) _ (by omega) hc3) ?_
      rintro _ w4 ⟨hc4, hg4, y, rfl⟩
      have ho4 := ho3.keep hg4 hBb
      have hg14 := grown_trans hg13 hg4
      cases y
      · simp only [↓vsd, vsn, gW, qd, qv, ev, pick, argE, zipE, ne_eq, eq_self, forall_const, implies_true, if_true, if_false, reduceIte, reduceCtorEq, Nat.reduceEqDiff, Nat.reduceAdd, Nat.reduceLT, ↓us_sl1Cur_liked, r_sl1Cur_liked]
        exact ⟨hc4.mono (by omega), hg14, _, ho4, by omega, hlp⟩
      · simp only [↓vsd, vsn, gW, qd, qv, ev, pick, argE, zipE, ne_eq, eq_self, forall_const, implies_true, if_true, if_false, reduceIte, reduceCtorEq, Nat.reduceEqDiff, Nat.reduceAdd, Nat.reduceLT, ↓us_sl1Cur_liked, r_sl1Cur_liked]
        refine m_bsl (by simp; repeat' constructor) ?_
        rintro b5 w5 hb5 hblk5 hx5 hs5
        have hlt4 := hc4.lt
        simp only [↓vsd, vsn, gW, qd, qv, ev, pick, argE, zipE, ne_eq, eq_self, forall_const, implies_true, if_true, if_false, reduceIte, reduceCtorEq, Nat.reduceEqDiff, Nat.reduceAdd, Nat.reduceLT, ↓us_sl1Cur_liked, r_sl1Cur_liked]
        refine m_callw (.inl rfl) (sl1Cur_among_ok W b _ _ [8, 9] w5 (by omega) (by decide) (hc4.ext hx5) (Sq.litC _ _ fI_len hblk5 rfl rfl (by omega))) ?_
        rintro _ w6 ⟨hc6, hg6, z, rfl, hz⟩
        obtain ⟨k, rfl, hk⟩ : ∃ k : Nat, z = k ∧ k ≤ 9 := by
          simp only [List.mem_cons, List.not_mem_nil, or_false] at hz
          rcases hz with rfl | rfl
          · exact ⟨8, rfl, by omega⟩
          · exact ⟨9, rfl, by omega⟩
        have hg16 := grown_trans (grown_trans hg14 (grown_ext _ hx5)) hg6
        simp only [↓vsd, vsn, gW, qd, qv, ev, pick, argE, zipE, ne_eq, eq_self, forall_const, implies_true, if_true, if_false, reduceIte, reduceCtorEq, Nat.reduceEqDiff, Nat.reduceAdd, Nat.reduceLT, ↓us_sl1Cur_liked, r_sl1Cur_liked]
        refine m_loop (fun j vs w' => ∃ (v : Value) (l : List LK), vs = [v, .int .i64 j] ∧ j ≤ 9 ∧ l.length + j ≤ 9 ∧ (∀ x ∈ l, x.pat.length ≤ 20) ∧ Own fK 2 151 w.heap.size w' v l ∧ Cur W b (n + 400) w' ∧ w.grownBy w' (some b)) k ⟨_, [], rfl, by omega, by simp; omega, by simp, Own.nil fK_len, hc6.mono (by omega), hg16⟩ ?_
        rintro j vs w7 ⟨v7, l7, rfl, hj7, hl7, hp7, ho7, hc7, hg7⟩
        by_cases hj0 : 0 < j
        · have hjI : 0 < (j : Int) := by omega
          have hjJ : ¬ (j : Int) ≤ 0 := by omega
          simp only [↓vsd, vsn, gW, qd, qv, ev, pick, argE, zipE, ne_eq, eq_self, forall_const, implies_true, if_true, if_false, reduceIte, reduceCtorEq, Nat.reduceEqDiff, Nat.reduceAdd, Nat.reduceLT, ↓us_sl1Cur_liked, r_sl1Cur_liked, hjI, hjJ]
          refine m_bsl (one_el rfl) ?_
          rintro b8 w8 hb8 hblk8 hx8 hs8
          simp only [↓vsd, vsn, gW, qd, qv, ev, pick, argE, zipE, ne_eq, eq_self, forall_const, implies_true, if_true, if_false, reduceIte, reduceCtorEq, Nat.reduceEqDiff, Nat.reduceAdd, Nat.reduceLT, ↓us_sl1Cur_liked, r_sl1Cur_liked]
          have hg18 := grown_trans hg7 (grown_ext _ hx8)
          have ho8 := ho7.ext hx8
          refine m_app ho8 (Sq.one (f := fK) (a := ⟨[42], 0⟩) fK_len hblk8 rfl) fK_one (by decide) (by simp; omega) (by decide) hg18.size ?_
          rintro v9 w9 ho9 hg9
          simp only [↓vsd, vsn, gW, qd, qv, ev, pick, argE, zipE, ne_eq, eq_self, forall_const, implies_true, if_true, if_false, reduceIte, reduceCtorEq, Nat.reduceEqDiff, Nat.reduceAdd, Nat.reduceLT, ↓us_sl1Cur_liked, r_sl1Cur_liked]
          have hbnd := ho8.bound
          refine ⟨inR_i64 (by omega), j - 1, by omega, v9, l7 ++ [⟨[42], 0⟩], ⟨rfl, by rw [show ((j : Int) - 1) = ((j - 1 : Nat) : Int) by omega]⟩, by omega, by simp; omega, fun q hq => ?_, ho9, (hc7.ext hx8).keep hg9 (fun c hc => by have := (hbnd c hc).1; omega), grown_new hg18 hg9 (fun c hc => (hbnd c hc).1)⟩
          rcases List.mem_append.1 hq with h' | h'
          · exact hp7 q h'
          · obtain rfl := List.mem_singleton.1 h'
            decide
        · have hjI : ¬ 0 < (j : Int) := by omega
          simp only [↓vsd, vsn, gW, qd, qv, ev, pick, argE, zipE, ne_eq, eq_self, forall_const, implies_true, if_true, if_false, reduceIte, reduceCtorEq, Nat.reduceEqDiff, Nat.reduceAdd, Nat.reduceLT, ↓us_sl1Cur_liked, r_sl1Cur_liked, hjI]
          exact ⟨hc7.mono (by omega), hg7, l7, ho7, by omega, hp7⟩
theorem sDrawScoreRows_ok (v : Value) (code : List UInt8) (hl : code.length ≤ 1048576) (w : World) (h : Sq fU 1 w v code) : Fn 148 [v] w (fun r w' => ∃ x ks y l, r = .tuple ⟨[x, y]⟩ ∧ (Own fK 2 151 w.heap.size w' x ks ∧ ks.length ≤ 30 ∧ ∀ q ∈ ks, q.pat.length ≤ 20) ∧ Own fS 1 9 w.heap.size w' y l ∧ l.length ≤ 100) := by
  (refine callsV_of mix Try.func148 c_sDrawScoreRows ?_; simp only [↓vsd, vsn, gW, qd, qv, ev, pick, argE, zipE, ne_eq, eq_self, forall_const, implies_true, if_true, if_false, reduceIte, reduceCtorEq, Nat.reduceEqDiff, Nat.reduceAdd, Nat.reduceLT, ↓us_sDrawScoreRows, r_sDrawScoreRows])
  simp only [↓vsd, vsn, gW, qd, qv, ev, pick, argE, zipE, ne_eq, eq_self, forall_const, implies_true, if_true, if_false, reduceIte, reduceCtorEq, Nat.reduceEqDiff, Nat.reduceAdd, Nat.reduceLT, ↓us_sDrawScoreRows, r_sDrawScoreRows, h.facts]
  refine m_al ?_
  rintro b w1 hb hblk hx1 hs1
  have hc := Cur.new h hl hb hblk hx1
  have hlt := hc.lt
  simp only [↓vsd, vsn, gW, qd, qv, ev, pick, argE, zipE, ne_eq, eq_self, forall_const, implies_true, if_true, if_false, reduceIte, reduceCtorEq, Nat.reduceEqDiff, Nat.reduceAdd, Nat.reduceLT, ↓us_sDrawScoreRows, r_sDrawScoreRows]
  refine m_callw (.inl rfl) (sl1Cur_liked_ok w b _ w1 (by omega) hc) ?_
  rintro x w2 ⟨hc2, hg2, ks, hok, hks, hkp⟩
  simp only [↓vsd, vsn, gW, qd, qv, ev, pick, argE, zipE, ne_eq, eq_self, forall_const, implies_true, if_true, if_false, reduceIte, reduceCtorEq, Nat.reduceEqDiff, Nat.reduceAdd, Nat.reduceLT, ↓us_sDrawScoreRows, r_sDrawScoreRows]
  have hBb : ∀ c, some b = some c → c < w1.heap.size := fun c hc => by obtain rfl := Option.some.inj hc; exact hlt.2
  refine m_callw (.inl rfl) (sl1Cur_stage_ok w b _ w2 (by omega) hc2) ?_
  rintro _ w3 ⟨hc3, hg3, s, rfl, hs⟩
  simp only [↓vsd, vsn, gW, qd, qv, ev, pick, argE, zipE, ne_eq, eq_self, forall_const, implies_true, if_true, if_false, reduceIte, reduceCtorEq, Nat.reduceEqDiff, Nat.reduceAdd, Nat.reduceLT, ↓us_sDrawScoreRows, r_sDrawScoreRows]
  refine m_callw (.inl rfl) (sl1Cur_rowsOf_ok w b _ s hs 9 (by omega) w3 (by omega) hc3) ?_
  rintro y w4 ⟨hc4, hg4, l, ho, hll⟩
  simp only [↓vsd, vsn, gW, qd, qv, ev, pick, argE, zipE, ne_eq, eq_self, forall_const, implies_true, if_true, if_false, reduceIte, reduceCtorEq, Nat.reduceEqDiff, Nat.reduceAdd, Nat.reduceLT, ↓us_sDrawScoreRows, r_sDrawScoreRows]
  exact ⟨hc4.base, _, _, _, l, rfl, ⟨((hok.keep hg3 hBb).keep hg4 hBb).mono hx1.size, hks, hkp⟩, ho.mono hc3.base.size, hll⟩
/-- A touch that may be spoilt, and scored patterns. -/
def AnyS (B : Nat) (r : Value) (w' : World) : Prop := ∃ nm st x cs p q t y ks, r = .tuple ⟨[mV nm st x, kV p q, S t, y]⟩ ∧ AnyK B nm st x cs p q w' ∧ t.length ≤ 61 ∧ Own fK 2 151 B w' y ks ∧ ks.length ≤ 30 ∧ ∀ q ∈ ks, q.pat.length ≤ 20
theorem sDrawScoreLeads_ok (v : Value) (code : List UInt8) (hl : code.length ≤ 1048576) (w : World) (h : Sq fU 1 w v code) : Fn 147 [v] w (fun r w' => AnyS w.heap.size r w') := by
  (refine callsV_of mix Try.func147 c_sDrawScoreLeads ?_; simp only [↓vsd, vsn, gW, qd, qv, ev, pick, argE, zipE, ne_eq, eq_self, forall_const, implies_true, if_true, if_false, reduceIte, reduceCtorEq, Nat.reduceEqDiff, Nat.reduceAdd, Nat.reduceLT, ↓us_sDrawScoreLeads, r_sDrawScoreLeads])
  refine m_al ?_
  rintro b2 w2 hb2 hblk2 hx2 hs2
  simp only [↓vsd, vsn, gW, qd, qv, ev, pick, argE, zipE, ne_eq, eq_self, forall_const, implies_true, if_true, if_false, reduceIte, reduceCtorEq, Nat.reduceEqDiff, Nat.reduceAdd, Nat.reduceLT, ↓us_sDrawScoreLeads, r_sDrawScoreLeads]
  refine m_al ?_
  rintro b3 w3 hb3 hblk3 hx3 hs3
  have hx13 := hx2.trans hx3
  simp only [↓vsd, vsn, gW, qd, qv, ev, pick, argE, zipE, ne_eq, eq_self, forall_const, implies_true, if_true, if_false, reduceIte, reduceCtorEq, Nat.reduceEqDiff, Nat.reduceAdd, Nat.reduceLT, ↓us_sDrawScoreLeads, r_sDrawScoreLeads]
  refine m_call (sDrawTouchHeads_ok v code hl _ (h.ext hx13)) ?_
  rintro _ w4 hx4 ⟨nm, st, x, cs, p, q, t, rfl, ho4, h1, h2, h3, h4, h5, ht⟩
  have hany : nm.length ≤ 11 ∧ (2 ≤ st ∧ st ≤ 9) ∧ cs.length ≤ 60 ∧ (∀ c ∈ cs, c.length ≤ 8) ∧ (p.length ≤ 8 ∧ q.length ≤ 8) := ⟨h1, h2, h3, h4, h5⟩
  simp only [↓vsd, vsn, gW, qd, qv, ev, pick, argE, zipE, ne_eq, eq_self, forall_const, implies_true, if_true, if_false, reduceIte, reduceCtorEq, Nat.reduceEqDiff, Nat.reduceAdd, Nat.reduceLT, ↓us_sDrawScoreLeads, r_sDrawScoreLeads]
  refine m_al ?_
  rintro b5 w5 hb5 hblk5 hx5 hs5
  simp only [↓vsd, vsn, gW, qd, qv, ev, pick, argE, zipE, ne_eq, eq_self, forall_const, implies_true, if_true, if_false, reduceIte, reduceCtorEq, Nat.reduceEqDiff, Nat.reduceAdd, Nat.reduceLT, ↓us_sDrawScoreLeads, r_sDrawScoreLeads]
  refine m_al ?_
  rintro b6 w6 hb6 hblk6 hx6 hs6
  simp only [↓vsd, vsn, gW, qd, qv, ev, pick, argE, zipE, ne_eq, eq_self, forall_const, implies_true, if_true, if_false, reduceIte, reduceCtorEq, Nat.reduceEqDiff, Nat.reduceAdd, Nat.reduceLT, ↓us_sDrawScoreLeads, r_sDrawScoreLeads]
  refine m_st (Blk.ext hblk5 hx6) rfl (Nat.le_refl 3) (fM_one nm st x ho4.sq.one') ?_
  rintro w7 hblk7 hu7
  simp only [↓vsd, vsn, gW, qd, qv, ev, pick, argE, zipE, ne_eq, eq_self, forall_const, implies_true, if_true, if_false, reduceIte, reduceCtorEq, Nat.reduceEqDiff, Nat.reduceAdd, Nat.reduceLT, ↓us_sDrawScoreLeads, r_sDrawScoreLeads]
  refine m_st (hu7.blk hblk6 (by omega)) rfl (Nat.le_refl 2) (fQ_one p q) ?_
  rintro w8 hblk8 hu8
  have hm8 : Blk w8 b5 (fM nm st x) 41 := hu8.blk hblk7 (by omega)
  have hk8 : Blk w8 b6 (fQ p q) 32 := hblk8
  have h4s := hx4.size
  have ho8 := (((ho4.ext hx5).ext hx6).upd hu7 (ho4.away (by omega))).upd hu8 (ho4.away (by omega))
  have hF : Ext w3 w8 := hu8.below (hu7.below ((hx4.trans hx5).trans hx6) (by omega)) (by omega)
  have hq8 := (h.ext hx13).ext hF
  obtain ⟨htd, hqt⟩ := hq8.tail .i64 (code.length / 2) (by omega)
  simp only [↓vsd, vsn, gW, qd, qv, ev, pick, argE, zipE, ne_eq, eq_self, forall_const, implies_true, if_true, if_false, reduceIte, reduceCtorEq, Nat.reduceEqDiff, Nat.reduceAdd, Nat.reduceLT, ↓us_sDrawScoreLeads, r_sDrawScoreLeads, hq8.facts, htd, hqt.facts]
  refine ⟨⟨by decide, inR_i64 (by omega)⟩, m_al ?_⟩
  rintro bc w9 hbc hblk9 hx9 hs9
  have hc := Cur.new hqt (by rw [List.length_drop]; omega) hbc hblk9 hx9
  have hb2l := hblk2.lt
  have hF9 := hF.trans hx9
  have es : EK w w3.heap.size b2 b3 b5 b6 (fM [] 0 (.slice none 0 0)) (fQ [] []) (fM nm st x) (fQ p q) x cs w9 := ⟨(Blk.ext hblk2 hx3).ext hF9, Blk.ext hblk3 hF9, hm8.ext hx9, hk8.ext hx9, ho8.ext hx9, hx13.trans hF9, by omega⟩
  have hm8l := hm8.lt
  have hk8l := hk8.lt
  have hF8 := hF.size
  have haw : Away x bc := ho8.away (by omega)
  have hw3 := hx13.size
  have hlen : (code.drop (code.length / 2)).length ≤ 1048576 := by rw [List.length_drop]; omega
  simp only [↓vsd, vsn, gW, qd, qv, ev, pick, argE, zipE, ne_eq, eq_self, forall_const, implies_true, if_true, if_false, reduceIte, reduceCtorEq, Nat.reduceEqDiff, Nat.reduceAdd, Nat.reduceLT, ↓us_sDrawScoreLeads, r_sDrawScoreLeads, es.m.facts, es.k.facts, fMg, fQg]
  have es := es.ext (dr (Ext.refl _))
  have hc := hc.ext (dr (Ext.refl _))
  have hsz9 : w3.heap.size ≤ w9.drew.heap.size := by have := hF9.size; exact this
  repeat' first
    | exact ⟨es.ex, nm, st, x, cs, p, q, t, yy, ks, rfl, ⟨es.own.mono (by omega), hany⟩, ht, hok.mono (by omega), hks, hkp⟩
    | refine ⟨?_, ?_⟩
    | (refine m_callw (.inr rfl) (sl1Cur_liked_ok _ bc _ _ (by omega) hc) ?_; rintro yy _ ⟨_, hg, ks, hok, hks, hkp⟩; replace es := es.draw hg (by omega) haw; replace hok := hok.mono hsz9; clear hc hg; simp only [↓vsd, vsn, gW, qd, qv, ev, pick, argE, zipE, ne_eq, eq_self, forall_const, implies_true, if_true, if_false, reduceIte, reduceCtorEq, Nat.reduceEqDiff, Nat.reduceAdd, Nat.reduceLT, ↓us_sDrawScoreLeads, r_sDrawScoreLeads, es.m.facts, es.k.facts, fMg, fQg])
    | (refine m_st es.r2 rfl (Nat.le_refl 3) (fM_one nm st x ho4.sq.one') ?_; rintro _ hb' hu; replace es := es.st2 hu (show Blk _ b2 (fM nm st x) _ from hb'); replace hok := hok.upd hu (hok.away' (by omega)); clear hb' hu; simp only [↓vsd, vsn, gW, qd, qv, ev, pick, argE, zipE, ne_eq, eq_self, forall_const, implies_true, if_true, if_false, reduceIte, reduceCtorEq, Nat.reduceEqDiff, Nat.reduceAdd, Nat.reduceLT, ↓us_sDrawScoreLeads, r_sDrawScoreLeads, es.m.facts, es.k.facts, fMg, fQg])
    | (refine m_st es.r3 rfl (Nat.le_refl 2) (fQ_one p q) ?_; rintro _ hb' hu; replace es := es.st3 hu (show Blk _ b3 (fQ p q) _ from hb'); replace hok := hok.upd hu (hok.away' (by omega)); clear hb' hu; simp only [↓vsd, vsn, gW, qd, qv, ev, pick, argE, zipE, ne_eq, eq_self, forall_const, implies_true, if_true, if_false, reduceIte, reduceCtorEq, Nat.reduceEqDiff, Nat.reduceAdd, Nat.reduceLT, ↓us_sDrawScoreLeads, r_sDrawScoreLeads, es.m.facts, es.k.facts, es.r2.facts, es.r3.facts, fMg, fQg, resV_four])
end Go.Proofs.Ytpnopboffalfnaa
