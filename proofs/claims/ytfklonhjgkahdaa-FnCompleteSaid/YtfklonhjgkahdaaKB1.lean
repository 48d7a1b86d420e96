/-
  All touches of some leads, of both sides.
  Conditions: none.
-/
import Derived.Test.YtfklonhjgkahdaaKD2
import Derived.Test.YtfklonhjgkahdaaKPk
import Derived.Test.YtfklonhjgkahdaaKVu
set_option linter.unusedSimpArgs false
set_option linter.unusedVariables false
set_option linter.defProp false
namespace Go.Proofs.Ytfklonhjgkahdaa
open Go Go.RowKit
section
variable (P : Program) (k : KT) (e : Env) (w : World)
abbrev b61_1 : X := (.reg [4, 6, 9, 10, 13, 14, 15, 19] (.c (.q 22 [] (.mv (.t 4))) (.c (.q 23 [] (.mv (.t 6))) (.c (.q 24 [] (.mv (.t 7))) (.c (.q 25 [] (.mv (.t 7))) (.c (.q 26 [] (.bin .add (.t 25) (.c (.int .i64 1)))) (.c (.q 27 [] (.sub (.s [98, 112, 115]) (some (.t 24)) (some (.t 26)))) (.c (.q 28 [] (.bin .add (.t 23) (.t 27))) (.c (.e (some 29) [] (.bsl 9 1 [(.t 28)])) (.c (.e (some 30) [] (.app 24 9 1 16 [(S [])] 24 (.t 22) (.t 29))) (.c (.q 4 [] (.mv (.t 30))) .nil)))))))))))
def t61_1 := b61_1
theorem u61_1 : vcK P t61_1 k e w = vcK P b61_1 k e w := rfl
abbrev b61_2 : X := (.reg [4, 6, 9, 10, 13, 14, 15, 19] (.c (.q 31 [] (.bin .add (.t 19) (.c (.int .i64 1)))) (.c (.q 19 [] (.mv (.t 31))) .nil)))
def t61_2 := b61_2
theorem u61_2 : vcK P t61_2 k e w = vcK P b61_2 k e w := rfl
abbrev b61_3 : X := (.seq (.blk 5 (.seq (.reg [4, 6, 7, 9, 10, 13, 14, 15, 19] (.c (.q 21 [] (.mv (.t 19))) (.c (.q 7 [] (.mv (.t 21))) .nil))) t61_1)) t61_2)
def t61_3 := b61_3
theorem u61_3 : vcK P t61_3 k e w = vcK P b61_3 k e w := rfl
abbrev b61_4 : X := (.seq (.cond (.t 20) .skip (.exit 4)) t61_3)
def t61_4 := b61_4
theorem u61_4 : vcK P t61_4 k e w = vcK P b61_4 k e w := rfl
abbrev b61_5 : X := (.seq (.reg [4, 6, 9, 10, 13, 14, 15, 19, 20] (.c (.q 20 [] (.bin .lss (.t 19) (.c (.int .i64 3)))) .nil)) t61_4)
def t61_5 := b61_5
theorem u61_5 : vcK P t61_5 k e w = vcK P b61_5 k e w := rfl
abbrev b61_6 : X := (.blk 4 (.loop [4, 19] [6, 9, 10, 13, 14, 15] t61_5))
def t61_6 := b61_6
theorem u61_6 : vcK P t61_6 k e w = vcK P b61_6 k e w := rfl
abbrev b61_7 : X := (.seq (.reg [4, 6, 9, 10, 13, 14, 15, 19] (.c (.q 19 [] (.mv (.c (.int .i64 0)))) .nil)) t61_6)
def t61_7 := b61_7
theorem u61_7 : vcK P t61_7 k e w = vcK P b61_7 k e w := rfl
abbrev b61_8 : X := (.reg [4, 9, 10, 13, 14, 15] (.c (.q 32 [] (.bin .add (.t 15) (.c (.int .i64 1)))) (.c (.q 15 [] (.mv (.t 32))) .nil)))
def t61_8 := b61_8
theorem u61_8 : vcK P t61_8 k e w = vcK P b61_8 k e w := rfl
abbrev b61_9 : X := (.seq (.blk 3 (.seq (.reg [4, 6, 9, 10, 13, 14, 15] (.c (.q 17 [] (.ia 1 (.t 13) (.t 15))) (.c (.q 18 [] (.ld (.t 17))) (.c (.q 6 [] (.mv (.t 18))) .nil)))) t61_7)) t61_8)
def t61_9 := b61_9
theorem u61_9 : vcK P t61_9 k e w = vcK P b61_9 k e w := rfl
abbrev b61_10 : X := (.seq (.cond (.t 16) .skip (.exit 2)) t61_9)
def t61_10 := b61_10
theorem u61_10 : vcK P t61_10 k e w = vcK P b61_10 k e w := rfl
abbrev b61_11 : X := (.seq (.reg [4, 9, 10, 13, 14, 15, 16] (.c (.q 16 [] (.bin .lss (.t 15) (.t 14))) .nil)) t61_10)
def t61_11 := b61_11
theorem u61_11 : vcK P t61_11 k e w = vcK P b61_11 k e w := rfl
abbrev b61_12 : X := (.blk 2 (.loop [4, 15] [9, 10, 13, 14] t61_11))
def t61_12 := b61_12
theorem u61_12 : vcK P t61_12 k e w = vcK P b61_12 k e w := rfl
abbrev b61_13 : X := (.reg [3, 9, 10] (.c (.q 33 [] (.mv (.t 4))) (.c (.q 3 [] (.mv (.t 33))) .nil)))
def t61_13 := b61_13
theorem u61_13 : vcK P t61_13 k e w = vcK P b61_13 k e w := rfl
abbrev b61_14 : X := (.seq (.seq (.reg [4, 9, 10, 13, 14, 15] (.c (.q 13 [] (.mv (.t 3))) (.c (.q 14 [] (.lens (.t 13))) (.c (.q 15 [] (.mv (.c (.int .i64 0)))) .nil)))) t61_12) t61_13)
def t61_14 := b61_14
theorem u61_14 : vcK P t61_14 k e w = vcK P b61_14 k e w := rfl
abbrev b61_15 : X := (.reg [3, 9, 10] (.c (.q 34 [] (.bin .add (.t 10) (.c (.int .i64 1)))) (.c (.q 10 [] (.mv (.t 34))) .nil)))
def t61_15 := b61_15
theorem u61_15 : vcK P t61_15 k e w = vcK P b61_15 k e w := rfl
abbrev b61_16 : X := (.seq (.blk 1 (.seq (.reg [3, 4, 9, 10] (.c (.e (some 12) [] (.bsl 9 1 [])) (.c (.q 4 [] (.mv (.t 12))) .nil))) t61_14)) t61_15)
def t61_16 := b61_16
theorem u61_16 : vcK P t61_16 k e w = vcK P b61_16 k e w := rfl
abbrev b61_17 : X := (.seq (.cond (.t 11) .skip (.exit 0)) t61_16)
def t61_17 := b61_17
theorem u61_17 : vcK P t61_17 k e w = vcK P b61_17 k e w := rfl
abbrev b61_18 : X := (.seq (.reg [3, 9, 10, 11] (.c (.q 11 [] (.bin .lss (.t 10) (.t 9))) .nil)) t61_17)
def t61_18 := b61_18
theorem u61_18 : vcK P t61_18 k e w = vcK P b61_18 k e w := rfl
abbrev b61_19 : X := (.blk 0 (.loop [3, 10] [9] t61_18))
def t61_19 := b61_19
theorem u61_19 : vcK P t61_19 k e w = vcK P b61_19 k e w := rfl
abbrev b61_20 : X := (.seq (.reg [2] (.c (.q 35 [] (.mv (.t 3))) (.c (.q 2 [] (.mv (.t 35))) .nil))) .ret)
def t61_20 := b61_20
theorem u61_20 : vcK P t61_20 k e w = vcK P b61_20 k e w := rfl
abbrev b61_21 : X := (.seq (.seq (.reg [3, 9, 10] (.c (.q 9 [] (.mv (.t 0))) (.c (.q 10 [] (.mv (.c (.int .i64 0)))) .nil))) t61_19) t61_20)
def t61_21 := b61_21
theorem u61_21 : vcK P t61_21 k e w = vcK P b61_21 k e w := rfl
abbrev b61_22 : X := (.seq (.reg [0, 3] (.c (.e (some 8) [] (.bsl 9 1 [(.s [])])) (.c (.q 3 [] (.mv (.t 8))) .nil))) t61_21)
def t61_22 := b61_22
theorem u61_22 : vcK P t61_22 k e w = vcK P b61_22 k e w := rfl
abbrev b61_0 : X := (.seq (.reg [0] (.c (.q 2 [] (.mv (.c (.slice none 0 0)))) .nil)) t61_22)
def x_iallTouches := b61_0
theorem u61_0 : vcK P x_iallTouches k e w = vcK P b61_0 k e w := rfl
def r_iallTouches : List XO := [(.mv (.t 2))]
theorem c_iallTouches : convF Try.prog [38, 39, 41, 42, 49, 54, 55, 57, 58, 59, 73, 79, 81, 84, 87, 139] Try.f61 [([0], []), ([0, 3], []), ([3, 9, 10], []), ([3, 10], [9]), ([3, 9, 10, 11], []), ([3, 4, 9, 10], []), ([4, 9, 10, 13, 14, 15], []), ([4, 15], [9, 10, 13, 14]), ([4, 9, 10, 13, 14, 15, 16], []), ([4, 6, 9, 10, 13, 14, 15], []), ([4, 6, 9, 10, 13, 14, 15, 19], []), ([4, 19], [6, 9, 10, 13, 14, 15]), ([4, 6, 9, 10, 13, 14, 15, 19, 20], []), ([4, 6, 7, 9, 10, 13, 14, 15, 19], []), ([4, 6, 9, 10, 13, 14, 15, 19], []), ([4, 6, 9, 10, 13, 14, 15, 19], []), ([4, 9, 10, 13, 14, 15], []), ([3, 9, 10], []), ([3, 9, 10], []), ([2], [])] = some (x_iallTouches, r_iallTouches) := by kernel_rfl
def us_iallTouches :=  (aI (aI (aI (aI @u61_0 @u61_1) (aI @u61_2 (aI @u61_3 @u61_4))) (aI (aI @u61_5 (aI @u61_6 @u61_7)) (aI @u61_8 (aI @u61_9 @u61_10)))) (aI (aI (aI @u61_11 (aI @u61_12 @u61_13)) (aI @u61_14 (aI @u61_15 @u61_16))) (aI (aI @u61_17 (aI @u61_18 @u61_19)) (aI @u61_20 (aI @u61_21 @u61_22)))))
abbrev b66_1 : X := (.cond (.t 9) .skip (.exit 0))
def t66_1 := b66_1
theorem u66_1 : vcK P t66_1 k e w = vcK P b66_1 k e w := rfl
abbrev b66_2 : X := (.reg [0, 4, 12, 13, 14] (.c (.q 18 [] (.mv (.t 4))) (.c (.q 19 [] (.mv (.t 6))) (.c (.q 20 [] (.bin .add (.t 19) (.s [98]))) (.c (.q 21 [] (.mv (.t 6))) (.c (.q 22 [] (.bin .add (.t 21) (.s [112]))) (.c (.q 23 [] (.mv (.t 6))) (.c (.q 24 [] (.bin .add (.t 23) (.s [115]))) (.c (.e (some 25) [] (.bsl 9 1 [(.t 20), (.t 22), (.t 24)])) (.c (.e (some 26) [] (.app 24 9 1 16 [(S [])] 24 (.t 18) (.t 25))) (.c (.q 4 [] (.mv (.t 26))) .nil)))))))))))
def t66_2 := b66_2
theorem u66_2 : vcK P t66_2 k e w = vcK P b66_2 k e w := rfl
abbrev b66_3 : X := (.reg [0, 4, 12, 13, 14] (.c (.q 27 [] (.bin .add (.t 14) (.c (.int .i64 1)))) (.c (.q 14 [] (.mv (.t 27))) .nil)))
def t66_3 := b66_3
theorem u66_3 : vcK P t66_3 k e w = vcK P b66_3 k e w := rfl
abbrev b66_4 : X := (.seq (.blk 3 (.seq (.reg [0, 4, 6, 12, 13, 14] (.c (.q 16 [] (.ia 1 (.t 12) (.t 14))) (.c (.q 17 [] (.ld (.t 16))) (.c (.q 6 [] (.mv (.t 17))) .nil)))) t66_2)) t66_3)
def t66_4 := b66_4
theorem u66_4 : vcK P t66_4 k e w = vcK P b66_4 k e w := rfl
abbrev b66_5 : X := (.seq (.cond (.t 15) .skip (.exit 2)) t66_4)
def t66_5 := b66_5
theorem u66_5 : vcK P t66_5 k e w = vcK P b66_5 k e w := rfl
abbrev b66_6 : X := (.seq (.reg [0, 4, 12, 13, 14, 15] (.c (.q 15 [] (.bin .lss (.t 14) (.t 13))) .nil)) t66_5)
def t66_6 := b66_6
theorem u66_6 : vcK P t66_6 k e w = vcK P b66_6 k e w := rfl
abbrev b66_7 : X := (.blk 2 (.loop [4, 14] [0, 12, 13] t66_6))
def t66_7 := b66_7
theorem u66_7 : vcK P t66_7 k e w = vcK P b66_7 k e w := rfl
abbrev b66_8 : X := (.reg [0, 3] (.c (.q 28 [] (.mv (.t 4))) (.c (.q 3 [] (.mv (.t 28))) .nil)))
def t66_8 := b66_8
theorem u66_8 : vcK P t66_8 k e w = vcK P b66_8 k e w := rfl
abbrev b66_9 : X := (.seq (.seq (.reg [0, 4, 12, 13, 14] (.c (.q 12 [] (.mv (.t 3))) (.c (.q 13 [] (.lens (.t 12))) (.c (.q 14 [] (.mv (.c (.int .i64 0)))) .nil)))) t66_7) t66_8)
def t66_9 := b66_9
theorem u66_9 : vcK P t66_9 k e w = vcK P b66_9 k e w := rfl
abbrev b66_10 : X := (.reg [0, 3] (.c (.q 10 [] (.mv (.t 0))) (.c (.q 11 [] (.bin .sub (.t 10) (.c (.int .i64 1)))) (.c (.q 0 [] (.mv (.t 11))) .nil))))
def t66_10 := b66_10
theorem u66_10 : vcK P t66_10 k e w = vcK P b66_10 k e w := rfl
abbrev b66_11 : X := (.seq (.blk 1 (.seq (.reg [0, 3, 4] (.c (.q 4 [] (.mv (.c (.slice none 0 0)))) .nil)) t66_9)) t66_10)
def t66_11 := b66_11
theorem u66_11 : vcK P t66_11 k e w = vcK P b66_11 k e w := rfl
abbrev b66_12 : X := (.seq (.seq (.reg [0, 3, 9] (.c (.q 8 [] (.mv (.t 0))) (.c (.q 9 [] (.bin .gtr (.t 8) (.c (.int .i64 0)))) .nil))) t66_1) t66_11)
def t66_12 := b66_12
theorem u66_12 : vcK P t66_12 k e w = vcK P b66_12 k e w := rfl
abbrev b66_13 : X := (.seq (.reg [2] (.c (.q 29 [] (.mv (.t 3))) (.c (.q 2 [] (.mv (.t 29))) .nil))) .ret)
def t66_13 := b66_13
theorem u66_13 : vcK P t66_13 k e w = vcK P b66_13 k e w := rfl
abbrev b66_14 : X := (.seq (.blk 0 (.loop [0, 3] [] t66_12)) t66_13)
def t66_14 := b66_14
theorem u66_14 : vcK P t66_14 k e w = vcK P b66_14 k e w := rfl
abbrev b66_15 : X := (.seq (.reg [0, 3] (.c (.e (some 7) [] (.bsl 9 1 [(.s [])])) (.c (.q 3 [] (.mv (.t 7))) .nil))) t66_14)
def t66_15 := b66_15
theorem u66_15 : vcK P t66_15 k e w = vcK P b66_15 k e w := rfl
abbrev b66_0 : X := (.seq (.reg [0] (.c (.q 2 [] (.mv (.c (.slice none 0 0)))) .nil)) t66_15)
def x_sl13All := b66_0
theorem u66_0 : vcK P x_sl13All k e w = vcK P b66_0 k e w := rfl
def r_sl13All : List XO := [(.mv (.t 2))]
theorem c_sl13All : convF Try.prog [38, 39, 41, 42, 49, 54, 55, 57, 58, 59, 73, 79, 81, 84, 87, 139] Try.f66 [([0], []), ([0, 3], []), ([0, 3], []), ([0, 3, 9], []), ([0, 3, 4], []), ([0, 4, 12, 13, 14], []), ([4, 14], [0, 12, 13]), ([0, 4, 12, 13, 14, 15], []), ([0, 4, 6, 12, 13, 14], []), ([0, 4, 12, 13, 14], []), ([0, 4, 12, 13, 14], []), ([0, 3], []), ([0, 3], []), ([2], [])] = some (x_sl13All, r_sl13All) := by kernel_rfl
def us_sl13All :=  (aI (aI (aI (aI @u66_0 @u66_1) (aI @u66_2 @u66_3)) (aI (aI @u66_4 @u66_5) (aI @u66_6 @u66_7))) (aI (aI (aI @u66_8 @u66_9) (aI @u66_10 @u66_11)) (aI (aI @u66_12 @u66_13) (aI @u66_14 @u66_15))))
end
theorem let_sub : ∀ j < 3, (([98, 112, 115] : Bs).take (j + 1)).drop j = [([98, 112, 115] : Bs).getD j 0] := by decide
theorem ext_take (t : Bs) : ∀ j < 3, (extL t).take (j + 1) = (extL t).take j ++ [t ++ [([98, 112, 115] : Bs).getD j 0]] := fun j hj => by
  rcases j with _ | _ | _ | j
  · rfl
  · rfl
  · rfl
  · omega
theorem flatE_take {l : List Bs} {k : Nat} (hk : k < l.length) : (l.take (k + 1)).flatMap extL = (l.take k).flatMap extL ++ extL (l.getD k []) := by
  rw [List.take_add_one, List.flatMap_append, List.getD_eq_getElem?_getD, List.getElem?_eq_getElem hk]; simp
theorem flatE_len (l : List Bs) : (l.flatMap extL).length = 3 * l.length := by
  induction l with
  | nil => rfl
  | cons a l ih => rw [List.flatMap_cons, List.length_append, ih, List.length_cons]; simp only [extL, List.length_cons, List.length_nil]; omega
theorem pow3_le : ∀ n < 7, 3 ^ n ≤ 729 := by decide
theorem allT_small {n : Nat} (hn : n ≤ 6) : (allT n).length ≤ 729 := by rw [allT_len]; exact pow3_le n (by omega)
theorem allT_str {n : Nat} {t : Bs} (h : t ∈ allT n) : t.length = n ∧ ∀ c ∈ t, IsCall [c] := by
  rw [allT_X] at h
  obtain ⟨h1, -, h3⟩ := allX_mem h
  exact ⟨by rw [h1]; simp, h3 (by simp)⟩
theorem iallTouches_ok (n : Nat) (hn : n ≤ 6) (w : World) : Fn 61 [.int .i64 n] w (fun r w' => Own fS 1 9 w.heap.size w' r (allT n)) := by
  (refine callsV_of mix Try.func61 c_iallTouches ?_; simp only [↓vsd, vsn, gW, qd, qv, ev, pick, argE, zipE, ne_eq, eq_self, forall_const, implies_true, if_true, if_false, reduceIte, reduceCtorEq, Nat.reduceEqDiff, Nat.reduceAdd, Nat.reduceLT, ↓us_iallTouches, r_iallTouches])
  refine m_bsl (one_el rfl) ?_
  rintro b1 w1 hb1 hblk1 hx1 hs1
  simp only [↓vsd, vsn, gW, qd, qv, ev, pick, argE, zipE, ne_eq, eq_self, forall_const, implies_true, if_true, if_false, reduceIte, reduceCtorEq, Nat.reduceEqDiff, Nat.reduceAdd, Nat.reduceLT, ↓us_iallTouches, r_iallTouches]
  refine m_upto n (fun k vs w' => ∃ x, vs = [x, .int .i64 k] ∧ Own fS 1 9 w.heap.size w' x (allT k) ∧ Ext w w') ⟨_, rfl, Own.lits (ls := [[]]) hblk1 rfl (by omega) (by decide), hx1⟩ ?_
  rintro k vs w2 hk ⟨x, rfl, ho2, hx2⟩
  by_cases hlt : k < n
  · have hltI : (k : Int) < n := by omega
    have hltJ : ¬ (n : Int) ≤ k := by omega
    simp only [↓vsd, vsn, gW, qd, qv, ev, pick, argE, zipE, ne_eq, eq_self, forall_const, implies_true, if_true, if_false, reduceIte, reduceCtorEq, Nat.reduceEqDiff, Nat.reduceAdd, Nat.reduceLT, ↓us_iallTouches, r_iallTouches, hltI, hltJ]
    refine m_bsl (by simp) ?_
    rintro b3 w3 hb3 hblk3 hx3 hs3
    have hq3 := ho2.ext hx3
    have hsm := allT_small (n := k) (by omega)
    simp only [↓vsd, vsn, gW, qd, qv, ev, pick, argE, zipE, ne_eq, eq_self, forall_const, implies_true, if_true, if_false, reduceIte, reduceCtorEq, Nat.reduceEqDiff, Nat.reduceAdd, Nat.reduceLT, ↓us_iallTouches, r_iallTouches, hq3.sq.facts]
    refine m_upto (allT k).length (fun i vs w' => ∃ y, vs = [y, .int .i64 i] ∧ Own fS 1 9 w2.heap.size w' y (((allT k).take i).flatMap extL) ∧ Own fS 1 9 w.heap.size w' x (allT k) ∧ Ext w2 w') ⟨_, rfl, Own.empty fS_len hblk3 (by omega), hq3, hx3⟩ ?_
    rintro i vs w4 hi ⟨y, rfl, hy4, ho4, hx4⟩
    have hq4 := ho4.sq
    by_cases hli : i < (allT k).length
    · have hliI : (i : Int) < (allT k).length := by omega
      have hliJ : ¬ ((allT k).length : Int) ≤ i := by omega
      have a4 := hq4.at1 [] hli
      have hft := flatE_take hli
      have htl : ((allT k).getD i []).length ≤ 6 := by have := (allT_str (getD_mem [] hli)).1; omega
      generalize (allT k).getD i [] = t at *
      simp only [↓vsd, vsn, gW, qd, qv, ev, pick, argE, zipE, ne_eq, eq_self, forall_const, implies_true, if_true, if_false, reduceIte, reduceCtorEq, Nat.reduceEqDiff, Nat.reduceAdd, Nat.reduceLT, ↓us_iallTouches, r_iallTouches, hliI, hliJ, hq4.facts, a4]
      refine ⟨by omega, ?_⟩
      have hpl : (((allT k).take i).flatMap extL).length ≤ 3 * 729 := by rw [flatE_len, List.length_take]; omega
      refine m_upto 3 (fun j vs w' => ∃ y, vs = [y, .int .i64 j] ∧ Own fS 1 9 w2.heap.size w' y (((allT k).take i).flatMap extL ++ (extL t).take j) ∧ Own fS 1 9 w.heap.size w' x (allT k) ∧ Ext w2 w') ⟨y, rfl, by rw [List.take_zero, List.append_nil]; exact hy4, ho4, hx4⟩ ?_
      rintro j vs w5 hj ⟨y5, rfl, hy5, ho5, hx5⟩
      by_cases hlj : j < 3
      · have hljI : (j : Int) < 3 := by omega
        have hljJ : ¬ (3 : Int) ≤ j := by omega
        have ej : (j : Int) + 1 = ((j + 1 : Nat) : Int) := by omega
        have hsub := let_sub j hlj
        have het := ext_take t j hlj
        have htj : ((extL t).take j).length ≤ 3 := by rw [List.length_take]; omega
        simp only [↓vsd, vsn, gW, qd, qv, ev, pick, argE, zipE, ne_eq, eq_self, forall_const, implies_true, if_true, if_false, reduceIte, reduceCtorEq, Nat.reduceEqDiff, Nat.reduceAdd, Nat.reduceLT, ↓us_iallTouches, r_iallTouches, hljI, hljJ, ej, hsub]
        refine ⟨inR_i64 (by omega), ⟨by omega, by omega, by omega⟩, by omega, m_bsl (one_el rfl) ?_⟩
        rintro b6 w6 hb6 hblk6 hx6 hs6
        simp only [↓vsd, vsn, gW, qd, qv, ev, pick, argE, zipE, ne_eq, eq_self, forall_const, implies_true, if_true, if_false, reduceIte, reduceCtorEq, Nat.reduceEqDiff, Nat.reduceAdd, Nat.reduceLT, ↓us_iallTouches, r_iallTouches]
        refine m_app (hy5.ext hx6) (Sq.one fS_len hblk6 rfl) fS_one (by decide) (by rw [List.length_append, List.length_singleton]; omega) (by decide) (by have := (hx5.trans hx6).size; omega) ?_
        rintro y7 w7 hy7 hg7
        simp only [↓vsd, vsn, gW, qd, qv, ev, pick, argE, zipE, ne_eq, eq_self, forall_const, implies_true, if_true, if_false, reduceIte, reduceCtorEq, Nat.reduceEqDiff, Nat.reduceAdd, Nat.reduceLT, ↓us_iallTouches, r_iallTouches]
        have hob : ∀ c, y5.ownBlock = some c → w2.heap.size ≤ c := fun c hc => (hy5.bound c hc).1
        refine ⟨inR_i64 (by omega), UpTo.next hlj ⟨y7, rfl, hy7.to (by rw [List.append_assoc, het]), (ho5.ext hx6).off hg7 (fun c hc => ho2.away (hob c hc)), ext_grow (hx5.trans hx6) hg7 hob⟩⟩
      · obtain rfl : j = 3 := by omega
        have hljI : ¬ ((3 : Nat) : Int) < 3 := by omega
        have e3 : (extL t).take 3 = extL t := rfl
        rw [e3, ← hft] at hy5
        simp only [↓vsd, vsn, gW, qd, qv, ev, pick, argE, zipE, ne_eq, eq_self, forall_const, implies_true, if_true, if_false, reduceIte, reduceCtorEq, Nat.reduceEqDiff, Nat.reduceAdd, Nat.reduceLT, ↓us_iallTouches, r_iallTouches, hljI]
        exact ⟨inR_i64 (by omega), UpTo.next hli ⟨y5, rfl, hy5, ho5, hx5⟩⟩
    · obtain rfl : i = (allT k).length := by omega
      have hliI : ¬ (((allT k).length : Nat) : Int) < (allT k).length := by omega
      rw [List.take_length] at hy4
      have ek : (k : Int) + 1 = ((k + 1 : Nat) : Int) := by omega
      simp only [↓vsd, vsn, gW, qd, qv, ev, pick, argE, zipE, ne_eq, eq_self, forall_const, implies_true, if_true, if_false, reduceIte, reduceCtorEq, Nat.reduceEqDiff, Nat.reduceAdd, Nat.reduceLT, ↓us_iallTouches, r_iallTouches, hliI, ek]
      exact ⟨inR_i64 (by omega), UpTo.next hlt ⟨y, rfl, hy4.mono hx2.size, hx2.trans hx4⟩⟩
  · obtain rfl : k = n := by omega
    have hltI : ¬ (k : Int) < k := by omega
    simp only [↓vsd, vsn, gW, qd, qv, ev, pick, argE, zipE, ne_eq, eq_self, forall_const, implies_true, if_true, if_false, reduceIte, reduceCtorEq, Nat.reduceEqDiff, Nat.reduceAdd, Nat.reduceLT, ↓us_iallTouches, r_iallTouches, hltI]
    exact ⟨hx2, ho2⟩
theorem sl13All_ok (n : Nat) (hn : n ≤ 6) (w : World) : Fn 66 [.int .i64 n] w (fun r w' => Own fS 1 9 w.heap.size w' r (allT n)) := by
  (refine callsV_of mix Try.func66 c_sl13All ?_; simp only [↓vsd, vsn, gW, qd, qv, ev, pick, argE, zipE, ne_eq, eq_self, forall_const, implies_true, if_true, if_false, reduceIte, reduceCtorEq, Nat.reduceEqDiff, Nat.reduceAdd, Nat.reduceLT, ↓us_sl13All, r_sl13All])
  refine m_bsl (one_el rfl) ?_
  rintro b1 w1 hb1 hblk1 hx1 hs1
  simp only [↓vsd, vsn, gW, qd, qv, ev, pick, argE, zipE, ne_eq, eq_self, forall_const, implies_true, if_true, if_false, reduceIte, reduceCtorEq, Nat.reduceEqDiff, Nat.reduceAdd, Nat.reduceLT, ↓us_sl13All, r_sl13All]
  refine m_upto n (fun k vs w' => ∃ x, vs = [.int .i64 (n - k : Nat), x] ∧ Own fS 1 9 w.heap.size w' x (allT k) ∧ Ext w w') ⟨_, rfl, Own.lits (ls := [[]]) hblk1 rfl (by omega) (by decide), hx1⟩ ?_
  rintro k vs w2 hk ⟨x, rfl, ho2, hx2⟩
  by_cases hlt : k < n
  · have hltI : (0 : Int) < (n - k : Nat) := by omega
    have hltJ : ¬ ((n - k : Nat) : Int) ≤ 0 := by omega
    simp only [↓vsd, vsn, gW, qd, qv, ev, pick, argE, zipE, ne_eq, eq_self, forall_const, implies_true, if_true, if_false, reduceIte, reduceCtorEq, Nat.reduceEqDiff, Nat.reduceAdd, Nat.reduceLT, ↓us_sl13All, r_sl13All, hltI, hltJ]
    have hsm := allT_small (n := k) (by omega)
    simp only [↓vsd, vsn, gW, qd, qv, ev, pick, argE, zipE, ne_eq, eq_self, forall_const, implies_true, if_true, if_false, reduceIte, reduceCtorEq, Nat.reduceEqDiff, Nat.reduceAdd, Nat.reduceLT, ↓us_sl13All, r_sl13All, ho2.sq.facts]
    refine m_upto (allT k).length (fun i vs w' => ∃ y, vs = [y, .int .i64 i] ∧ Own fS 1 9 w2.heap.size w' y (((allT k).take i).flatMap extL) ∧ Own fS 1 9 w.heap.size w' x (allT k) ∧ Ext w2 w') ⟨_, rfl, Own.nil fS_len, ho2, Ext.refl _⟩ ?_
    rintro i vs w4 hi ⟨y, rfl, hy4, ho4, hx4⟩
    have hq4 := ho4.sq
    by_cases hli : i < (allT k).length
    · have hliI : (i : Int) < (allT k).length := by omega
      have hliJ : ¬ ((allT k).length : Int) ≤ i := by omega
      have a4 := hq4.at1 [] hli
      have hft := flatE_take hli
      have htl : ((allT k).getD i []).length ≤ 6 := by have := (allT_str (getD_mem [] hli)).1; omega
      generalize (allT k).getD i [] = t at *
      have hpl : (((allT k).take i).flatMap extL).length ≤ 3 * 729 := by rw [flatE_len, List.length_take]; omega
      simp only [↓vsd, vsn, gW, qd, qv, ev, pick, argE, zipE, ne_eq, eq_self, forall_const, implies_true, if_true, if_false, reduceIte, reduceCtorEq, Nat.reduceEqDiff, Nat.reduceAdd, Nat.reduceLT, ↓us_sl13All, r_sl13All, hliI, hliJ, hq4.facts, a4]
      refine ⟨by omega, by omega, by omega, by omega, m_bsl (fun p hp => by simp only [List.mem_cons, List.not_mem_nil, or_false] at hp; rcases hp with rfl | rfl | rfl <;> rfl) ?_⟩
      rintro b6 w6 hb6 hblk6 hx6 hs6
      simp only [↓vsd, vsn, gW, qd, qv, ev, pick, argE, zipE, ne_eq, eq_self, forall_const, implies_true, if_true, if_false, reduceIte, reduceCtorEq, Nat.reduceEqDiff, Nat.reduceAdd, Nat.reduceLT, ↓us_sl13All, r_sl13All]
      have hlit := Sq.lit (f := fS) (extL t) 3 fS_len hblk6 rfl rfl
      refine m_app (hy4.ext hx6) hlit fS_one (by decide) (by show _ + 3 ≤ _; omega) (by decide) (by have := (hx4.trans hx6).size; omega) ?_
      rintro y7 w7 hy7 hg7
      simp only [↓vsd, vsn, gW, qd, qv, ev, pick, argE, zipE, ne_eq, eq_self, forall_const, implies_true, if_true, if_false, reduceIte, reduceCtorEq, Nat.reduceEqDiff, Nat.reduceAdd, Nat.reduceLT, ↓us_sl13All, r_sl13All]
      have hob : ∀ c, y.ownBlock = some c → w2.heap.size ≤ c := fun c hc => (hy4.bound c hc).1
      rw [← hft] at hy7
      exact ⟨inR_i64 (by omega), UpTo.next hli ⟨y7, rfl, hy7, (ho4.ext hx6).off hg7 (fun c hc => ho2.away (hob c hc)), ext_grow (hx4.trans hx6) hg7 hob⟩⟩
    · obtain rfl : i = (allT k).length := by omega
      have hliI : ¬ (((allT k).length : Nat) : Int) < (allT k).length := by omega
      rw [List.take_length] at hy4
      have ek : ((n - k : Nat) : Int) - 1 = ((n - (k + 1) : Nat) : Int) := by omega
      simp only [↓vsd, vsn, gW, qd, qv, ev, pick, argE, zipE, ne_eq, eq_self, forall_const, implies_true, if_true, if_false, reduceIte, reduceCtorEq, Nat.reduceEqDiff, Nat.reduceAdd, Nat.reduceLT, ↓us_sl13All, r_sl13All, hliI, ek]
      exact ⟨inR_i64 (by omega), UpTo.next hlt ⟨y, rfl, hy4.mono hx2.size, hx2.trans hx4⟩⟩
  · obtain rfl : k = n := by omega
    have hltI : ¬ (0 : Int) < ((k - k : Nat) : Int) := by omega
    simp only [↓vsd, vsn, gW, qd, qv, ev, pick, argE, zipE, ne_eq, eq_self, forall_const, implies_true, if_true, if_false, reduceIte, reduceCtorEq, Nat.reduceEqDiff, Nat.reduceAdd, Nat.reduceLT, ↓us_sl13All, r_sl13All, hltI]
    exact ⟨hx2, ho2⟩
end Go.Proofs.Ytfklonhjgkahdaa
