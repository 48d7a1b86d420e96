/-
  The rows that some rows generate, of both sides.
  Conditions: none.
-/
import Derived.Test.YthopbkemkfjebaaKA53
import Derived.Test.YthopbkemkfjebaaKPr
import Derived.Test.YthopbkemkfjebaaKVu
set_option linter.unusedSimpArgs false
set_option linter.unusedVariables false
set_option linter.defProp false
namespace Go.Proofs.Ythopbkemkfjebaa
open Go Go.RowKit
section
variable (P : Program) (k : KT) (e : Env) (w : World)
abbrev b65_1 : X := (.cond (.t 24) .skip (.exit 0))
def t65_1 := b65_1
theorem u65_1 : vcK P t65_1 k e w = vcK P b65_1 k e w := rfl
abbrev b65_2 : X := (.cond (.t 41) (.exit 3) .skip)
def t65_2 := b65_2
theorem u65_2 : vcK P t65_2 k e w = vcK P b65_2 k e w := rfl
abbrev b65_3 : X := (.cond (.t 45) (.seq (.reg [6, 7] (.c (.q 6 [] (.mv (.c (.slice none 0 0)))) (.c (.q 7 [] (.mv (.c (.bool false)))) .nil))) .ret) .skip)
def t65_3 := b65_3
theorem u65_3 : vcK P t65_3 k e w = vcK P b65_3 k e w := rfl
abbrev b65_4 : X := (.reg [1, 2, 8, 9, 10, 27, 28, 29] (.c (.q 48 [] (.mv (.t 9))) (.c (.q 49 [] (.mv (.t 13))) (.c (.e (some 50) [] (.bsl 9 1 [(.t 49)])) (.c (.e (some 51) [] (.app 24 9 1 16 [(S [])] 24 (.t 48) (.t 50))) (.c (.q 9 [] (.mv (.t 51))) .nil))))))
def t65_4 := b65_4
theorem u65_4 : vcK P t65_4 k e w = vcK P b65_4 k e w := rfl
abbrev b65_5 : X := (.seq (.reg [1, 2, 8, 9, 10, 13, 27, 28, 29] (.c (.q 46 [] (.mv (.t 8))) (.c (.q 47 [] (.mv (.t 13))) (.c (.e none [] (.mup false .string (.t 46) (.t 47) (.c (.bool true)))) .nil)))) t65_4)
def t65_5 := b65_5
theorem u65_5 : vcK P t65_5 k e w = vcK P b65_5 k e w := rfl
abbrev b65_6 : X := (.seq (.seq (.reg [1, 2, 8, 9, 10, 13, 27, 28, 29, 45] (.c (.q 42 [] (.mv (.t 9))) (.c (.q 43 [] (.lens (.t 42))) (.c (.q 44 [] (.mv (.t 2))) (.c (.q 45 [] (.bin .eql (.t 43) (.t 44))) .nil))))) t65_3) t65_5)
def t65_6 := b65_6
theorem u65_6 : vcK P t65_6 k e w = vcK P b65_6 k e w := rfl
abbrev b65_7 : X := (.seq (.seq (.reg [1, 2, 8, 9, 10, 13, 27, 28, 29, 41] (.c (.q 39 [] (.mv (.t 8))) (.c (.q 40 [] (.mv (.t 13))) (.c (.q 41 [] (.mlk false .string (.bool false) (.t 39) (.t 40))) .nil)))) t65_2) t65_6)
def t65_7 := b65_7
theorem u65_7 : vcK P t65_7 k e w = vcK P b65_7 k e w := rfl
abbrev b65_8 : X := (.seq (.reg [1, 2, 8, 9, 10, 13, 27, 28, 29] (.c (.q 33 [] (.mv (.t 9))) (.c (.q 34 [] (.mv (.t 10))) (.c (.q 35 [] (.ia 1 (.t 33) (.t 34))) (.c (.q 36 [] (.ld (.t 35))) (.c (.q 37 [] (.mv (.t 12))) (.c (.e (some 38) [] (.call false 110 [(.t 36), (.t 37)])) (.c (.q 13 [] (.mv (.t 38))) .nil)))))))) t65_7)
def t65_8 := b65_8
theorem u65_8 : vcK P t65_8 k e w = vcK P b65_8 k e w := rfl
abbrev b65_9 : X := (.reg [1, 2, 8, 9, 10, 27, 28, 29] (.c (.q 52 [] (.bin .add (.t 29) (.c (.int .i64 1)))) (.c (.q 29 [] (.mv (.t 52))) .nil)))
def t65_9 := b65_9
theorem u65_9 : vcK P t65_9 k e w = vcK P b65_9 k e w := rfl
abbrev b65_10 : X := (.seq (.blk 3 (.seq (.reg [1, 2, 8, 9, 10, 12, 27, 28, 29] (.c (.q 31 [] (.ia 1 (.t 27) (.t 29))) (.c (.q 32 [] (.ld (.t 31))) (.c (.q 12 [] (.mv (.t 32))) .nil)))) t65_8)) t65_9)
def t65_10 := b65_10
theorem u65_10 : vcK P t65_10 k e w = vcK P b65_10 k e w := rfl
abbrev b65_11 : X := (.seq (.cond (.t 30) .skip (.exit 2)) t65_10)
def t65_11 := b65_11
theorem u65_11 : vcK P t65_11 k e w = vcK P b65_11 k e w := rfl
abbrev b65_12 : X := (.seq (.reg [1, 2, 8, 9, 10, 27, 28, 29, 30] (.c (.q 30 [] (.bin .lss (.t 29) (.t 28))) .nil)) t65_11)
def t65_12 := b65_12
theorem u65_12 : vcK P t65_12 k e w = vcK P b65_12 k e w := rfl
abbrev b65_13 : X := (.blk 2 (.loop [9, 29] [1, 2, 8, 10, 27, 28] t65_12))
def t65_13 := b65_13
theorem u65_13 : vcK P t65_13 k e w = vcK P b65_13 k e w := rfl
abbrev b65_14 : X := (.reg [1, 2, 8, 9, 10] (.c (.q 25 [] (.mv (.t 10))) (.c (.q 26 [] (.bin .add (.t 25) (.c (.int .i64 1)))) (.c (.q 10 [] (.mv (.t 26))) .nil))))
def t65_14 := b65_14
theorem u65_14 : vcK P t65_14 k e w = vcK P b65_14 k e w := rfl
abbrev b65_15 : X := (.seq (.blk 1 (.seq (.reg [1, 2, 8, 9, 10, 27, 28, 29] (.c (.q 27 [] (.mv (.t 1))) (.c (.q 28 [] (.lens (.t 27))) (.c (.q 29 [] (.mv (.c (.int .i64 0)))) .nil)))) t65_13)) t65_14)
def t65_15 := b65_15
theorem u65_15 : vcK P t65_15 k e w = vcK P b65_15 k e w := rfl
abbrev b65_16 : X := (.seq (.seq (.reg [1, 2, 8, 9, 10, 24] (.c (.q 21 [] (.mv (.t 10))) (.c (.q 22 [] (.mv (.t 9))) (.c (.q 23 [] (.lens (.t 22))) (.c (.q 24 [] (.bin .lss (.t 21) (.t 23))) .nil))))) t65_1) t65_15)
def t65_16 := b65_16
theorem u65_16 : vcK P t65_16 k e w = vcK P b65_16 k e w := rfl
abbrev b65_17 : X := (.blk 0 (.loop [9, 10] [1, 2, 8] t65_16))
def t65_17 := b65_17
theorem u65_17 : vcK P t65_17 k e w = vcK P b65_17 k e w := rfl
abbrev b65_18 : X := (.seq (.reg [6, 7] (.c (.q 55 [] (.mv (.t 9))) (.c (.q 6 [] (.mv (.t 55))) (.c (.q 7 [] (.mv (.c (.bool true)))) .nil)))) .ret)
def t65_18 := b65_18
theorem u65_18 : vcK P t65_18 k e w = vcK P b65_18 k e w := rfl
abbrev b65_19 : X := (.seq (.reg [9] (.c (.q 53 [] (.mv (.t 9))) (.c (.e (some 54) [] (.call true 134 [(.t 53)])) .nil))) t65_18)
def t65_19 := b65_19
theorem u65_19 : vcK P t65_19 k e w = vcK P b65_19 k e w := rfl
abbrev b65_20 : X := (.seq (.seq (.reg [1, 2, 8, 9, 10] (.c (.q 10 [] (.mv (.c (.int .i64 0)))) .nil)) t65_17) t65_19)
def t65_20 := b65_20
theorem u65_20 : vcK P t65_20 k e w = vcK P b65_20 k e w := rfl
abbrev b65_21 : X := (.seq (.reg [1, 2, 8, 9] (.c (.q 18 [] (.mv (.t 0))) (.c (.e (some 19) [] (.call false 85 [(.t 18)])) (.c (.e (some 20) [] (.bsl 9 1 [(.t 19)])) (.c (.q 9 [] (.mv (.t 20))) .nil))))) t65_20)
def t65_21 := b65_21
theorem u65_21 : vcK P t65_21 k e w = vcK P b65_21 k e w := rfl
abbrev b65_22 : X := (.seq (.reg [0, 1, 2, 8] (.c (.e (some 14) [] .mkmap) (.c (.q 15 [] (.mv (.t 0))) (.c (.e (some 16) [] (.call false 85 [(.t 15)])) (.c (.e none [] (.mup false .string (.t 14) (.t 16) (.c (.bool true)))) (.c (.q 17 [] (.mv (.t 14))) (.c (.q 8 [] (.mv (.t 17))) .nil))))))) t65_21)
def t65_22 := b65_22
theorem u65_22 : vcK P t65_22 k e w = vcK P b65_22 k e w := rfl
abbrev b65_0 : X := (.seq (.reg [0, 1, 2] (.c (.q 6 [] (.mv (.c (.slice none 0 0)))) (.c (.q 7 [] (.mv (.c (.bool false)))) .nil))) t65_22)
def x_igenerated := b65_0
theorem u65_0 : vcK P x_igenerated k e w = vcK P b65_0 k e w := rfl
def r_igenerated : List XO := [(.mv (.t 6)), (.mv (.t 7))]
theorem c_igenerated : convF Try.prog [54, 55, 58, 69, 70, 71, 72, 73, 84, 89, 94, 95, 113, 114, 115, 130, 134, 143, 146, 161] Try.f65 [([0, 1, 2], []), ([0, 1, 2, 8], []), ([1, 2, 8, 9], []), ([1, 2, 8, 9, 10], []), ([9, 10], [1, 2, 8]), ([1, 2, 8, 9, 10, 24], []), ([1, 2, 8, 9, 10, 27, 28, 29], []), ([9, 29], [1, 2, 8, 10, 27, 28]), ([1, 2, 8, 9, 10, 27, 28, 29, 30], []), ([1, 2, 8, 9, 10, 12, 27, 28, 29], []), ([1, 2, 8, 9, 10, 13, 27, 28, 29], []), ([1, 2, 8, 9, 10, 13, 27, 28, 29, 41], []), ([1, 2, 8, 9, 10, 13, 27, 28, 29, 45], []), ([6, 7], []), ([1, 2, 8, 9, 10, 13, 27, 28, 29], []), ([1, 2, 8, 9, 10, 27, 28, 29], []), ([1, 2, 8, 9, 10, 27, 28, 29], []), ([1, 2, 8, 9, 10], []), ([9], []), ([6, 7], [])] = some (x_igenerated, r_igenerated) := by kernel_rfl
def us_igenerated :=  (aI (aI (aI (aI @u65_0 @u65_1) (aI @u65_2 (aI @u65_3 @u65_4))) (aI (aI @u65_5 (aI @u65_6 @u65_7)) (aI @u65_8 (aI @u65_9 @u65_10)))) (aI (aI (aI @u65_11 (aI @u65_12 @u65_13)) (aI @u65_14 (aI @u65_15 @u65_16))) (aI (aI @u65_17 (aI @u65_18 @u65_19)) (aI @u65_20 (aI @u65_21 @u65_22)))))
end
theorem gens_row {n : Nat} (hn : 3 ≤ n ∧ n ≤ 8) {gens : List Bs} (hg : ∀ g ∈ gens, IsRow g ∧ g.length = n) (i : Nat) : ∀ x ∈ clo gens (roundsL n) i, IsRow x ∧ x.length = n :=
  clo_all (fun x => IsRow x ∧ x.length = n) ⟨roundsL_row n hn, roundsL_len n⟩ (fun a ha g hgm => ⟨timesL_row ha.1 (hg g hgm).1 (by rw [ha.2, (hg g hgm).2]), by rw [timesL_len, (hg g hgm).2]⟩) i
theorem igenerated_ok (n : Nat) (hn : 3 ≤ n ∧ n ≤ 8) (v : Value) (gens : List Bs) (most : Nat) (hg : ∀ g ∈ gens, IsRow g ∧ g.length = n) (hl : gens.length ≤ 1000) (hm : 1 ≤ most ∧ most ≤ 1000) (w : World) (h : Sq fS 1 w v gens) : Fn 65 [.int .i64 n, v, .int .i64 most] w (fun r w' => ∃ x, r = .tuple ⟨[x, .bool (decide (GenOk gens (roundsL n) most))]⟩ ∧ Own fS 1 9 w.heap.size w' x (genV gens (roundsL n) most)) := by
  (refine callsV_of mix Try.func65 c_igenerated ?_; simp only [↓vsd, vsn, gW, qd, qv, ev, pick, argE, zipE, ne_eq, eq_self, forall_const, implies_true, if_true, if_false, reduceIte, reduceCtorEq, Nat.reduceEqDiff, Nat.reduceAdd, Nat.reduceLT, ↓us_igenerated, r_igenerated])
  refine m_mkset ?_
  rintro m w1 hmb hs1 hx1 hsz
  simp only [↓vsd, vsn, gW, qd, qv, ev, pick, argE, zipE, ne_eq, eq_self, forall_const, implies_true, if_true, if_false, reduceIte, reduceCtorEq, Nat.reduceEqDiff, Nat.reduceAdd, Nat.reduceLT, ↓us_igenerated, r_igenerated]
  refine m_call (irounds_ok n (by omega) _) ?_
  rintro _ w2 hx2 rfl
  simp only [↓vsd, vsn, gW, qd, qv, ev, pick, argE, zipE, ne_eq, eq_self, forall_const, implies_true, if_true, if_false, reduceIte, reduceCtorEq, Nat.reduceEqDiff, Nat.reduceAdd, Nat.reduceLT, ↓us_igenerated, r_igenerated]
  refine m_put (hs1.ext hx2) ?_
  rintro w3 hs3 hu3
  have hwm : w.heap.size ≤ m := by omega
  have hx3 : Ext w w3 := hu3.below (hx1.trans hx2) hwm
  simp only [↓vsd, vsn, gW, qd, qv, ev, pick, argE, zipE, ne_eq, eq_self, forall_const, implies_true, if_true, if_false, reduceIte, reduceCtorEq, Nat.reduceEqDiff, Nat.reduceAdd, Nat.reduceLT, ↓us_igenerated, r_igenerated]
  refine m_call (irounds_ok n (by omega) _) ?_
  rintro _ w4 hx4 rfl
  simp only [↓vsd, vsn, gW, qd, qv, ev, pick, argE, zipE, ne_eq, eq_self, forall_const, implies_true, if_true, if_false, reduceIte, reduceCtorEq, Nat.reduceEqDiff, Nat.reduceAdd, Nat.reduceLT, ↓us_igenerated, r_igenerated]
  refine m_bsl (one_el rfl) ?_
  rintro b5 w5 hb5 hblk5 hx5 hs5
  simp only [↓vsd, vsn, gW, qd, qv, ev, pick, argE, zipE, ne_eq, eq_self, forall_const, implies_true, if_true, if_false, reduceIte, reduceCtorEq, Nat.reduceEqDiff, Nat.reduceAdd, Nat.reduceLT, ↓us_igenerated, r_igenerated]
  have hx35 := hx4.trans hx5
  have hs5' := hs3.ext hx35
  have hx05 := hx3.trans hx35
  refine m_upto most (fun i vs w' => ∃ x, vs = [x, .int .i64 i] ∧ Own fS 1 9 w.heap.size w' x (clo gens (roundsL n) i) ∧ SetAt w' m (clo gens (roundsL n) i) ∧ Ext w w' ∧ (clo gens (roundsL n) i).length ≤ most ∧ i ≤ (clo gens (roundsL n) i).length) ⟨_, rfl, (Own.one fS_len hblk5 rfl (by have := hx3.size; have := hx4.size; omega)).to rfl, hs5', hx05, hm.1, Nat.zero_le _⟩ ?_
  rintro i vs w6 hi ⟨x, rfl, ho6, hs6, hx6, hlm, hil⟩
  have hrow := gens_row hn hg i
  by_cases hlt : i < (clo gens (roundsL n) i).length
  · have hltI : (i : Int) < (clo gens (roundsL n) i).length := by omega
    have hltJ : ¬ ((clo gens (roundsL n) i).length : Int) ≤ i := by omega
    have hsucc := clo_succ hlt
    have hpre := clo_pre gens (roundsL n) i
    generalize hC : clo gens (roundsL n) i = C at *
    have hai := hrow _ (getD_mem [] hlt)
    have hq6 := h.ext hx6
    generalize ha : C.getD i [] = a at *
    simp only [↓vsd, vsn, gW, qd, qv, ev, pick, argE, zipE, ne_eq, eq_self, forall_const, implies_true, if_true, if_false, reduceIte, reduceCtorEq, Nat.reduceEqDiff, Nat.reduceAdd, Nat.reduceLT, ↓us_igenerated, r_igenerated, ho6.sq.facts, hltI, hltJ, hq6.facts]
    refine m_upto gens.length (fun k vs w' => ∃ x, vs = [x, .int .i64 k] ∧ Own fS 1 9 w.heap.size w' x (grow1 (gens.take k) C a) ∧ SetAt w' m (grow1 (gens.take k) C a) ∧ Ext w w' ∧ (grow1 (gens.take k) C a).length ≤ most) ⟨x, rfl, ho6, hs6, hx6, hlm⟩ ?_
    rintro k vs w7 hk ⟨x7, rfl, ho7, hs7, hx7, hl7⟩
    have hq7 := h.ext hx7
    have hpre7 := grow1_pre (gens.take k) C a
    have hi7 := pre_get hpre7 hlt
    rw [ha] at hi7
    have hil7 : i < (grow1 (gens.take k) C a).length := Nat.lt_of_lt_of_le hlt hpre7.length_le
    by_cases hltk : k < gens.length
    · have hkI : (k : Int) < gens.length := by omega
      have hkJ : ¬ (gens.length : Int) ≤ k := by omega
      have hg1 := hg _ (getD_mem [] hltk)
      have hs := grow1_succ gens C a k hltk
      have hmono := grow1_mono gens C a (k + 1)
      have a7 := hq7.at1 [] hltk
      have b7 := ho7.sq.at1 [] hil7
      rw [hi7] at b7
      generalize grow1 (gens.take k) C a = D at *
      generalize gens.getD k [] = g at *
      simp only [↓vsd, vsn, gW, qd, qv, ev, pick, argE, zipE, ne_eq, eq_self, forall_const, implies_true, if_true, if_false, reduceIte, reduceCtorEq, Nat.reduceEqDiff, Nat.reduceAdd, Nat.reduceLT, ↓us_igenerated, r_igenerated, hkI, hkJ, hq7.facts, a7, ho7.sq.facts, b7]
      refine ⟨by omega, by omega, ?_⟩
      refine m_call (itimes_ok a g hg1.1 (by rw [hai.2, hg1.2]) _) ?_
      rintro _ w8 hx8 rfl
      have hx8 : Ext w7 w8 := by first | exact hx8 | exact ud hx8 | exact ud (ud hx8)
      have hs8 := hs7.ext hx8
      have ho8 := ho7.ext hx8
      have hx08 := hx7.trans hx8
      have hlk := hs8.look (timesL a g)
      by_cases hin : timesL a g ∈ D
      · have hp : put1 D (timesL a g) = D := by unfold put1; rw [if_pos hin]
        simp only [↓vsd, vsn, gW, qd, qv, ev, pick, argE, zipE, ne_eq, eq_self, forall_const, implies_true, if_true, if_false, reduceIte, reduceCtorEq, Nat.reduceEqDiff, Nat.reduceAdd, Nat.reduceLT, ↓us_igenerated, r_igenerated, hlk, hin]
        exact ⟨inR_i64 (by omega), UpTo.next hltk ⟨x7, rfl, ho8.to (by rw [hs, hp]), by rw [hs, hp]; exact hs8, hx08, by rw [hs, hp]; exact hl7⟩⟩
      · have hp : put1 D (timesL a g) = D ++ [timesL a g] := by unfold put1; rw [if_neg hin]
        simp only [↓vsd, vsn, gW, qd, qv, ev, pick, argE, zipE, ne_eq, eq_self, forall_const, implies_true, if_true, if_false, reduceIte, reduceCtorEq, Nat.reduceEqDiff, Nat.reduceAdd, Nat.reduceLT, ↓us_igenerated, r_igenerated, hlk, hin, ho8.sq.facts]
        refine ⟨fun hfull => ?_, fun hroom => ?_⟩
        · have hno : ¬ GenOk gens (roundsL n) most := by
            refine gen_fail (i := i) (by rw [hC]; exact hlm) (by rw [hC]; exact hlt) ?_
            rw [hsucc]
            have : (grow1 (gens.take (k + 1)) C a).length = D.length + 1 := by rw [hs, hp]; simp
            omega
          exact ⟨hx08, _, by rw [decide_eq_false hno], by rw [genV, if_neg hno]; exact Own.nil fS_len⟩
        · refine m_put hs8 ?_
          rintro w9 hs9 hu9
          have hx9 : Ext w w9 := hu9.below hx08 hwm
          have ho9 := ho8.upd hu9 (hs8.apart ho8)
          simp only [↓vsd, vsn, gW, qd, qv, ev, pick, argE, zipE, ne_eq, eq_self, forall_const, implies_true, if_true, if_false, reduceIte, reduceCtorEq, Nat.reduceEqDiff, Nat.reduceAdd, Nat.reduceLT, ↓us_igenerated, r_igenerated]
          refine m_bsl (one_el rfl) ?_
          rintro b10 w10 hb10 hblk10 hx10 hs10
          have hx10 : Ext w9 w10 := by first | exact hx10 | exact ud hx10 | exact ud (ud hx10)
          simp only [↓vsd, vsn, gW, qd, qv, ev, pick, argE, zipE, ne_eq, eq_self, forall_const, implies_true, if_true, if_false, reduceIte, reduceCtorEq, Nat.reduceEqDiff, Nat.reduceAdd, Nat.reduceLT, ↓us_igenerated, r_igenerated]
          refine m_app (ho9.ext hx10) (Sq.one fS_len hblk10 rfl) fS_one (by decide) (by simp; omega) (by decide) ((hx9.trans hx10).size) ?_
          rintro x11 w11 ho11 hg11
          have hx11 := (ho9.ext hx10).grown (hx9.trans hx10) (Nat.le_refl _) hg11
          have hs11 := (hs9.ext hx10).grown hg11 ((hs9.ext hx10).apart (ho9.ext hx10))
          simp only [↓vsd, vsn, gW, qd, qv, ev, pick, argE, zipE, ne_eq, eq_self, forall_const, implies_true, if_true, if_false, reduceIte, reduceCtorEq, Nat.reduceEqDiff, Nat.reduceAdd, Nat.reduceLT, ↓us_igenerated, r_igenerated]
          exact ⟨inR_i64 (by omega), UpTo.next hltk ⟨x11, rfl, ho11.to (by rw [hs, hp]), by rw [hs]; exact hs11, hx11, by rw [hs, hp, List.length_append, List.length_singleton]; omega⟩⟩
    · obtain rfl : k = gens.length := by omega
      have hkI : ¬ (gens.length : Int) < gens.length := by omega
      rw [List.take_length] at ho7 hs7 hl7 hil7
      simp only [↓vsd, vsn, gW, qd, qv, ev, pick, argE, zipE, ne_eq, eq_self, forall_const, implies_true, if_true, if_false, reduceIte, reduceCtorEq, Nat.reduceEqDiff, Nat.reduceAdd, Nat.reduceLT, ↓us_igenerated, r_igenerated, hkI]
      exact ⟨inR_i64 (by omega), UpTo.next (by omega) ⟨x7, by simp, by rw [hsucc]; exact ho7, by rw [hsucc]; exact hs7, hx7, by rw [hsucc]; exact hl7, by rw [hsucc]; omega⟩⟩
  · have hend := gen_end (gens := gens) (e := roundsL n) (m := most) (i := i) (by omega) hlm
    have hei : i = (clo gens (roundsL n) i).length := by omega
    have hltI : ¬ (i : Int) < (clo gens (roundsL n) i).length := by omega
    have hpos : 0 < (clo gens (roundsL n) i).length := List.length_pos_of_mem (clo_first _ _ _)
    simp only [↓vsd, vsn, gW, qd, qv, ev, pick, argE, zipE, ne_eq, eq_self, forall_const, implies_true, if_true, if_false, reduceIte, reduceCtorEq, Nat.reduceEqDiff, Nat.reduceAdd, Nat.reduceLT, ↓us_igenerated, r_igenerated, ho6.sq.facts, hltI]
    refine m_callw (by first | exact .inl rfl | exact .inr rfl) (xslices_Sort_string_string_ok x _ (by omega) (own_ne ho6 hpos) _ ho6) ?_
    rintro _ w7 ⟨ho7, hg7⟩
    have hx7 := ho6.grown hx6 (Nat.le_refl _) hg7
    simp only [↓vsd, vsn, gW, qd, qv, ev, pick, argE, zipE, ne_eq, eq_self, forall_const, implies_true, if_true, if_false, reduceIte, reduceCtorEq, Nat.reduceEqDiff, Nat.reduceAdd, Nat.reduceLT, ↓us_igenerated, r_igenerated]
    exact ⟨hx7, x, by rw [decide_eq_true hend.1], by rw [genV, if_pos hend.1, hend.2]; exact ho7⟩
/-- Which rows of a stage are there, by their ranks. -/
def SeenAt (n : Nat) (L : List Bs) (B : List Bool) : Prop := B.length = factL n ∧ ∀ x, IsRow x → x.length = n → B.getD (rankL x) false = decide (x ∈ L)
theorem SeenAt.put {n : Nat} {L : List Bs} {B : List Bool} (h : SeenAt n L B) {x : Bs} (hx : IsRow x) (hl : x.length = n) : SeenAt n (L ++ [x]) (B.set (rankL x) true) := by
  refine ⟨by rw [List.length_set, h.1], fun y hy hyl => ?_⟩
  have hr := rankL_lt x
  rw [hl, ← h.1] at hr
  by_cases he : y = x
  · subst he
    rw [List.getD_eq_getElem?_getD, List.getElem?_set_self hr]
    simp
  · have hne : rankL x ≠ rankL y := fun e => he (rank_inj hy hx (by omega) e.symm)
    rw [List.getD_eq_getElem?_getD, List.getElem?_set_ne hne, ← List.getD_eq_getElem?_getD, h.2 y hy hyl]
    simp [he]
theorem SeenAt.none (n : Nat) : SeenAt n [] (List.replicate (factL n) false) := by
  refine ⟨by simp, fun x hx hl => ?_⟩
  have hr := rankL_lt x
  rw [hl] at hr
  rw [List.getD_eq_getElem?_getD, List.getElem?_replicate, if_pos hr]
  simp
end Go.Proofs.Ythopbkemkfjebaa
