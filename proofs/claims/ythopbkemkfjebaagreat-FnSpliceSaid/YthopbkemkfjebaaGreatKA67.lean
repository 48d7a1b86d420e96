/-
  The heads and the rows of a splice, of both sides.
  Conditions: none.
-/
import Derived.Test.YthopbkemkfjebaaGreatKA31
import Derived.Test.YthopbkemkfjebaaGreatKA34
import Derived.Test.YthopbkemkfjebaaGreatKA66
import Derived.Test.YthopbkemkfjebaaGreatKD3
set_option linter.unusedSimpArgs false
set_option linter.unusedVariables false
set_option linter.defProp false
namespace Go.Proofs.YthopbkemkfjebaaGreat
open Go Go.RowKit
section
variable (P : Program) (k : KT) (e : Env) (w : World)
abbrev b84_1 : X := (.reg [0, 2, 4, 7, 8, 19, 20] (.c (.q 41 [] (.mv (.t 8))) (.c (.q 42 [] (.mv (.t 7))) (.c (.e (some 43) [] (.bsl 9 1 [(.t 42)])) (.c (.e (some 44) [] (.app 23 9 1 16 [(S [])] 23 (.t 41) (.t 43))) (.c (.q 8 [] (.mv (.t 44))) .nil))))))
def t84_1 := b84_1
theorem u84_1 : vcK P t84_1 k e w = vcK P b84_1 k e w := rfl
abbrev b84_2 : X := (.seq (.drw [0, 2, 4, 7, 8, 19, 20] (.c (.q 23 [] (.mv (.t 7))) (.c (.q 24 [] (.mv (.t 0))) (.c (.q 25 [] (.mv (.t 2))) (.c (.q 26 [] (.mv (.t 9))) (.c (.q 30 [] (.lda 2 (.t 4))) (.c (.q 31 [] (.mv (.t 2))) (.c (.q 32 [] (.mv (.t 9))) (.c (.q 33 [] (.bin .mul (.c (.int .i64 2)) (.t 32))) (.c (.q 34 [] (.bin .add (.t 33) (.c (.int .i64 1)))) (.c (.q 35 [] (.mv (.t 9))) (.c (.q 36 [] (.bin .mul (.c (.int .i64 2)) (.t 35))) (.c (.q 37 [] (.bin .add (.t 36) (.c (.int .i64 2)))) (.c (.q 38 [] (.sub (.t 31) (some (.t 34)) (some (.t 37)))) (.c (.e (some 27) [] (.call false 79 [(.t 25), (.t 26)])) (.c (.q 28 [] (.ia 3 (.t 24) (.t 27))) (.c (.q 29 [] (.lda 3 (.t 28))) (.c (.e (some 39) [] (.call false 132 [(.t 29), (.t 30), (.t 38)])) (.c (.e (some 40) [] (.call false 87 [(.t 23), (.t 39)])) (.c (.q 7 [] (.mv (.t 40))) .nil)))))))))))))))))))) t84_1)
def t84_2 := b84_2
theorem u84_2 : vcK P t84_2 k e w = vcK P b84_2 k e w := rfl
abbrev b84_3 : X := (.reg [0, 2, 4, 7, 8, 19, 20] (.c (.q 45 [] (.bin .add (.t 20) (.c (.int .i64 1)))) (.c (.q 20 [] (.mv (.t 45))) .nil)))
def t84_3 := b84_3
theorem u84_3 : vcK P t84_3 k e w = vcK P b84_3 k e w := rfl
abbrev b84_4 : X := (.seq (.blk 1 (.seq (.reg [0, 2, 4, 7, 8, 9, 19, 20] (.c (.q 22 [] (.mv (.t 20))) (.c (.q 9 [] (.mv (.t 22))) .nil))) t84_2)) t84_3)
def t84_4 := b84_4
theorem u84_4 : vcK P t84_4 k e w = vcK P b84_4 k e w := rfl
abbrev b84_5 : X := (.seq (.cond (.t 21) .skip (.exit 0)) t84_4)
def t84_5 := b84_5
theorem u84_5 : vcK P t84_5 k e w = vcK P b84_5 k e w := rfl
abbrev b84_6 : X := (.seq (.reg [0, 2, 4, 7, 8, 19, 20, 21] (.c (.q 21 [] (.bin .lss (.t 20) (.t 19))) .nil)) t84_5)
def t84_6 := b84_6
theorem u84_6 : vcK P t84_6 k e w = vcK P b84_6 k e w := rfl
abbrev b84_7 : X := (.blk 0 (.loop [7, 8, 20] [0, 2, 4, 19] t84_6))
def t84_7 := b84_7
theorem u84_7 : vcK P t84_7 k e w = vcK P b84_7 k e w := rfl
abbrev b84_8 : X := (.seq (.reg [6] (.c (.q 46 [] (.mv (.t 8))) (.c (.q 6 [] (.mv (.t 46))) .nil))) .ret)
def t84_8 := b84_8
theorem u84_8 : vcK P t84_8 k e w = vcK P b84_8 k e w := rfl
abbrev b84_9 : X := (.seq (.seq (.reg [0, 2, 4, 7, 8, 19, 20] (.c (.q 17 [] (.mv (.t 2))) (.c (.q 18 [] (.len (.t 17))) (.c (.q 19 [] (.bin .quo (.t 18) (.c (.int .i64 2)))) (.c (.q 20 [] (.mv (.c (.int .i64 0)))) .nil))))) t84_7) t84_8)
def t84_9 := b84_9
theorem u84_9 : vcK P t84_9 k e w = vcK P b84_9 k e w := rfl
abbrev b84_10 : X := (.seq (.reg [0, 2, 4, 7, 8] (.c (.q 15 [] (.mv (.t 7))) (.c (.e (some 16) [] (.bsl 9 1 [(.t 15)])) (.c (.q 8 [] (.mv (.t 16))) .nil)))) t84_9)
def t84_10 := b84_10
theorem u84_10 : vcK P t84_10 k e w = vcK P b84_10 k e w := rfl
abbrev b84_11 : X := (.seq (.reg [0, 2, 4, 7] (.c (.q 10 [] (.mv (.t 0))) (.c (.q 11 [] (.ia 3 (.t 10) (.c (.int .i64 0)))) (.c (.q 12 [] (.fa 1 (.t 11))) (.c (.q 13 [] (.ld (.t 12))) (.c (.e (some 14) [] (.call false 131 [(.t 13)])) (.c (.q 7 [] (.mv (.t 14))) .nil))))))) t84_10)
def t84_11 := b84_11
theorem u84_11 : vcK P t84_11 k e w = vcK P b84_11 k e w := rfl
abbrev b84_0 : X := (.seq (.reg [0, 2, 4] (.c (.e (some 4) [] (.box 27 (.t 1))) (.c (.q 6 [] (.mv (.c (.slice none 0 0)))) .nil))) t84_11)
def x_ispliceHeads := b84_0
theorem u84_0 : vcK P x_ispliceHeads k e w = vcK P b84_0 k e w := rfl
def r_ispliceHeads : List XO := [(.mv (.t 6))]
theorem c_ispliceHeads : convF Tryz.prog [56, 58, 59, 60, 61, 62, 72, 73, 77, 97, 98, 109, 110, 111, 112, 115, 128, 136] Tryz.f84 [([0, 2, 4], []), ([0, 2, 4, 7], []), ([0, 2, 4, 7, 8], []), ([0, 2, 4, 7, 8, 19, 20], []), ([7, 8, 20], [0, 2, 4, 19]), ([0, 2, 4, 7, 8, 19, 20, 21], []), ([0, 2, 4, 7, 8, 9, 19, 20], []), ([0, 2, 4, 7, 8, 19, 20], []), ([0, 2, 4, 7, 8, 19, 20], []), ([0, 2, 4, 7, 8, 19, 20], []), ([6], [])] = some (x_ispliceHeads, r_ispliceHeads) := by kernel_rfl
def us_ispliceHeads :=  (aI (aI (aI @u84_0 (aI @u84_1 @u84_2)) (aI @u84_3 (aI @u84_4 @u84_5))) (aI (aI @u84_6 (aI @u84_7 @u84_8)) (aI @u84_9 (aI @u84_10 @u84_11))))
end
section
variable (n : Nat) (css : List (List (List UInt8))) (b s t : List UInt8)
/-- The head behind i leads of a splice. -/
def hdS : Nat → List UInt8
  | 0 => roundsL n
  | i + 1 => timesL (hdS i) (headC n (css.getD (mA t i) []) b s [t.getD (2 * i + 1) 0])
def hdsS (k : Nat) : List (List UInt8) := (List.range k).map (hdS n css b s t)
theorem hdsS_len (k : Nat) : (hdsS n css b s t k).length = k := by simp [hdsS]
theorem hdsS_get (k i : Nat) (h : i < k) : (hdsS n css b s t k).getD i [] = hdS n css b s t i := by
  unfold hdsS
  rw [List.getD_eq_getElem?_getD, List.getElem?_map, List.getElem?_range h]; rfl
theorem hdsS_succ (k : Nat) : hdsS n css b s t (k + 1) = hdsS n css b s t k ++ [hdS n css b s t k] := by simp [hdsS, List.range_succ]
end
/-- What a valid splice says of lead i. -/
theorem spl_at {ms : List MS} {css : List (List (List UInt8))} {b s t : List UInt8} {n : Nat} (h : SplOk ms css b s t) (hn : (ms.getD 0 MS.nil).st = n) {i : Nat} (hi : i < t.length / 2) : mA t i < ms.length ∧ (ms.getD (mA t i) MS.nil).st = n ∧ IsMC (ms.getD (mA t i) MS.nil).nm n (css.getD (mA t i) []) b s ∧ IsCall [t.getD (2 * i + 1) 0] := by
  obtain ⟨_, h2, h3, _⟩ := mA_lt h.2 hi
  obtain ⟨g1, g2⟩ := h.1.2.1 _ h2
  have g3 := h.1.2.2
  rw [hn] at g2 g3
  rw [g2] at g1
  exact ⟨h2, g2, ⟨g1, g3.2⟩, h3⟩
theorem spl_st {ms : List MS} {css : List (List (List UInt8))} {b s t : List UInt8} (h : SplOk ms css b s t) : ∃ n : Nat, (ms.getD 0 MS.nil).st = n ∧ 3 ≤ n ∧ n ≤ 8 := by
  have := h.1.2.2.1.2.1
  exact ⟨(ms.getD 0 MS.nil).st.toNat, by omega, by omega, by omega⟩
theorem hdS_row {ms : List MS} {css : List (List (List UInt8))} {b s t : List UInt8} {n : Nat} (h : SplOk ms css b s t) (hn : (ms.getD 0 MS.nil).st = n) (h8 : 3 ≤ n ∧ n ≤ 8) : ∀ i, i ≤ t.length / 2 → IsRow (hdS n css b s t i) ∧ (hdS n css b s t i).length = n
  | 0 => fun _ => ⟨roundsL_row n h8, roundsL_len n⟩
  | i + 1 => fun hi => by
    obtain ⟨_, _, hM, _⟩ := spl_at h hn (show i < t.length / 2 by omega)
    have hr := hdS_row h hn h8 i (by omega)
    have hc := headC_row hM [t.getD (2 * i + 1) 0]
    exact ⟨timesL_row hr.1 hc.1 (by rw [hr.2, hc.2]), by unfold hdS; rw [timesL_len, hc.2]⟩
theorem SqM.at {w : World} {v : Value} {ms : List MS} {css : List (List (List UInt8))} (h : SqM w v ms css) {a n : Nat} (ha : a < ms.length) (hst : (ms.getD a MS.nil).st = n) : ∀ k : IntKind, ldaV w 3 (iaV 3 v (.int k (a : Nat))) = mV (ms.getD a MS.nil).nm n (ms.getD a MS.nil).sv.v ∧ ldaD w 3 (iaV 3 v (.int k (a : Nat))) = True := fun k => by
  have := h.1.ata MS.nil ha k
  rw [← hst]
  exact this
theorem ispliceHeads_ok (v : Value) (ms : List MS) (css : List (List (List UInt8))) (b s t : List UInt8) (n : Nat) (hS : SplOk ms css b s t) (hn : (ms.getD 0 MS.nil).st = n) (h8 : 3 ≤ n ∧ n ≤ 8) (w : World) (h : SqM w v ms css) : Fn 84 [v, kV b s, S t] w (fun r w' => Own fS 1 9 w.heap.size w' r (hdsS n css b s t (t.length / 2 + 1))) := by
  (refine callsV_of mix Tryz.func84 c_ispliceHeads ?_; simp only [↓vsd, vsn, gW, qd, qv, ev, pick, argE, zipE, ne_eq, eq_self, forall_const, implies_true, if_true, if_false, reduceIte, reduceCtorEq, Nat.reduceEqDiff, Nat.reduceAdd, Nat.reduceLT, ↓us_ispliceHeads, r_ispliceHeads])
  refine m_al ?_
  rintro b1 w1 hb1 hblk1 hx1 hs1
  have h1 : Blk w1 b1 (fQ b s) 27 := hblk1
  have hq1 := h.ext hx1
  have hz : 0 < ms.length := by have := hS.1.1; omega
  have z1 := hq1.st0 hz
  rw [hn] at z1
  have p1 := hq1.p0 hz
  have htl := hS.2.2.1
  simp only [↓vsd, vsn, gW, qd, qv, ev, pick, argE, zipE, ne_eq, eq_self, forall_const, implies_true, if_true, if_false, reduceIte, reduceCtorEq, Nat.reduceEqDiff, Nat.reduceAdd, Nat.reduceLT, ↓us_ispliceHeads, r_ispliceHeads, hq1.1.facts, z1, p1]
  refine ⟨by omega, m_call (irounds_ok n (by omega) _) ?_⟩
  rintro _ w2 hx2 rfl
  have hx2 : Ext w1 w2 := by first | exact hx2 | exact ud hx2 | exact ud (ud hx2)
  simp only [↓vsd, vsn, gW, qd, qv, ev, pick, argE, zipE, ne_eq, eq_self, forall_const, implies_true, if_true, if_false, reduceIte, reduceCtorEq, Nat.reduceEqDiff, Nat.reduceAdd, Nat.reduceLT, ↓us_ispliceHeads, r_ispliceHeads]
  refine m_bsl (one_el rfl) ?_
  rintro b3 w3 hb3 hblk3 hx3 hs3
  have hx3 : Ext w2 w3 := by first | exact hx3 | exact ud hx3 | exact ud (ud hx3)
  have hx13 := hx2.trans hx3
  have hd2 : ((t.length : Nat) : Int).tdiv 2 = ((t.length / 2 : Nat) : Int) := rfl
  simp only [↓vsd, vsn, gW, qd, qv, ev, pick, argE, zipE, ne_eq, eq_self, forall_const, implies_true, if_true, if_false, reduceIte, reduceCtorEq, Nat.reduceEqDiff, Nat.reduceAdd, Nat.reduceLT, ↓us_ispliceHeads, r_ispliceHeads, hd2]
  refine ⟨⟨by decide, inR_i64 (by omega)⟩, ?_⟩
  refine m_upto (t.length / 2) (fun i vs w' => ∃ x, vs = [S (hdS n css b s t i), x, .int .i64 i] ∧ Own fS 1 9 w1.heap.size w' x (hdsS n css b s t (i + 1)) ∧ Ext w1 w') ⟨_, rfl, (Own.one fS_len hblk3 rfl (by have := hx2.size; omega)).to rfl, hx13⟩ ?_
  rintro i vs w4 hi ⟨x, rfl, ho4, hx4⟩
  have hq4 := hq1.ext hx4
  have h14 := h1.ext hx4
  have hx04 := hx1.trans hx4
  by_cases hlt : i < t.length / 2
  · have hltI : (i : Int) < ((t.length / 2 : Nat) : Int) := by omega
    have hltJ : ¬ ((t.length / 2 : Nat) : Int) ≤ i := by omega
    obtain ⟨ha, hst, hM, hcall⟩ := spl_at hS hn hlt
    have hr := hdS_row hS hn h8 i (by omega)
    have hc := headC_row hM [t.getD (2 * i + 1) 0]
    have e2 : (2 : Int) * (i : Int) = ((2 * i : Nat) : Int) := by omega
    have e3 : ((2 * i : Nat) : Int) + 1 = ((2 * i + 1 : Nat) : Int) := by omega
    have e4 : ((2 * i : Nat) : Int) + 2 = ((2 * i + 2 : Nat) : Int) := by omega
    have hs1 : (t.take (2 * i + 2)).drop (2 * i + 1) = [t.getD (2 * i + 1) 0] := sub_one t (2 * i + 1) (by omega)
    have hxd : Ext w4 w4.drew := dr (Ext.refl _)
    have q4d := (hq4.ext hxd).at ha hst
    have hq4f := hq4.1.facts
    have h14d := h14.ext hxd
    simp only [↓vsd, vsn, gW, qd, qv, ev, pick, argE, zipE, ne_eq, eq_self, forall_const, implies_true, if_true, if_false, reduceIte, reduceCtorEq, Nat.reduceEqDiff, Nat.reduceAdd, Nat.reduceLT, ↓us_ispliceHeads, r_ispliceHeads, hltI, hltJ, e2, e3, e4, hs1, h14d.facts, fQg]
    refine ⟨inR_i64 (by omega), inR_i64 (by omega), inR_i64 (by omega), inR_i64 (by omega), by omega, ?_⟩
    refine m_call (imethodAt_ok ms.length t i hS.2 hlt _) ?_
    rintro _ w5 hx5 rfl
    have hx5 : Ext w4 w5 := by first | exact hx5 | exact ud hx5 | exact ud (ud hx5)
    simp only [↓vsd, vsn, gW, qd, qv, ev, pick, argE, zipE, ne_eq, eq_self, forall_const, implies_true, if_true, if_false, reduceIte, reduceCtorEq, Nat.reduceEqDiff, Nat.reduceAdd, Nat.reduceLT, ↓us_ispliceHeads, r_ispliceHeads, hq4f, q4d]
    refine ⟨by omega, m_call (icallHead_ok _ n _ (css.getD (mA t i) []) b s _ hM _ (by first | exact (hq4.2.2 _ ha).ext hx5 | exact (hq4.2.2 _ ha).ext (dr hx5))) ?_⟩
    rintro _ w6 hx6 rfl
    have hx6 : Ext w5 w6 := by first | exact hx6 | exact ud hx6 | exact ud (ud hx6)
    simp only [↓vsd, vsn, gW, qd, qv, ev, pick, argE, zipE, ne_eq, eq_self, forall_const, implies_true, if_true, if_false, reduceIte, reduceCtorEq, Nat.reduceEqDiff, Nat.reduceAdd, Nat.reduceLT, ↓us_ispliceHeads, r_ispliceHeads]
    refine m_call (itimes_ok _ _ hc.1 (by rw [hr.2, hc.2]) _) ?_
    rintro _ w7 hx7 rfl
    have hx7 : Ext w6 w7 := by first | exact hx7 | exact ud hx7 | exact ud (ud hx7)
    simp only [↓vsd, vsn, gW, qd, qv, ev, pick, argE, zipE, ne_eq, eq_self, forall_const, implies_true, if_true, if_false, reduceIte, reduceCtorEq, Nat.reduceEqDiff, Nat.reduceAdd, Nat.reduceLT, ↓us_ispliceHeads, r_ispliceHeads]
    refine m_bsl (one_el rfl) ?_
    rintro b8 w8 hb8 hblk8 hx8 hs8
    have hx8 : Ext w7 w8 := by first | exact hx8 | exact ud hx8 | exact ud (ud hx8)
    simp only [↓vsd, vsn, gW, qd, qv, ev, pick, argE, zipE, ne_eq, eq_self, forall_const, implies_true, if_true, if_false, reduceIte, reduceCtorEq, Nat.reduceEqDiff, Nat.reduceAdd, Nat.reduceLT, ↓us_ispliceHeads, r_ispliceHeads]
    have hx48 := ((hx5.trans hx6).trans hx7).trans hx8
    refine m_app (ho4.ext hx48) (Sq.one fS_len hblk8 rfl) fS_one (by decide) (by rw [hdsS_len, List.length_singleton]; omega) (by decide) (hx4.trans hx48).size ?_
    rintro x9 w9 ho9 hg9
    have hx9 := (ho4.ext hx48).grown (hx4.trans hx48) (Nat.le_refl _) hg9
    simp only [↓vsd, vsn, gW, qd, qv, ev, pick, argE, zipE, ne_eq, eq_self, forall_const, implies_true, if_true, if_false, reduceIte, reduceCtorEq, Nat.reduceEqDiff, Nat.reduceAdd, Nat.reduceLT, ↓us_ispliceHeads, r_ispliceHeads]
    exact ⟨inR_i64 (by omega), UpTo.next hlt ⟨x9, rfl, ho9.to (by rw [hdsS_succ n css b s t (i + 1)]; rfl), hx9⟩⟩
  · obtain rfl : i = t.length / 2 := by omega
    have hltI : ¬ ((t.length / 2 : Nat) : Int) < ((t.length / 2 : Nat) : Int) := by omega
    simp only [↓vsd, vsn, gW, qd, qv, ev, pick, argE, zipE, ne_eq, eq_self, forall_const, implies_true, if_true, if_false, reduceIte, reduceCtorEq, Nat.reduceEqDiff, Nat.reduceAdd, Nat.reduceLT, ↓us_ispliceHeads, r_ispliceHeads, hltI]
    exact ⟨hx04, ho4.mono hx1.size⟩
end Go.Proofs.YthopbkemkfjebaaGreat
