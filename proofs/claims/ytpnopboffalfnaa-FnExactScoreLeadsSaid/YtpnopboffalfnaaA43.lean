/-
  The scores of the leads of a touch, of both sides.
  Conditions: none.
-/
import Derived.Test.YtpnopboffalfnaaA8
import Derived.Test.YtpnopboffalfnaaA35
set_option linter.unusedSimpArgs false
set_option linter.unusedVariables false
set_option linter.defProp false
namespace Go.Proofs.Ytpnopboffalfnaa
open Go Go.RowKit
section
variable (P : Program) (k : KT) (e : Env) (w : World)
abbrev b53_1 : X := (.cond (.t 22) (.seq (.reg [8, 9] (.c (.q 8 [] (.mv (.c (.slice none 0 0)))) (.c (.q 9 [] (.mv (.c (.bool false)))) .nil))) .ret) .skip)
def t53_1 := b53_1
theorem u53_1 : vcK P t53_1 k e w = vcK P b53_1 k e w := rfl
abbrev b53_2 : X := (.reg [3, 4, 10, 30, 31, 32] (.c (.q 36 [] (.mv (.t 10))) (.c (.q 37 [] (.mv (.t 3))) (.c (.q 38 [] (.lda 3 (.t 4))) (.c (.q 39 [] (.mv (.t 12))) (.c (.e (some 40) [] (.call false 157 [(.t 38), (.t 39)])) (.c (.e (some 41) [] (.call false 199 [(.t 37), (.t 40)])) (.c (.e (some 42) [] (.bsl 3 1 [(.t 41)])) (.c (.e (some 43) [] (.app 69 3 1 8 [(.int .i64 0)] 69 (.t 36) (.t 42))) (.c (.q 10 [] (.mv (.t 43))) .nil))))))))))
def t53_2 := b53_2
theorem u53_2 : vcK P t53_2 k e w = vcK P b53_2 k e w := rfl
abbrev b53_3 : X := (.reg [3, 4, 10, 30, 31, 32] (.c (.q 44 [] (.bin .add (.t 32) (.c (.int .i64 1)))) (.c (.q 32 [] (.mv (.t 44))) .nil)))
def t53_3 := b53_3
theorem u53_3 : vcK P t53_3 k e w = vcK P b53_3 k e w := rfl
abbrev b53_4 : X := (.seq (.blk 1 (.seq (.reg [3, 4, 10, 12, 30, 31, 32] (.c (.q 34 [] (.ia 1 (.t 30) (.t 32))) (.c (.q 35 [] (.ld (.t 34))) (.c (.q 12 [] (.mv (.t 35))) .nil)))) t53_2)) t53_3)
def t53_4 := b53_4
theorem u53_4 : vcK P t53_4 k e w = vcK P b53_4 k e w := rfl
abbrev b53_5 : X := (.seq (.cond (.t 33) .skip (.exit 0)) t53_4)
def t53_5 := b53_5
theorem u53_5 : vcK P t53_5 k e w = vcK P b53_5 k e w := rfl
abbrev b53_6 : X := (.seq (.reg [3, 4, 10, 30, 31, 32, 33] (.c (.q 33 [] (.bin .lss (.t 32) (.t 31))) .nil)) t53_5)
def t53_6 := b53_6
theorem u53_6 : vcK P t53_6 k e w = vcK P b53_6 k e w := rfl
abbrev b53_7 : X := (.blk 0 (.loop [10, 32] [3, 4, 30, 31] t53_6))
def t53_7 := b53_7
theorem u53_7 : vcK P t53_7 k e w = vcK P b53_7 k e w := rfl
abbrev b53_8 : X := (.seq (.reg [8, 9] (.c (.q 45 [] (.mv (.t 10))) (.c (.q 8 [] (.mv (.t 45))) (.c (.q 9 [] (.mv (.c (.bool true)))) .nil)))) .ret)
def t53_8 := b53_8
theorem u53_8 : vcK P t53_8 k e w = vcK P b53_8 k e w := rfl
abbrev b53_9 : X := (.seq (.seq (.reg [3, 4, 10, 30, 31, 32] (.c (.q 24 [] (.lda 3 (.t 4))) (.c (.q 25 [] (.lda 2 (.t 5))) (.c (.q 26 [] (.mv (.t 2))) (.c (.e (some 27) [] (.call false 198 [(.t 24), (.t 25), (.t 26)])) (.c (.q 28 [] (.mv (.t 2))) (.c (.q 29 [] (.len (.t 28))) (.c (.q 30 [] (.ssl 1 (.t 27) none (some (.t 29)))) (.c (.q 31 [] (.lens (.t 30))) (.c (.q 32 [] (.mv (.c (.int .i64 0)))) .nil)))))))))) t53_7) t53_8)
def t53_9 := b53_9
theorem u53_9 : vcK P t53_9 k e w = vcK P b53_9 k e w := rfl
abbrev b53_10 : X := (.seq (.reg [2, 3, 4, 5, 10] (.c (.e (some 23) [] (.bsl 3 1 [])) (.c (.q 10 [] (.mv (.t 23))) .nil))) t53_9)
def t53_10 := b53_10
theorem u53_10 : vcK P t53_10 k e w = vcK P b53_10 k e w := rfl
abbrev b53_11 : X := (.seq (.seq (.reg [2, 3, 4, 5, 22] (.c (.q 13 [] (.lda 3 (.t 4))) (.c (.q 14 [] (.lda 2 (.t 5))) (.c (.q 15 [] (.mv (.t 2))) (.c (.e (some 16) [] (.call false 161 [(.t 13), (.t 14), (.t 15)])) (.c (.q 17 [] (.not (.t 16))) (.c (.q 18 [] (.mv (.t 17))) (.c (.q 19 [(18, false)] (.mv (.t 3))) (.c (.e (some 20) [(18, false)] (.call false 151 [(.t 19)])) (.c (.q 21 [(18, false)] (.not (.t 20))) (.c (.q 22 [] (.pick (.t 18) (.c (.bool true)) (.t 21))) .nil))))))))))) t53_1) t53_10)
def t53_11 := b53_11
theorem u53_11 : vcK P t53_11 k e w = vcK P b53_11 k e w := rfl
abbrev b53_0 : X := (.seq (.reg [2, 3, 4, 5] (.c (.e (some 4) [] (.box 41 (.t 0))) (.c (.e (some 5) [] (.box 32 (.t 1))) (.c (.q 8 [] (.mv (.c (.slice none 0 0)))) (.c (.q 9 [] (.mv (.c (.bool false)))) .nil))))) t53_11)
def x_iScoreLeads := b53_0
theorem u53_0 : vcK P x_iScoreLeads k e w = vcK P b53_0 k e w := rfl
def r_iScoreLeads : List XO := [(.mv (.t 8)), (.mv (.t 9))]
theorem c_iScoreLeads : convF Try.prog [169, 170, 207, 208, 210, 227, 232, 233, 255, 259, 268, 269, 270, 280, 281, 296, 299, 306, 307, 309] Try.f53 [([2, 3, 4, 5], []), ([2, 3, 4, 5, 22], []), ([8, 9], []), ([2, 3, 4, 5, 10], []), ([3, 4, 10, 30, 31, 32], []), ([10, 32], [3, 4, 30, 31]), ([3, 4, 10, 30, 31, 32, 33], []), ([3, 4, 10, 12, 30, 31, 32], []), ([3, 4, 10, 30, 31, 32], []), ([3, 4, 10, 30, 31, 32], []), ([8, 9], [])] = some (x_iScoreLeads, r_iScoreLeads) := by kernel_rfl
def us_iScoreLeads := aI @u53_0 (aI @u53_1 (aI @u53_2 (aI @u53_3 (aI @u53_4 (aI @u53_5 (aI @u53_6 (aI @u53_7 (aI @u53_8 (aI @u53_9 (aI @u53_10 @u53_11))))))))))
abbrev b50_1 : X := (.cond (.t 22) (.seq (.reg [8, 9] (.c (.q 8 [] (.mv (.c (.slice none 0 0)))) (.c (.q 9 [] (.mv (.c (.bool false)))) .nil))) .ret) .skip)
def t50_1 := b50_1
theorem u50_1 : vcK P t50_1 k e w = vcK P b50_1 k e w := rfl
abbrev b50_2 : X := (.reg [3, 4, 10, 29, 30, 31] (.c (.q 35 [] (.mv (.t 10))) (.c (.q 36 [] (.mv (.t 3))) (.c (.q 37 [] (.lda 3 (.t 4))) (.c (.q 38 [] (.mv (.t 12))) (.c (.e (some 39) [] (.call false 195 [(.t 37), (.t 38)])) (.c (.e (some 40) [] (.call false 194 [(.t 36), (.t 39)])) (.c (.e (some 41) [] (.bsl 3 1 [(.t 40)])) (.c (.e (some 42) [] (.app 69 3 1 8 [(.int .i64 0)] 69 (.t 35) (.t 41))) (.c (.q 10 [] (.mv (.t 42))) .nil))))))))))
def t50_2 := b50_2
theorem u50_2 : vcK P t50_2 k e w = vcK P b50_2 k e w := rfl
abbrev b50_3 : X := (.reg [3, 4, 10, 29, 30, 31] (.c (.q 43 [] (.bin .add (.t 31) (.c (.int .i64 1)))) (.c (.q 31 [] (.mv (.t 43))) .nil)))
def t50_3 := b50_3
theorem u50_3 : vcK P t50_3 k e w = vcK P b50_3 k e w := rfl
abbrev b50_4 : X := (.seq (.blk 1 (.seq (.reg [3, 4, 10, 12, 29, 30, 31] (.c (.q 33 [] (.ia 1 (.t 29) (.t 31))) (.c (.q 34 [] (.ld (.t 33))) (.c (.q 12 [] (.mv (.t 34))) .nil)))) t50_2)) t50_3)
def t50_4 := b50_4
theorem u50_4 : vcK P t50_4 k e w = vcK P b50_4 k e w := rfl
abbrev b50_5 : X := (.seq (.cond (.t 32) .skip (.exit 0)) t50_4)
def t50_5 := b50_5
theorem u50_5 : vcK P t50_5 k e w = vcK P b50_5 k e w := rfl
abbrev b50_6 : X := (.seq (.reg [3, 4, 10, 29, 30, 31, 32] (.c (.q 32 [] (.bin .lss (.t 31) (.t 30))) .nil)) t50_5)
def t50_6 := b50_6
theorem u50_6 : vcK P t50_6 k e w = vcK P b50_6 k e w := rfl
abbrev b50_7 : X := (.blk 0 (.loop [10, 31] [3, 4, 29, 30] t50_6))
def t50_7 := b50_7
theorem u50_7 : vcK P t50_7 k e w = vcK P b50_7 k e w := rfl
abbrev b50_8 : X := (.seq (.reg [8, 9] (.c (.q 44 [] (.mv (.t 10))) (.c (.q 8 [] (.mv (.t 44))) (.c (.q 9 [] (.mv (.c (.bool true)))) .nil)))) .ret)
def t50_8 := b50_8
theorem u50_8 : vcK P t50_8 k e w = vcK P b50_8 k e w := rfl
abbrev b50_9 : X := (.seq (.seq (.reg [3, 4, 10, 29, 30, 31] (.c (.q 23 [] (.lda 3 (.t 4))) (.c (.q 24 [] (.lda 2 (.t 5))) (.c (.q 25 [] (.mv (.t 2))) (.c (.e (some 26) [] (.call false 193 [(.t 23), (.t 24), (.t 25)])) (.c (.q 27 [] (.mv (.t 2))) (.c (.q 28 [] (.len (.t 27))) (.c (.q 29 [] (.ssl 1 (.t 26) none (some (.t 28)))) (.c (.q 30 [] (.lens (.t 29))) (.c (.q 31 [] (.mv (.c (.int .i64 0)))) .nil)))))))))) t50_7) t50_8)
def t50_9 := b50_9
theorem u50_9 : vcK P t50_9 k e w = vcK P b50_9 k e w := rfl
abbrev b50_10 : X := (.seq (.reg [2, 3, 4, 5, 10] (.c (.q 10 [] (.mv (.c (.slice none 0 0)))) .nil)) t50_9)
def t50_10 := b50_10
theorem u50_10 : vcK P t50_10 k e w = vcK P b50_10 k e w := rfl
abbrev b50_11 : X := (.seq (.seq (.reg [2, 3, 4, 5, 22] (.c (.q 13 [] (.lda 3 (.t 4))) (.c (.q 14 [] (.lda 2 (.t 5))) (.c (.q 15 [] (.mv (.t 2))) (.c (.e (some 16) [] (.call false 163 [(.t 13), (.t 14), (.t 15)])) (.c (.q 17 [] (.not (.t 16))) (.c (.q 18 [] (.mv (.t 17))) (.c (.q 19 [(18, false)] (.mv (.t 3))) (.c (.e (some 20) [(18, false)] (.call false 192 [(.t 19)])) (.c (.q 21 [(18, false)] (.not (.t 20))) (.c (.q 22 [] (.pick (.t 18) (.c (.bool true)) (.t 21))) .nil))))))))))) t50_1) t50_10)
def t50_11 := b50_11
theorem u50_11 : vcK P t50_11 k e w = vcK P b50_11 k e w := rfl
abbrev b50_0 : X := (.seq (.reg [2, 3, 4, 5] (.c (.e (some 4) [] (.box 41 (.t 0))) (.c (.e (some 5) [] (.box 32 (.t 1))) (.c (.q 8 [] (.mv (.c (.slice none 0 0)))) (.c (.q 9 [] (.mv (.c (.bool false)))) .nil))))) t50_11)
def x_sScoreLeads := b50_0
theorem u50_0 : vcK P x_sScoreLeads k e w = vcK P b50_0 k e w := rfl
def r_sScoreLeads : List XO := [(.mv (.t 8)), (.mv (.t 9))]
theorem c_sScoreLeads : convF Try.prog [169, 170, 207, 208, 210, 227, 232, 233, 255, 259, 268, 269, 270, 280, 281, 296, 299, 306, 307, 309] Try.f50 [([2, 3, 4, 5], []), ([2, 3, 4, 5, 22], []), ([8, 9], []), ([2, 3, 4, 5, 10], []), ([3, 4, 10, 29, 30, 31], []), ([10, 31], [3, 4, 29, 30]), ([3, 4, 10, 29, 30, 31, 32], []), ([3, 4, 10, 12, 29, 30, 31], []), ([3, 4, 10, 29, 30, 31], []), ([3, 4, 10, 29, 30, 31], []), ([8, 9], [])] = some (x_sScoreLeads, r_sScoreLeads) := by kernel_rfl
def us_sScoreLeads := aI @u50_0 (aI @u50_1 (aI @u50_2 (aI @u50_3 (aI @u50_4 (aI @u50_5 (aI @u50_6 (aI @u50_7 (aI @u50_8 (aI @u50_9 (aI @u50_10 @u50_11))))))))))
end

/-- The scores of the leads from some heads. -/
def scoresL (ks : List LK) (cs hs : List (List UInt8)) : List Int := hs.map fun h => scoreL ks (rowsU h cs cs.length)
theorem scoresL_len (ks : List LK) (cs hs : List (List UInt8)) : (scoresL ks cs hs).length = hs.length := by simp [scoresL]
theorem scoresL_succ (ks : List LK) (cs hs : List (List UInt8)) (k : Nat) (h : k < hs.length) : scoresL ks cs (hs.take (k + 1)) = scoresL ks cs (hs.take k) ++ [scoreL ks (rowsU (hs.getD k []) cs cs.length)] := by
  unfold scoresL
  rw [List.take_add_one, List.getElem?_eq_getElem h, List.getD_eq_getElem?_getD, List.getElem?_eq_getElem h, List.map_append]
  rfl
/-- Are scores asked? -/
def ScOk (nm : List UInt8) (st : Int) (cs : List (List UInt8)) (b s t : List UInt8) (ks : List LK) : Prop := IsMT nm st cs b s t ∧ GoodKs ks
instance (nm : List UInt8) (st : Int) (cs : List (List UInt8)) (b s t : List UInt8) (ks : List LK) : Decidable (ScOk nm st cs b s t ks) := by unfold ScOk; infer_instance
def scV (nm : List UInt8) (st : Int) (cs : List (List UInt8)) (b s t : List UInt8) (ks : List LK) : List Int := if ScOk nm st cs b s t ks then scoresL ks cs (headsP st.toNat cs b s t t.length) else []
section
variable (nm : List UInt8) (st : Int) (v u : Value) (cs : List (List UInt8)) (b s t : List UInt8) (ks : List LK) (hnm : nm.length ≤ 1048576) (hs : ∀ c ∈ cs, c.length ≤ 1048576) (hl : cs.length ≤ 1000000000) (hb : b.length ≤ 1048576 ∧ s.length ≤ 1048576) (ht : t.length ≤ 1000000000) (hp : ∀ x ∈ ks, x.pat.length ≤ 1048576) (hks : ks.length ≤ 1048576)
include hnm hs hl hb ht hp hks
theorem iScoreLeads_ok (w : World) (h : Sq fS 1 w v cs) (h' : Sq fK 2 w u ks) : Fn 53 [mV nm st v, kV b s, S t, u] w (fun r w' => ∃ x, r = .tuple ⟨[x, .bool (decide (ScOk nm st cs b s t ks))]⟩ ∧ Own fI 1 3 w.heap.size w' x (scV nm st cs b s t ks)) := by
  (refine callsV_of mix Try.func53 c_iScoreLeads ?_; simp only [↓vsd, vsn, gW, qd, qv, ev, pick, argE, zipE, ne_eq, eq_self, forall_const, implies_true, if_true, if_false, reduceIte, reduceCtorEq, Nat.reduceEqDiff, Nat.reduceAdd, Nat.reduceLT, ↓us_iScoreLeads, r_iScoreLeads])
  refine m_al ?_
  rintro b1 w1 hb1 hblk1 hx1 hs1
  have h1 : Blk w1 b1 (fM nm st v) 41 := hblk1
  simp only [↓vsd, vsn, gW, qd, qv, ev, pick, argE, zipE, ne_eq, eq_self, forall_const, implies_true, if_true, if_false, reduceIte, reduceCtorEq, Nat.reduceEqDiff, Nat.reduceAdd, Nat.reduceLT, ↓us_iScoreLeads, r_iScoreLeads, h1.facts, fMg]
  refine m_al ?_
  rintro b2 w2 hb2 hblk2 hx2 hs2
  have h2 : Blk w2 b2 (fQ b s) 32 := hblk2
  have h12 := h1.ext hx2
  have hx12 := hx1.trans hx2
  simp only [↓vsd, vsn, gW, qd, qv, ev, pick, argE, zipE, ne_eq, eq_self, forall_const, implies_true, if_true, if_false, reduceIte, reduceCtorEq, Nat.reduceEqDiff, Nat.reduceAdd, Nat.reduceLT, ↓us_iScoreLeads, r_iScoreLeads, h12.facts, h2.facts, fMg, fQg]
  refine m_call (igoodFor_ok nm st v cs b s t hnm hs hl hb ht _ (by first | exact h.ext hx12 | exact h.ext (dr hx12))) ?_
  rintro _ w3 hx3 rfl
  have hx3 : Ext w2 w3 := by first | exact hx3 | exact ud hx3 | exact ud (ud hx3)
  have hx13 := hx12.trans hx3
  have h13 := h12.ext hx3
  have h23 := h2.ext hx3
  by_cases hM : IsMC nm st cs b s ∧ IsTch t
  · obtain ⟨n, rfl⟩ : ∃ n : Nat, st = n := ⟨st.toNat, by have := hM.1.1.2.1; omega⟩
    have hcl := hM.1.1.2.2.1
    have ht60 := hM.2.1
    have hD := decide_eq_true hM
    simp only [↓vsd, vsn, gW, qd, qv, ev, pick, argE, zipE, ne_eq, eq_self, forall_const, implies_true, if_true, if_false, reduceIte, reduceCtorEq, Nat.reduceEqDiff, Nat.reduceAdd, Nat.reduceLT, ↓us_iScoreLeads, r_iScoreLeads, hD, h13.facts, h23.facts, fMg, fQg]
    refine m_call (iGoodLiked_ok u ks hp hks _ (by first | exact h'.ext hx13 | exact h'.ext (dr hx13))) ?_
    rintro _ w4 hx4 rfl
    have hx4 : Ext w3 w4 := by first | exact hx4 | exact ud hx4 | exact ud (ud hx4)
    have hx14 := hx13.trans hx4
    have h14 := h13.ext hx4
    have h24 := h23.ext hx4
    by_cases hK : GoodKs ks
    · have hok : ScOk nm n cs b s t ks := ⟨hM, hK⟩
      have hKD := decide_eq_true hK
      simp only [↓vsd, vsn, gW, qd, qv, ev, pick, argE, zipE, ne_eq, eq_self, forall_const, implies_true, if_true, if_false, reduceIte, reduceCtorEq, Nat.reduceEqDiff, Nat.reduceAdd, Nat.reduceLT, ↓us_iScoreLeads, r_iScoreLeads, hKD]
      refine m_bsl (by simp) ?_
      rintro b5 w5 hb5 hblk5 hx5 hs5
      have hx5 : Ext w4 w5 := by first | exact hx5 | exact ud hx5 | exact ud (ud hx5)
      have hx15 := hx14.trans hx5
      have h15 := h14.ext hx5
      have h25 := h24.ext hx5
      simp only [↓vsd, vsn, gW, qd, qv, ev, pick, argE, zipE, ne_eq, eq_self, forall_const, implies_true, if_true, if_false, reduceIte, reduceCtorEq, Nat.reduceEqDiff, Nat.reduceAdd, Nat.reduceLT, ↓us_iScoreLeads, r_iScoreLeads, h15.facts, h25.facts, fMg, fQg]
      refine m_call (iheads_ok nm n v cs b s t hM.1 ⟨hM.2.1.2, hM.2.2⟩ _ (by first | exact h.ext hx15 | exact h.ext (dr hx15))) ?_
      rintro x w55 hx55 ho5
      have hx55 : Ext w5 w55 := by first | exact hx55 | exact ud hx55 | exact ud (ud hx55)
      have ho5 := ho5.mono (B' := w5.heap.size) (Nat.le_refl _)
      obtain ⟨hd, hoh, _⟩ := ho5.head .i64 t.length (by rw [headsP_len]; omega)
      rw [headsP_take] at hoh
      have hrs := headsP_rows hM.1 t t.length
      have hhl := headsP_len n cs b s t t.length
      simp only [↓vsd, vsn, gW, qd, qv, ev, pick, argE, zipE, ne_eq, eq_self, forall_const, implies_true, if_true, if_false, reduceIte, reduceCtorEq, Nat.reduceEqDiff, Nat.reduceAdd, Nat.reduceLT, ↓us_iScoreLeads, r_iScoreLeads, hd, hoh.sq.facts]
      have hb5l := Blk.lt hblk5
      generalize hhd : headsP n cs b s t t.length = hs' at *
      refine m_upto hs'.length (fun i vs w' => ∃ x', vs = [x', .int .i64 i] ∧ Own fI 1 3 w4.heap.size w' x' (scoresL ks cs (hs'.take i)) ∧ Ext w4 w' ∧ Own fS 1 9 w5.heap.size w' _ hs' ∧ ∀ c, x'.ownBlock = some c → Away _ c) ⟨_, rfl, (Own.empty fI_len (Blk.ext hblk5 hx55) (by omega)).to rfl, hx5.trans hx55, hoh, fun c hc => hoh.away' (by simp only [Value.ownBlock, Option.some.injEq] at hc; omega)⟩ ?_
      rintro i vs w6 hi ⟨x, rfl, ho6, hx6, hy6, haw⟩
      have h16 := h14.ext hx6
      have hx16 := hx14.trans hx6
      have hq6 := hy6.sq
      by_cases hlt : i < hs'.length
      · have hltI : (i : Int) < hs'.length := by omega
        have hltJ : ¬ (hs'.length : Int) ≤ i := by omega
        simp only [↓vsd, vsn, gW, qd, qv, ev, pick, argE, zipE, ne_eq, eq_self, forall_const, implies_true, if_true, if_false, reduceIte, reduceCtorEq, Nat.reduceEqDiff, Nat.reduceAdd, Nat.reduceLT, ↓us_iScoreLeads, r_iScoreLeads, hltI, hltJ, hq6.facts, hq6.at1 [] hlt, h16.facts, fMg]
        refine ⟨by omega, m_call (ileadRows_ok nm n v cs _ hM.1.1 (hrs _ (getD_mem [] hlt)) _ (by first | exact h.ext hx16 | exact h.ext (dr hx16))) ?_⟩
        rintro y w7 hx7 ho7
        have hx7 : Ext w6 w7 := by first | exact hx7 | exact ud hx7 | exact ud (ud hx7)
        have hx17 := hx16.trans hx7
        simp only [↓vsd, vsn, gW, qd, qv, ev, pick, argE, zipE, ne_eq, eq_self, forall_const, implies_true, if_true, if_false, reduceIte, reduceCtorEq, Nat.reduceEqDiff, Nat.reduceAdd, Nat.reduceLT, ↓us_iScoreLeads, r_iScoreLeads]
        refine m_call (iscoreOf_ok u y ks _ hK (by rw [rowsU_len]; omega) _ (h'.ext hx17) ho7.sq) ?_
        rintro _ w8 hx8 rfl
        have hx8 : Ext w7 w8 := by first | exact hx8 | exact ud hx8 | exact ud (ud hx8)
        simp only [↓vsd, vsn, gW, qd, qv, ev, pick, argE, zipE, ne_eq, eq_self, forall_const, implies_true, if_true, if_false, reduceIte, reduceCtorEq, Nat.reduceEqDiff, Nat.reduceAdd, Nat.reduceLT, ↓us_iScoreLeads, r_iScoreLeads]
        refine m_bsl (one_el rfl) ?_
        rintro b9 w9 hb9 hblk9 hx9 hs9
        have hx9 : Ext w8 w9 := by first | exact hx9 | exact ud hx9 | exact ud (ud hx9)
        simp only [↓vsd, vsn, gW, qd, qv, ev, pick, argE, zipE, ne_eq, eq_self, forall_const, implies_true, if_true, if_false, reduceIte, reduceCtorEq, Nat.reduceEqDiff, Nat.reduceAdd, Nat.reduceLT, ↓us_iScoreLeads, r_iScoreLeads]
        have hx79 := (hx7.trans hx8).trans hx9
        have hok6 := ho6.ext hx79
        have hyk := hy6.ext hx79
        refine m_app2 hok6 (Sq.one fI_len hblk9 rfl) fI_one (by decide) (by rw [scoresL_len, List.length_take]; simp; omega) (by decide) (hx6.trans hx79).size ?_
        rintro z wa hoa hga hna
        simp only [↓vsd, vsn, gW, qd, qv, ev, pick, argE, zipE, ne_eq, eq_self, forall_const, implies_true, if_true, if_false, reduceIte, reduceCtorEq, Nat.reduceEqDiff, Nat.reduceAdd, Nat.reduceLT, ↓us_iScoreLeads, r_iScoreLeads]
        exact ⟨inR_i64 (by omega), UpTo.next hlt ⟨z, rfl, hoa.to (scoresL_succ ks cs hs' i hlt).symm, hok6.grown (hx6.trans hx79) (Nat.le_refl _) hga, hyk.off hga haw, fun c hc => by
          rcases hna c hc with h' | h'
          · exact haw c h'
          · exact hyk.away h'⟩⟩
      · obtain rfl : i = hs'.length := by omega
        have hltI : ¬ (hs'.length : Int) < hs'.length := by omega
        simp only [↓vsd, vsn, gW, qd, qv, ev, pick, argE, zipE, ne_eq, eq_self, forall_const, implies_true, if_true, if_false, reduceIte, reduceCtorEq, Nat.reduceEqDiff, Nat.reduceAdd, Nat.reduceLT, ↓us_iScoreLeads, r_iScoreLeads, hltI]
        rw [List.take_length] at ho6
        exact ⟨hx16, x, by rw [decide_eq_true hok], by rw [scV, if_pos hok, Int.toNat_natCast, hhd]; exact ho6.mono hx14.size⟩
    · have hno : ¬ ScOk nm n cs b s t ks := fun hh => hK hh.2
      have hKD := decide_eq_false hK
      simp only [↓vsd, vsn, gW, qd, qv, ev, pick, argE, zipE, ne_eq, eq_self, forall_const, implies_true, if_true, if_false, reduceIte, reduceCtorEq, Nat.reduceEqDiff, Nat.reduceAdd, Nat.reduceLT, ↓us_iScoreLeads, r_iScoreLeads, hKD]
      exact ⟨hx14, _, by rw [decide_eq_false hno], by rw [scV, if_neg hno]; exact Own.nil fI_len⟩
  · have hno : ¬ ScOk nm st cs b s t ks := fun hh => hM hh.1
    have hD := decide_eq_false hM
    simp only [↓vsd, vsn, gW, qd, qv, ev, pick, argE, zipE, ne_eq, eq_self, forall_const, implies_true, if_true, if_false, reduceIte, reduceCtorEq, Nat.reduceEqDiff, Nat.reduceAdd, Nat.reduceLT, ↓us_iScoreLeads, r_iScoreLeads, hD]
    exact ⟨hx13, _, by rw [decide_eq_false hno], by rw [scV, if_neg hno]; exact Own.nil fI_len⟩
theorem sScoreLeads_ok (w : World) (h : Sq fS 1 w v cs) (h' : Sq fK 2 w u ks) : Fn 50 [mV nm st v, kV b s, S t, u] w (fun r w' => ∃ x, r = .tuple ⟨[x, .bool (decide (ScOk nm st cs b s t ks))]⟩ ∧ Own fI 1 3 w.heap.size w' x (scV nm st cs b s t ks)) := by
  (refine callsV_of mix Try.func50 c_sScoreLeads ?_; simp only [↓vsd, vsn, gW, qd, qv, ev, pick, argE, zipE, ne_eq, eq_self, forall_const, implies_true, if_true, if_false, reduceIte, reduceCtorEq, Nat.reduceEqDiff, Nat.reduceAdd, Nat.reduceLT, ↓us_sScoreLeads, r_sScoreLeads])
  refine m_al ?_
  rintro b1 w1 hb1 hblk1 hx1 hs1
  have h1 : Blk w1 b1 (fM nm st v) 41 := hblk1
  simp only [↓vsd, vsn, gW, qd, qv, ev, pick, argE, zipE, ne_eq, eq_self, forall_const, implies_true, if_true, if_false, reduceIte, reduceCtorEq, Nat.reduceEqDiff, Nat.reduceAdd, Nat.reduceLT, ↓us_sScoreLeads, r_sScoreLeads, h1.facts, fMg]
  refine m_al ?_
  rintro b2 w2 hb2 hblk2 hx2 hs2
  have h2 : Blk w2 b2 (fQ b s) 32 := hblk2
  have h12 := h1.ext hx2
  have hx12 := hx1.trans hx2
  simp only [↓vsd, vsn, gW, qd, qv, ev, pick, argE, zipE, ne_eq, eq_self, forall_const, implies_true, if_true, if_false, reduceIte, reduceCtorEq, Nat.reduceEqDiff, Nat.reduceAdd, Nat.reduceLT, ↓us_sScoreLeads, r_sScoreLeads, h12.facts, h2.facts, fMg, fQg]
  refine m_call (sl9Asked_ok nm st v cs b s t hnm hs hl hb ht _ (by first | exact h.ext hx12 | exact h.ext (dr hx12))) ?_
  rintro _ w3 hx3 rfl
  have hx3 : Ext w2 w3 := by first | exact hx3 | exact ud hx3 | exact ud (ud hx3)
  have hx13 := hx12.trans hx3
  have h13 := h12.ext hx3
  have h23 := h2.ext hx3
  by_cases hM : IsMC nm st cs b s ∧ IsTch t
  · obtain ⟨n, rfl⟩ : ∃ n : Nat, st = n := ⟨st.toNat, by have := hM.1.1.2.1; omega⟩
    have hcl := hM.1.1.2.2.1
    have ht60 := hM.2.1
    have hD := decide_eq_true hM
    simp only [↓vsd, vsn, gW, qd, qv, ev, pick, argE, zipE, ne_eq, eq_self, forall_const, implies_true, if_true, if_false, reduceIte, reduceCtorEq, Nat.reduceEqDiff, Nat.reduceAdd, Nat.reduceLT, ↓us_sScoreLeads, r_sScoreLeads, hD, h13.facts, h23.facts, fMg, fQg]
    refine m_call (sl16Liked_ok u ks hp hks _ (by first | exact h'.ext hx13 | exact h'.ext (dr hx13))) ?_
    rintro _ w4 hx4 rfl
    have hx4 : Ext w3 w4 := by first | exact hx4 | exact ud hx4 | exact ud (ud hx4)
    have hx14 := hx13.trans hx4
    have h14 := h13.ext hx4
    have h24 := h23.ext hx4
    by_cases hK : GoodKs ks
    · have hok : ScOk nm n cs b s t ks := ⟨hM, hK⟩
      have hKD := decide_eq_true hK
      simp only [↓vsd, vsn, gW, qd, qv, ev, pick, argE, zipE, ne_eq, eq_self, forall_const, implies_true, if_true, if_false, reduceIte, reduceCtorEq, Nat.reduceEqDiff, Nat.reduceAdd, Nat.reduceLT, ↓us_sScoreLeads, r_sScoreLeads, hKD]
      simp only [↓vsd, vsn, gW, qd, qv, ev, pick, argE, zipE, ne_eq, eq_self, forall_const, implies_true, if_true, if_false, reduceIte, reduceCtorEq, Nat.reduceEqDiff, Nat.reduceAdd, Nat.reduceLT, ↓us_sScoreLeads, r_sScoreLeads, h14.facts, h24.facts, fMg, fQg]
      refine m_call (sl9Heads_ok nm n v cs b s t hM.1 hM.2.1.2 _ (by first | exact h.ext hx14 | exact h.ext (dr hx14))) ?_
      rintro x w55 hx55 ho5
      have hx55 : Ext w4 w55 := by first | exact hx55 | exact ud hx55 | exact ud (ud hx55)
      have ho5 := ho5.mono (B' := w4.heap.size) (Nat.le_refl _)
      obtain ⟨hd, hoh, _⟩ := ho5.head .i64 t.length (by rw [headsP_len]; omega)
      rw [headsP_take] at hoh
      have hrs := headsP_rows hM.1 t t.length
      have hhl := headsP_len n cs b s t t.length
      simp only [↓vsd, vsn, gW, qd, qv, ev, pick, argE, zipE, ne_eq, eq_self, forall_const, implies_true, if_true, if_false, reduceIte, reduceCtorEq, Nat.reduceEqDiff, Nat.reduceAdd, Nat.reduceLT, ↓us_sScoreLeads, r_sScoreLeads, hd, hoh.sq.facts]
      generalize hhd : headsP n cs b s t t.length = hs' at *
      refine m_upto hs'.length (fun i vs w' => ∃ x', vs = [x', .int .i64 i] ∧ Own fI 1 3 w4.heap.size w' x' (scoresL ks cs (hs'.take i)) ∧ Ext w4 w' ∧ Own fS 1 9 w4.heap.size w' _ hs' ∧ ∀ c, x'.ownBlock = some c → Away (sslV 1 x none (some (.int .i64 t.length))) c) ⟨_, rfl, (Own.nil fI_len).to rfl, hx55, hoh, fun c hc => by cases hc⟩ ?_
      rintro i vs w6 hi ⟨x, rfl, ho6, hx6, hy6, haw⟩
      have h16 := h14.ext hx6
      have hx16 := hx14.trans hx6
      have hq6 := hy6.sq
      by_cases hlt : i < hs'.length
      · have hltI : (i : Int) < hs'.length := by omega
        have hltJ : ¬ (hs'.length : Int) ≤ i := by omega
        simp only [↓vsd, vsn, gW, qd, qv, ev, pick, argE, zipE, ne_eq, eq_self, forall_const, implies_true, if_true, if_false, reduceIte, reduceCtorEq, Nat.reduceEqDiff, Nat.reduceAdd, Nat.reduceLT, ↓us_sScoreLeads, r_sScoreLeads, hltI, hltJ, hq6.facts, hq6.at1 [] hlt, h16.facts, fMg]
        refine ⟨by omega, m_call (sl11Lead_ok nm n v cs _ hM.1.1 (hrs _ (getD_mem [] hlt)) _ (by first | exact h.ext hx16 | exact h.ext (dr hx16))) ?_⟩
        rintro y w7 hx7 ho7
        have hx7 : Ext w6 w7 := by first | exact hx7 | exact ud hx7 | exact ud (ud hx7)
        have hx17 := hx16.trans hx7
        simp only [↓vsd, vsn, gW, qd, qv, ev, pick, argE, zipE, ne_eq, eq_self, forall_const, implies_true, if_true, if_false, reduceIte, reduceCtorEq, Nat.reduceEqDiff, Nat.reduceAdd, Nat.reduceLT, ↓us_sScoreLeads, r_sScoreLeads]
        refine m_call (sl16Score_ok u y ks _ hK (by rw [rowsU_len]; omega) _ (h'.ext hx17) ho7.sq) ?_
        rintro _ w8 hx8 rfl
        have hx8 : Ext w7 w8 := by first | exact hx8 | exact ud hx8 | exact ud (ud hx8)
        simp only [↓vsd, vsn, gW, qd, qv, ev, pick, argE, zipE, ne_eq, eq_self, forall_const, implies_true, if_true, if_false, reduceIte, reduceCtorEq, Nat.reduceEqDiff, Nat.reduceAdd, Nat.reduceLT, ↓us_sScoreLeads, r_sScoreLeads]
        refine m_bsl (one_el rfl) ?_
        rintro b9 w9 hb9 hblk9 hx9 hs9
        have hx9 : Ext w8 w9 := by first | exact hx9 | exact ud hx9 | exact ud (ud hx9)
        simp only [↓vsd, vsn, gW, qd, qv, ev, pick, argE, zipE, ne_eq, eq_self, forall_const, implies_true, if_true, if_false, reduceIte, reduceCtorEq, Nat.reduceEqDiff, Nat.reduceAdd, Nat.reduceLT, ↓us_sScoreLeads, r_sScoreLeads]
        have hx79 := (hx7.trans hx8).trans hx9
        have hok6 := ho6.ext hx79
        have hyk := hy6.ext hx79
        refine m_app2 hok6 (Sq.one fI_len hblk9 rfl) fI_one (by decide) (by rw [scoresL_len, List.length_take]; simp; omega) (by decide) (hx6.trans hx79).size ?_
        rintro z wa hoa hga hna
        simp only [↓vsd, vsn, gW, qd, qv, ev, pick, argE, zipE, ne_eq, eq_self, forall_const, implies_true, if_true, if_false, reduceIte, reduceCtorEq, Nat.reduceEqDiff, Nat.reduceAdd, Nat.reduceLT, ↓us_sScoreLeads, r_sScoreLeads]
        exact ⟨inR_i64 (by omega), UpTo.next hlt ⟨z, rfl, hoa.to (scoresL_succ ks cs hs' i hlt).symm, hok6.grown (hx6.trans hx79) (Nat.le_refl _) hga, hyk.off hga haw, fun c hc => by
          rcases hna c hc with h' | h'
          · exact haw c h'
          · exact hyk.away h'⟩⟩
      · obtain rfl : i = hs'.length := by omega
        have hltI : ¬ (hs'.length : Int) < hs'.length := by omega
        simp only [↓vsd, vsn, gW, qd, qv, ev, pick, argE, zipE, ne_eq, eq_self, forall_const, implies_true, if_true, if_false, reduceIte, reduceCtorEq, Nat.reduceEqDiff, Nat.reduceAdd, Nat.reduceLT, ↓us_sScoreLeads, r_sScoreLeads, hltI]
        rw [List.take_length] at ho6
        exact ⟨hx16, x, by rw [decide_eq_true hok], by rw [scV, if_pos hok, Int.toNat_natCast, hhd]; exact ho6.mono hx14.size⟩
    · have hno : ¬ ScOk nm n cs b s t ks := fun hh => hK hh.2
      have hKD := decide_eq_false hK
      simp only [↓vsd, vsn, gW, qd, qv, ev, pick, argE, zipE, ne_eq, eq_self, forall_const, implies_true, if_true, if_false, reduceIte, reduceCtorEq, Nat.reduceEqDiff, Nat.reduceAdd, Nat.reduceLT, ↓us_sScoreLeads, r_sScoreLeads, hKD]
      exact ⟨hx14, _, by rw [decide_eq_false hno], by rw [scV, if_neg hno]; exact Own.nil fI_len⟩
  · have hno : ¬ ScOk nm st cs b s t ks := fun hh => hM hh.1
    have hD := decide_eq_false hM
    simp only [↓vsd, vsn, gW, qd, qv, ev, pick, argE, zipE, ne_eq, eq_self, forall_const, implies_true, if_true, if_false, reduceIte, reduceCtorEq, Nat.reduceEqDiff, Nat.reduceAdd, Nat.reduceLT, ↓us_sScoreLeads, r_sScoreLeads, hD]
    exact ⟨hx13, _, by rw [decide_eq_false hno], by rw [scV, if_neg hno]; exact Own.nil fI_len⟩
end
end Go.Proofs.Ytpnopboffalfnaa
