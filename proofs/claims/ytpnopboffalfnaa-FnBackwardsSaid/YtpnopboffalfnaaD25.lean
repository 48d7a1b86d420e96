/-
  The call of the law FnBackwards.
  Conditions: none.
-/
import Derived.Test.YtpnopboffalfnaaD23
import Derived.Test.YtpnopboffalfnaaA33
import Derived.Test.YtpnopboffalfnaaA38
set_option linter.unusedSimpArgs false
set_option linter.unusedVariables false
set_option linter.defProp false
namespace Go.Proofs.Ytpnopboffalfnaa
open Go Go.RowKit
section
variable (P : Program) (k : KT) (e : Env) (w : World)
abbrev b4_1 : X := (.cond (.t 23) (.seq (.reg [4] (.c (.q 4 [] (.mv (.c (.bool true)))) .nil)) .ret) .skip)
def t4_1 := b4_1
theorem u4_1 : vcK P t4_1 k e w = vcK P b4_1 k e w := rfl
abbrev b4_2 : X := (.cond (.t 51) (.seq (.reg [4] (.c (.q 4 [] (.mv (.c (.bool false)))) .nil)) .ret) .skip)
def t4_2 := b4_2
theorem u4_2 : vcK P t4_2 k e w = vcK P b4_2 k e w := rfl
abbrev b4_3 : X := (.cond (.t 66) (.seq (.reg [4] (.c (.q 4 [] (.mv (.c (.bool true)))) .nil)) .ret) .skip)
def t4_3 := b4_3
theorem u4_3 : vcK P t4_3 k e w = vcK P b4_3 k e w := rfl
abbrev b4_4 : X := (.seq (.reg [4] (.c (.q 79 [] (.mv (.t 15))) (.c (.q 80 [] (.mv (.t 79))) (.c (.q 81 [(80, true)] (.mv (.t 17))) (.c (.q 82 [] (.pick (.t 80) (.t 81) (.c (.bool false)))) (.c (.q 83 [] (.mv (.t 82))) (.c (.q 84 [(83, true)] (.mv (.t 16))) (.c (.q 85 [(83, true)] (.mv (.t 8))) (.c (.q 86 [(83, true)] (.beq false (.t 84) (.t 85))) (.c (.q 87 [] (.pick (.t 83) (.t 86) (.c (.bool false)))) (.c (.q 4 [] (.mv (.t 87))) .nil))))))))))) .ret)
def t4_4 := b4_4
theorem u4_4 : vcK P t4_4 k e w = vcK P b4_4 k e w := rfl
abbrev b4_5 : X := (.seq (.reg [8, 15, 16, 17] (.c (.q 73 [] (.lda 3 (.t 5))) (.c (.q 74 [] (.lda 2 (.t 6))) (.c (.q 75 [] (.mv (.t 14))) (.c (.e (some 76) [] (.call false 27 [(.t 73), (.t 74), (.t 75)])) (.c (.q 72 [] (.mv (.t 76))) (.c (.q 77 [] (.ext 0 (.t 72))) (.c (.q 78 [] (.ext 1 (.t 72))) (.c (.q 16 [] (.mv (.t 77))) (.c (.q 17 [] (.mv (.t 78))) .nil)))))))))) t4_4)
def t4_5 := b4_5
theorem u4_5 : vcK P t4_5 k e w = vcK P b4_5 k e w := rfl
abbrev b4_6 : X := (.seq (.reg [5, 6, 8, 14, 15] (.c (.q 68 [] (.mv (.t 7))) (.c (.e (some 69) [] (.call false 30 [(.t 68)])) (.c (.q 67 [] (.mv (.t 69))) (.c (.q 70 [] (.ext 0 (.t 67))) (.c (.q 71 [] (.ext 1 (.t 67))) (.c (.q 14 [] (.mv (.t 70))) (.c (.q 15 [] (.mv (.t 71))) .nil)))))))) t4_5)
def t4_6 := b4_6
theorem u4_6 : vcK P t4_6 k e w = vcK P b4_6 k e w := rfl
abbrev b4_7 : X := (.seq (.seq (.reg [5, 6, 7, 8, 66] (.c (.q 57 [] (.mv (.t 9))) (.c (.q 58 [] (.not (.t 57))) (.c (.q 59 [] (.mv (.t 58))) (.c (.q 60 [(59, false)] (.mv (.t 13))) (.c (.q 61 [(59, false)] (.not (.t 60))) (.c (.q 62 [] (.pick (.t 59) (.c (.bool true)) (.t 61))) (.c (.q 63 [] (.mv (.t 62))) (.c (.q 64 [(63, false)] (.mv (.t 12))) (.c (.q 65 [(63, false)] (.not (.t 64))) (.c (.q 66 [] (.pick (.t 63) (.c (.bool true)) (.t 65))) .nil))))))))))) t4_3) t4_6)
def t4_7 := b4_7
theorem u4_7 : vcK P t4_7 k e w = vcK P b4_7 k e w := rfl
abbrev b4_8 : X := (.seq (.reg [5, 6, 7, 8, 9, 12, 13] (.c (.q 53 [] (.lda 3 (.t 5))) (.c (.e (some 54) [] (.call false 29 [(.t 53)])) (.c (.q 52 [] (.mv (.t 54))) (.c (.q 55 [] (.ext 0 (.t 52))) (.c (.q 56 [] (.ext 1 (.t 52))) (.c (.q 12 [] (.mv (.t 55))) (.c (.q 13 [] (.mv (.t 56))) .nil)))))))) t4_7)
def t4_8 := b4_8
theorem u4_8 : vcK P t4_8 k e w = vcK P b4_8 k e w := rfl
abbrev b4_9 : X := (.seq (.seq (.reg [5, 6, 7, 8, 9, 51] (.c (.q 44 [] (.mv (.t 9))) (.c (.q 45 [] (.mv (.t 11))) (.c (.q 46 [] (.beq true (.t 44) (.t 45))) (.c (.q 47 [] (.mv (.t 46))) (.c (.q 48 [(47, false)] (.mv (.t 8))) (.c (.q 49 [(47, false)] (.mv (.t 10))) (.c (.q 50 [(47, false)] (.beq true (.t 48) (.t 49))) (.c (.q 51 [] (.pick (.t 47) (.c (.bool true)) (.t 50))) .nil))))))))) t4_2) t4_8)
def t4_9 := b4_9
theorem u4_9 : vcK P t4_9 k e w = vcK P b4_9 k e w := rfl
abbrev b4_10 : X := (.seq (.reg [5, 6, 7, 8, 9, 10, 11] (.c (.q 38 [] (.lda 3 (.t 5))) (.c (.q 39 [] (.lda 2 (.t 6))) (.c (.q 40 [] (.mv (.t 7))) (.c (.e (some 41) [] (.call false 28 [(.t 38), (.t 39), (.t 40)])) (.c (.q 37 [] (.mv (.t 41))) (.c (.q 42 [] (.ext 0 (.t 37))) (.c (.q 43 [] (.ext 1 (.t 37))) (.c (.q 10 [] (.mv (.t 42))) (.c (.q 11 [] (.mv (.t 43))) .nil)))))))))) t4_9)
def t4_10 := b4_10
theorem u4_10 : vcK P t4_10 k e w = vcK P b4_10 k e w := rfl
abbrev b4_11 : X := (.seq (.reg [5, 6, 7, 8, 9] (.c (.q 31 [] (.lda 3 (.t 5))) (.c (.q 32 [] (.lda 2 (.t 6))) (.c (.q 33 [] (.mv (.t 7))) (.c (.e (some 34) [] (.call false 27 [(.t 31), (.t 32), (.t 33)])) (.c (.q 30 [] (.mv (.t 34))) (.c (.q 35 [] (.ext 0 (.t 30))) (.c (.q 36 [] (.ext 1 (.t 30))) (.c (.q 8 [] (.mv (.t 35))) (.c (.q 9 [] (.mv (.t 36))) .nil)))))))))) t4_10)
def t4_11 := b4_11
theorem u4_11 : vcK P t4_11 k e w = vcK P b4_11 k e w := rfl
abbrev b4_12 : X := (.seq (.reg [5, 6, 7] (.c (.q 25 [] (.mv (.t 0))) (.c (.e (some 26) [] (.call false 26 [(.t 25)])) (.c (.q 24 [] (.mv (.t 26))) (.c (.q 27 [] (.ext 0 (.t 24))) (.c (.q 28 [] (.ext 1 (.t 24))) (.c (.q 29 [] (.ext 2 (.t 24))) (.c (.e (some 5) [] (.al 41 [(S []), (.int .i64 0), (.slice none 0 0)])) (.c (.e (some 6) [] (.al 32 [(S []), (S [])])) (.c (.e none [] (.st 3 (.t 5) (.t 27))) (.c (.e none [] (.st 2 (.t 6) (.t 28))) (.c (.q 7 [] (.mv (.t 29))) .nil)))))))))))) t4_11)
def t4_12 := b4_12
theorem u4_12 : vcK P t4_12 k e w = vcK P b4_12 k e w := rfl
abbrev b4_13 : X := (.seq (.seq (.reg [0, 23] (.c (.q 18 [] (.mv (.t 0))) (.c (.q 19 [] (.lens (.t 18))) (.c (.q 20 [] (.mv (.t 1))) (.c (.q 21 [] (.lens (.t 20))) (.c (.q 22 [] (.bin .add (.t 19) (.t 21))) (.c (.q 23 [] (.bin .gtr (.t 22) (.c (.int .i64 1048576)))) .nil))))))) t4_1) t4_12)
def t4_13 := b4_13
theorem u4_13 : vcK P t4_13 k e w = vcK P b4_13 k e w := rfl
abbrev b4_0 : X := (.seq (.reg [0, 1] (.c (.q 4 [] (.mv (.c (.bool false)))) .nil)) t4_13)
def x_lFnBackwards := b4_0
theorem u4_0 : vcK P x_lFnBackwards k e w = vcK P b4_0 k e w := rfl
def r_lFnBackwards : List XO := [(.mv (.t 4))]
theorem c_lFnBackwards : convF Try.prog [169, 170, 207, 208, 210, 227, 232, 233, 255, 259, 268, 269, 270, 280, 281, 296, 299, 306, 307, 309] Try.f4 [([0, 1], []), ([0, 23], []), ([4], []), ([5, 6, 7], []), ([5, 6, 7, 8, 9], []), ([5, 6, 7, 8, 9, 10, 11], []), ([5, 6, 7, 8, 9, 51], []), ([4], []), ([5, 6, 7, 8, 9, 12, 13], []), ([5, 6, 7, 8, 66], []), ([4], []), ([5, 6, 8, 14, 15], []), ([8, 15, 16, 17], []), ([4], [])] = some (x_lFnBackwards, r_lFnBackwards) := by kernel_rfl
def us_lFnBackwards := aI @u4_0 (aI @u4_1 (aI @u4_2 (aI @u4_3 (aI @u4_4 (aI @u4_5 (aI @u4_6 (aI @u4_7 (aI @u4_8 (aI @u4_9 (aI @u4_10 (aI @u4_11 (aI @u4_12 @u4_13))))))))))))
end

def rndB (nm : List UInt8) (st : Int) (cs : List (List UInt8)) (b s t : List UInt8) : Bool := decide (IsMT nm st cs b s t ∧ headP st.toNat cs b s t t.length = roundsL st.toNat)
theorem rndB_eq (nm : List UInt8) (st : Int) (cs : List (List UInt8)) (b s t : List UInt8) : rndV nm st cs b s t = .tuple ⟨[.bool (rndB nm st cs b s t), .bool (decide (IsMT nm st cs b s t))]⟩ := by
  unfold rndV rndB
  split <;> simp [*]
theorem headP_all (st : Nat) (cs : List (List UInt8)) (b s t : List UInt8) : headP st cs b s t t.length = prodL (HD st cs b s) st t := by rw [headP, List.take_length]
theorem pal_rev {l : List (List UInt8)} (h : IsPal l) : l.reverse = l := by
  refine ext_getD (d := []) (by rw [List.length_reverse]) fun i hi => ?_
  rw [List.length_reverse] at hi
  rw [rev_get l i hi]
  exact (h i hi).symm
/-- A touch of a palindromic method comes round if its reversal does. -/
theorem back_round {nm : List UInt8} {st : Nat} {cs : List (List UInt8)} {b s t : List UInt8} (hM : IsMT nm st cs b s t) (hp : IsPal (cs.take (cs.length - 1))) (h : headP st cs b s t t.length = roundsL st) : headP st cs b s (backL t) (backL t).length = roundsL st := by
  have h8 : 3 ≤ st ∧ st ≤ 8 := by have := hM.1.1.2.1; omega
  have hch : ∀ c ∈ cs.take (cs.length - 1), IsChange st c := fun c hc => hM.1.1.2.2.2 c (List.mem_of_mem_take hc)
  have hP := under_row h8 (cs.take (cs.length - 1))
  have hPP := under_rev h8 (cs.take (cs.length - 1)) hch
  rw [pal_rev hp] at hPP
  have hHD : HD st cs b s = fun c => timesL (underL (roundsL st) (cs.take (cs.length - 1))) (chgL st (chgOf cs b s [c])) := by
    funext c
    rw [HD, headC_eq, applyL, hP.2]
  rw [headP_all, hHD] at h ⊢
  have hr := prodL_pal h8 hP (X := fun c => chgL st (chgOf cs b s [c])) (fun c => ⟨chgL_row st _ h8, chgL_len st _⟩) hPP (fun c => (chg_inv (hM.1.chg [c])).1) t h
  obtain ⟨z, hz, ht⟩ := drop_one hM.2.1.1
  have e : t.reverse = [z] ++ (t.take (t.length - 1)).reverse := by
    conv => lhs; rw [ht]
    rw [List.reverse_append]; rfl
  rw [e, prodL_turn h8 (fun c => ⟨timesL_row hP.1 (chgL_row st _ h8) (by rw [hP.2, chgL_len]), by rw [timesL_len, chgL_len]⟩)] at hr
  rw [backL, hz]
  exact hr
set_option maxHeartbeats 4000000 in
theorem lFnBackwards_ok (v u : Value) (code more : List UInt8) (hcl : code.length ≤ 140737488355328) (hml : more.length ≤ 140737488355328) (w : World) (h : Sq fU 1 w v code) (h' : Sq fU 1 w u more) : Fn 4 [v, u] w (fun r _ => r = .bool true) := by
  (refine callsV_of mix Try.func4 c_lFnBackwards ?_; simp only [↓vsd, vsn, gW, qd, qv, ev, pick, argE, zipE, ne_eq, eq_self, forall_const, implies_true, if_true, if_false, reduceIte, reduceCtorEq, Nat.reduceEqDiff, Nat.reduceAdd, Nat.reduceLT, ↓us_lFnBackwards, r_lFnBackwards])
  simp only [↓vsd, vsn, gW, qd, qv, ev, pick, argE, zipE, ne_eq, eq_self, forall_const, implies_true, if_true, if_false, reduceIte, reduceCtorEq, Nat.reduceEqDiff, Nat.reduceAdd, Nat.reduceLT, ↓us_lFnBackwards, r_lFnBackwards, h.facts, h'.facts]
  refine ⟨inR_i64 (by omega), fun _ => Ext.refl _, fun hsm => ?_⟩
  have hlen : code.length ≤ 1048576 ∧ more.length ≤ 1048576 := by omega
  refine m_call (sDrawIsRound_ok v code hlen.1 _ h) ?_
  rintro _ w1 hx1 ⟨nm, st, x, cs, b, s, t, rfl, ho1, hnm, hst, hcs, hc8, hbs, ht⟩
  simp only [↓vsd, vsn, gW, qd, qv, ev, pick, argE, zipE, ne_eq, eq_self, forall_const, implies_true, if_true, if_false, reduceIte, reduceCtorEq, Nat.reduceEqDiff, Nat.reduceAdd, Nat.reduceLT, ↓us_lFnBackwards, r_lFnBackwards]
  refine m_al ?_
  rintro bm w2 hbm hblk2 hx2 hs2
  simp only [↓vsd, vsn, gW, qd, qv, ev, pick, argE, zipE, ne_eq, eq_self, forall_const, implies_true, if_true, if_false, reduceIte, reduceCtorEq, Nat.reduceEqDiff, Nat.reduceAdd, Nat.reduceLT, ↓us_lFnBackwards, r_lFnBackwards]
  refine m_al ?_
  rintro bk w3 hbk hblk3 hx3 hs3
  simp only [↓vsd, vsn, gW, qd, qv, ev, pick, argE, zipE, ne_eq, eq_self, forall_const, implies_true, if_true, if_false, reduceIte, reduceCtorEq, Nat.reduceEqDiff, Nat.reduceAdd, Nat.reduceLT, ↓us_lFnBackwards, r_lFnBackwards]
  refine m_st (Blk.ext hblk2 hx3) rfl (Nat.le_refl 3) (fM_one nm st x ho1.sq.one') ?_
  rintro w4 hblk4 hu4
  have hm4 : Blk w4 bm (fM nm st x) 41 := hblk4
  simp only [↓vsd, vsn, gW, qd, qv, ev, pick, argE, zipE, ne_eq, eq_self, forall_const, implies_true, if_true, if_false, reduceIte, reduceCtorEq, Nat.reduceEqDiff, Nat.reduceAdd, Nat.reduceLT, ↓us_lFnBackwards, r_lFnBackwards]
  refine m_st (hu4.blk hblk3 (by omega)) rfl (Nat.le_refl 2) (fQ_one b s) ?_
  rintro w5 hblk5 hu5
  have hk5 : Blk w5 bk (fQ b s) 32 := hblk5
  have hm5 := hu5.blk hm4 (by omega)
  have ho5 := (((ho1.ext hx2).ext hx3).upd hu4 (ho1.away (by omega))).upd hu5 (ho1.away (by omega))
  have hx5 : Ext w w5 := hu5.below (hu4.below ((hx1.trans hx2).trans hx3) (by have := hx1.size; omega)) (by have := hx1.size; omega)
  have hnm' : nm.length ≤ 1048576 := by omega
  have hc8' : ∀ c ∈ cs, c.length ≤ 1048576 := fun c hc => by have := hc8 c hc; omega
  have hcs' : cs.length ≤ 1000000000 := by omega
  have hbs' : b.length ≤ 1048576 ∧ s.length ≤ 1048576 := by omega
  have ht' : t.length ≤ 1000000000 := by omega
  simp only [↓vsd, vsn, gW, qd, qv, ev, pick, argE, zipE, ne_eq, eq_self, forall_const, implies_true, if_true, if_false, reduceIte, reduceCtorEq, Nat.reduceEqDiff, Nat.reduceAdd, Nat.reduceLT, ↓us_lFnBackwards, r_lFnBackwards, hm5.facts, hk5.facts, fMg, fQg]
  refine m_call (iIsRound_ok nm st x cs b s t hnm' hc8' hcs' hbs' ht' _ ho5.sq) ?_
  rintro re w6 hx6 hre
  rw [rndB_eq] at hre
  subst hre
  have hm6 := hm5.ext hx6
  have hk6 := hk5.ext hx6
  have ho6 := ho5.ext hx6
  simp only [↓vsd, vsn, gW, qd, qv, ev, pick, argE, zipE, ne_eq, eq_self, forall_const, implies_true, if_true, if_false, reduceIte, reduceCtorEq, Nat.reduceEqDiff, Nat.reduceAdd, Nat.reduceLT, ↓us_lFnBackwards, r_lFnBackwards, hm6.facts, hk6.facts, fMg, fQg]
  refine m_call (sIsRound_ok nm st x cs b s t hnm' hc8' hcs' hbs' ht' _ ho6.sq) ?_
  rintro re w7 hx7 hre
  rw [rndB_eq] at hre
  subst hre
  have hm7 := hm6.ext hx7
  have hk7 := hk6.ext hx7
  have ho7 := ho6.ext hx7
  simp only [↓vsd, vsn, gW, qd, qv, ev, pick, argE, zipE, ne_eq, eq_self, forall_const, implies_true, if_true, if_false, reduceIte, reduceCtorEq, Nat.reduceEqDiff, Nat.reduceAdd, Nat.reduceLT, ↓us_lFnBackwards, r_lFnBackwards, hm7.facts, hk7.facts, fMg, fQg]
  refine m_call (sIsPalindrome_ok nm st x cs hnm' hc8' hcs' _ ho7.sq) ?_
  rintro _ w8 hx8 rfl
  have hm8 := hm7.ext hx8
  have hk8 := hk7.ext hx8
  have ho8 := ho7.ext hx8
  have hx58 : Ext w w8 := ((hx5.trans hx6).trans hx7).trans hx8
  by_cases hM : IsMT nm st cs b s t
  · have hMd := decide_eq_true hM
    have hmm := decide_eq_true hM.1.1
    by_cases hp : IsPal (cs.take (cs.length - 1))
    · have hpd : decide (IsMethod nm st cs ∧ IsPal (cs.take (cs.length - 1))) = true := decide_eq_true ⟨hM.1.1, hp⟩
      obtain ⟨n, rfl⟩ : ∃ n : Nat, st = n := ⟨st.toNat, by omega⟩
      simp only [↓vsd, vsn, gW, qd, qv, ev, pick, argE, zipE, ne_eq, eq_self, forall_const, implies_true, if_true, if_false, reduceIte, reduceCtorEq, Nat.reduceEqDiff, Nat.reduceAdd, Nat.reduceLT, ↓us_lFnBackwards, r_lFnBackwards, hMd, hmm, hpd]
      refine m_call (iReverseTouch_ok t (by omega) _) ?_
      rintro re w9 hx9 hre
      rw [revV, if_pos hM.2] at hre
      subst hre
      have hm9 := hm8.ext hx9
      have hk9 := hk8.ext hx9
      have hM2 : IsMT nm n cs b s (backL t) := ⟨hM.1, tch_back hM.2⟩
      simp only [↓vsd, vsn, gW, qd, qv, ev, pick, argE, zipE, ne_eq, eq_self, forall_const, implies_true, if_true, if_false, reduceIte, reduceCtorEq, Nat.reduceEqDiff, Nat.reduceAdd, Nat.reduceLT, ↓us_lFnBackwards, r_lFnBackwards, hm9.facts, hk9.facts, fMg, fQg]
      refine m_call (iIsRound_ok nm n x cs b s (backL t) hnm' hc8' hcs' hbs' (by rw [backL_len]; exact ht') _ (ho8.ext hx9).sq) ?_
      rintro re w10 hx10 hre
      rw [rndB_eq] at hre
      subst hre
      have hM2d := decide_eq_true hM2
      have hiff : rndB nm n cs b s (backL t) = rndB nm n cs b s t := by
        unfold rndB
        simp only [Int.toNat_natCast]
        refine decide_eq_decide.2 ⟨fun hh => ⟨hM, ?_⟩, fun hh => ⟨hM2, back_round hM hp hh.2⟩⟩
        have := back_round hM2 hp hh.2
        rwa [back_back hM.2.1.1] at this
      simp only [↓vsd, vsn, gW, qd, qv, ev, pick, argE, zipE, ne_eq, eq_self, forall_const, implies_true, if_true, if_false, reduceIte, reduceCtorEq, Nat.reduceEqDiff, Nat.reduceAdd, Nat.reduceLT, ↓us_lFnBackwards, r_lFnBackwards, hM2d, hiff]
      exact (hx58.trans hx9).trans hx10
    · have hpd : decide (IsMethod nm st cs ∧ IsPal (cs.take (cs.length - 1))) = false := decide_eq_false (fun hh => hp hh.2)
      simp only [↓vsd, vsn, gW, qd, qv, ev, pick, argE, zipE, ne_eq, eq_self, forall_const, implies_true, if_true, if_false, reduceIte, reduceCtorEq, Nat.reduceEqDiff, Nat.reduceAdd, Nat.reduceLT, ↓us_lFnBackwards, r_lFnBackwards, hMd, hmm, hpd]
      exact hx58
  · have hMd := decide_eq_false hM
    simp only [↓vsd, vsn, gW, qd, qv, ev, pick, argE, zipE, ne_eq, eq_self, forall_const, implies_true, if_true, if_false, reduceIte, reduceCtorEq, Nat.reduceEqDiff, Nat.reduceAdd, Nat.reduceLT, ↓us_lFnBackwards, r_lFnBackwards, hMd]
    exact hx58
end Go.Proofs.Ytpnopboffalfnaa
