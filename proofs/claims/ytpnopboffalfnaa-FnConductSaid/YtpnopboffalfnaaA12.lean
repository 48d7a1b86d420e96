/-
  Regular methods; the calls of the laws FnExactIsRegular and FnExactTurnOf.
  Conditions: none.
-/
import Derived.Test.YtpnopboffalfnaaA11
set_option linter.unusedSimpArgs false
set_option linter.unusedVariables false
set_option linter.defProp false
namespace Go.Proofs.Ytpnopboffalfnaa
open Go Go.RowKit
section
variable (P : Program) (k : KT) (e : Env) (w : World)
abbrev b260_1 : X := (.seq (.reg [2] (.c (.q 3 [] (.lda 3 (.t 1))) (.c (.e (some 4) [] (.call false 113 [(.t 3)])) (.c (.q 5 [] (.mv (.t 4))) (.c (.q 6 [(5, true)] (.fa 1 (.t 1))) (.c (.q 7 [(5, true)] (.ld (.t 6))) (.c (.q 8 [(5, true)] (.bin .geq (.t 7) (.c (.int .i64 4)))) (.c (.q 9 [] (.pick (.t 5) (.t 8) (.c (.bool false)))) (.c (.q 2 [] (.mv (.t 9))) .nil))))))))) .ret)
def t260_1 := b260_1
theorem u260_1 : vcK P t260_1 k e w = vcK P b260_1 k e w := rfl
abbrev b260_0 : X := (.seq (.reg [1] (.c (.e (some 1) [] (.box 41 (.t 0))) (.c (.q 2 [] (.mv (.c (.bool false)))) .nil))) t260_1)
def x_iisLarge := b260_0
theorem u260_0 : vcK P x_iisLarge k e w = vcK P b260_0 k e w := rfl
def r_iisLarge : List XO := [(.mv (.t 2))]
theorem c_iisLarge : convF Try.prog [169, 170, 207, 208, 210, 227, 232, 233, 255, 259, 268, 269, 270, 280, 281, 296, 299, 306, 307, 309] Try.f260 [([1], []), ([2], [])] = some (x_iisLarge, r_iisLarge) := by kernel_rfl
def us_iisLarge := aI @u260_0 @u260_1
abbrev b263_1 : X := (.seq (.reg [2] (.c (.q 3 [] (.lda 3 (.t 1))) (.c (.e (some 4) [] (.call false 166 [(.t 3)])) (.c (.q 5 [] (.mv (.t 4))) (.c (.q 6 [(5, true)] (.fa 1 (.t 1))) (.c (.q 7 [(5, true)] (.ld (.t 6))) (.c (.q 8 [(5, true)] (.bin .geq (.t 7) (.c (.int .i64 4)))) (.c (.q 9 [] (.pick (.t 5) (.t 8) (.c (.bool false)))) (.c (.q 2 [] (.mv (.t 9))) .nil))))))))) .ret)
def t263_1 := b263_1
theorem u263_1 : vcK P t263_1 k e w = vcK P b263_1 k e w := rfl
abbrev b263_0 : X := (.seq (.reg [1] (.c (.e (some 1) [] (.box 41 (.t 0))) (.c (.q 2 [] (.mv (.c (.bool false)))) .nil))) t263_1)
def x_sl15Good := b263_0
theorem u263_0 : vcK P x_sl15Good k e w = vcK P b263_0 k e w := rfl
def r_sl15Good : List XO := [(.mv (.t 2))]
theorem c_sl15Good : convF Try.prog [169, 170, 207, 208, 210, 227, 232, 233, 255, 259, 268, 269, 270, 280, 281, 296, 299, 306, 307, 309] Try.f263 [([1], []), ([2], [])] = some (x_sl15Good, r_sl15Good) := by kernel_rfl
def us_sl15Good := aI @u263_0 @u263_1
abbrev b319_1 : X := (.cond (.t 15) .skip (.exit 0))
def t319_1 := b319_1
theorem u319_1 : vcK P t319_1 k e w = vcK P b319_1 k e w := rfl
abbrev b319_2 : X := (.cond (.t 32) (.seq (.reg [2] (.c (.q 33 [] (.mv (.t 5))) (.c (.q 2 [] (.mv (.t 33))) .nil))) .ret) .skip)
def t319_2 := b319_2
theorem u319_2 : vcK P t319_2 k e w = vcK P b319_2 k e w := rfl
abbrev b319_3 : X := (.reg [3, 4, 5] (.c (.q 16 [] (.mv (.t 5))) (.c (.q 17 [] (.bin .add (.t 16) (.c (.int .i64 1)))) (.c (.q 5 [] (.mv (.t 17))) .nil))))
def t319_3 := b319_3
theorem u319_3 : vcK P t319_3 k e w = vcK P b319_3 k e w := rfl
abbrev b319_4 : X := (.seq (.blk 1 (.seq (.drw [3, 4, 5, 32] (.c (.q 18 [] (.mv (.t 3))) (.c (.q 19 [] (.idx (.t 18) (.c (.int .i64 0)))) (.c (.q 20 [] (.bin .eql (.t 19) (.c (.int .u8 49)))) (.c (.q 21 [] (.mv (.t 20))) (.c (.q 22 [(21, true)] (.mv (.t 3))) (.c (.q 24 [(21, true)] (.mv (.t 4))) (.c (.q 25 [(21, true)] (.mv (.t 5))) (.c (.q 26 [(21, true)] (.sub (.t 24) (some (.t 25)) none)) (.c (.q 27 [(21, true)] (.mv (.t 4))) (.c (.q 28 [(21, true)] (.mv (.t 5))) (.c (.q 29 [(21, true)] (.sub (.t 27) none (some (.t 28)))) (.c (.q 30 [(21, true)] (.bin .add (.t 26) (.t 29))) (.c (.e (some 23) [(21, true)] (.call false 264 [(.t 22)])) (.c (.q 31 [(21, true)] (.bin .eql (.t 23) (.t 30))) (.c (.q 32 [] (.pick (.t 21) (.t 31) (.c (.bool false)))) .nil)))))))))))))))) t319_2)) t319_3)
def t319_4 := b319_4
theorem u319_4 : vcK P t319_4 k e w = vcK P b319_4 k e w := rfl
abbrev b319_5 : X := (.seq (.seq (.reg [3, 4, 5, 15] (.c (.q 12 [] (.mv (.t 5))) (.c (.q 13 [] (.mv (.t 4))) (.c (.q 14 [] (.len (.t 13))) (.c (.q 15 [] (.bin .lss (.t 12) (.t 14))) .nil))))) t319_1) t319_4)
def t319_5 := b319_5
theorem u319_5 : vcK P t319_5 k e w = vcK P b319_5 k e w := rfl
abbrev b319_6 : X := (.blk 0 (.loop [5] [3, 4] t319_5))
def t319_6 := b319_6
theorem u319_6 : vcK P t319_6 k e w = vcK P b319_6 k e w := rfl
abbrev b319_7 : X := (.seq (.reg [2] (.c (.q 2 [] (.mv (.c (.int .i64 0)))) .nil)) .ret)
def t319_7 := b319_7
theorem u319_7 : vcK P t319_7 k e w = vcK P b319_7 k e w := rfl
abbrev b319_8 : X := (.seq (.seq (.reg [3, 4, 5] (.c (.q 5 [] (.mv (.c (.int .i64 1)))) .nil)) t319_6) t319_7)
def t319_8 := b319_8
theorem u319_8 : vcK P t319_8 k e w = vcK P b319_8 k e w := rfl
abbrev b319_9 : X := (.seq (.reg [3, 4] (.c (.q 8 [] (.fa 1 (.t 1))) (.c (.q 9 [] (.ld (.t 8))) (.c (.e (some 10) [] (.call false 165 [(.t 9)])) (.c (.e (some 11) [] (.call false 264 [(.t 10)])) (.c (.q 4 [] (.mv (.t 11))) .nil)))))) t319_8)
def t319_9 := b319_9
theorem u319_9 : vcK P t319_9 k e w = vcK P b319_9 k e w := rfl
abbrev b319_10 : X := (.seq (.reg [1, 3] (.c (.q 6 [] (.lda 3 (.t 1))) (.c (.e (some 7) [] (.call false 240 [(.t 6)])) (.c (.q 3 [] (.mv (.t 7))) .nil)))) t319_9)
def t319_10 := b319_10
theorem u319_10 : vcK P t319_10 k e w = vcK P b319_10 k e w := rfl
abbrev b319_0 : X := (.seq (.reg [1] (.c (.e (some 1) [] (.box 41 (.t 0))) (.c (.q 2 [] (.mv (.c (.int .i64 0)))) .nil))) t319_10)
def x_sl15Turn := b319_0
theorem u319_0 : vcK P x_sl15Turn k e w = vcK P b319_0 k e w := rfl
def r_sl15Turn : List XO := [(.mv (.t 2))]
theorem c_sl15Turn : convF Try.prog [169, 170, 207, 208, 210, 227, 232, 233, 255, 259, 268, 269, 270, 280, 281, 296, 299, 306, 307, 309] Try.f319 [([1], []), ([1, 3], []), ([3, 4], []), ([3, 4, 5], []), ([5], [3, 4]), ([3, 4, 5, 15], []), ([3, 4, 5, 32], []), ([2], []), ([3, 4, 5], []), ([2], [])] = some (x_sl15Turn, r_sl15Turn) := by kernel_rfl
def us_sl15Turn := aI @u319_0 (aI @u319_1 (aI @u319_2 (aI @u319_3 (aI @u319_4 (aI @u319_5 (aI @u319_6 (aI @u319_7 (aI @u319_8 (aI @u319_9 @u319_10)))))))))
end

/-- A valid method of stage 4 or more. -/
def IsLarge (nm : List UInt8) (st : Int) (cs : List (List UInt8)) : Prop := IsMethod nm st cs ∧ 4 ≤ st
instance (nm : List UInt8) (st : Int) (cs : List (List UInt8)) : Decidable (IsLarge nm st cs) := by unfold IsLarge; infer_instance
/-- The lead head turns the coursing order by n. -/
def TurnsBy (st : Nat) (h : List UInt8) (n : Nat) : Prop := h.getD 0 0 = 49 ∧ courseL h = (courseL (roundsL st)).drop n ++ (courseL (roundsL st)).take n
instance (st : Nat) (h : List UInt8) (n : Nat) : Decidable (TurnsBy st h n) := by unfold TurnsBy; infer_instance
/-- By how many bells, from n on; k: how many are left. -/
def turnGo (st : Nat) (h : List UInt8) : Nat → Nat → Nat
  | 0, _ => 0
  | k + 1, n => if TurnsBy st h n then n else turnGo st h k (n + 1)
def turnN (st : Nat) (h : List UInt8) : Nat := turnGo st h (st - 2) 1
theorem iisLarge_ok (nm : List UInt8) (st : Int) (v : Value) (cs : List (List UInt8)) (hnm : nm.length ≤ 1048576) (hs : ∀ c ∈ cs, c.length ≤ 1048576) (hl : cs.length ≤ 1000000000) (w : World) (h : Sq fS 1 w v cs) : Fn 260 [mV nm st v] w (fun r _ => r = .bool (decide (IsLarge nm st cs))) := by
  (refine callsV_of mix Try.func260 c_iisLarge ?_; simp only [↓vsd, vsn, gW, qd, qv, ev, pick, argE, zipE, ne_eq, eq_self, forall_const, implies_true, if_true, if_false, reduceIte, reduceCtorEq, Nat.reduceEqDiff, Nat.reduceAdd, Nat.reduceLT, ↓us_iisLarge, r_iisLarge])
  refine m_al ?_
  rintro b w1 hb hblk hx1 hs1
  have h1 : Blk w1 b (fM nm st v) 41 := hblk
  have hq1 := h.ext hx1
  simp only [↓vsd, vsn, gW, qd, qv, ev, pick, argE, zipE, ne_eq, eq_self, forall_const, implies_true, if_true, if_false, reduceIte, reduceCtorEq, Nat.reduceEqDiff, Nat.reduceAdd, Nat.reduceLT, ↓us_iisLarge, r_iisLarge, h1.facts, fMg]
  refine m_call (iGoodMethod_ok nm st v cs hnm hs hl _ hq1) ?_
  rintro _ w2 hx2 rfl
  have h2 := h1.ext hx2
  simp only [↓vsd, vsn, gW, qd, qv, ev, pick, argE, zipE, ne_eq, eq_self, forall_const, implies_true, if_true, if_false, reduceIte, reduceCtorEq, Nat.reduceEqDiff, Nat.reduceAdd, Nat.reduceLT, ↓us_iisLarge, r_iisLarge, h2.facts, fMg]
  refine ⟨hx1.trans hx2, ?_⟩
  simp only [← Bool.decide_and]
  rfl
theorem sl15Good_ok (nm : List UInt8) (st : Int) (v : Value) (cs : List (List UInt8)) (hnm : nm.length ≤ 1048576) (hs : ∀ c ∈ cs, c.length ≤ 1048576) (hl : cs.length ≤ 1000000000) (w : World) (h : Sq fS 1 w v cs) : Fn 263 [mV nm st v] w (fun r _ => r = .bool (decide (IsLarge nm st cs))) := by
  (refine callsV_of mix Try.func263 c_sl15Good ?_; simp only [↓vsd, vsn, gW, qd, qv, ev, pick, argE, zipE, ne_eq, eq_self, forall_const, implies_true, if_true, if_false, reduceIte, reduceCtorEq, Nat.reduceEqDiff, Nat.reduceAdd, Nat.reduceLT, ↓us_sl15Good, r_sl15Good])
  refine m_al ?_
  rintro b w1 hb hblk hx1 hs1
  have h1 : Blk w1 b (fM nm st v) 41 := hblk
  have hq1 := h.ext hx1
  simp only [↓vsd, vsn, gW, qd, qv, ev, pick, argE, zipE, ne_eq, eq_self, forall_const, implies_true, if_true, if_false, reduceIte, reduceCtorEq, Nat.reduceEqDiff, Nat.reduceAdd, Nat.reduceLT, ↓us_sl15Good, r_sl15Good, h1.facts, fMg]
  refine m_call (sl4Good_ok nm st v cs hnm hs hl _ hq1) ?_
  rintro _ w2 hx2 rfl
  have h2 := h1.ext hx2
  simp only [↓vsd, vsn, gW, qd, qv, ev, pick, argE, zipE, ne_eq, eq_self, forall_const, implies_true, if_true, if_false, reduceIte, reduceCtorEq, Nat.reduceEqDiff, Nat.reduceAdd, Nat.reduceLT, ↓us_sl15Good, r_sl15Good, h2.facts, fMg]
  refine ⟨hx1.trans hx2, ?_⟩
  simp only [← Bool.decide_and]
  rfl
theorem sl15Turn_ok (nm : List UInt8) (st : Nat) (v : Value) (cs : List (List UInt8)) (hm : IsLarge nm st cs) (w : World) (h : Sq fS 1 w v cs) : Fn 319 [mV nm st v] w (fun r _ => r = .int .i64 (turnN st (underL (roundsL st) cs) : Nat)) := by
  (refine callsV_of mix Try.func319 c_sl15Turn ?_; simp only [↓vsd, vsn, gW, qd, qv, ev, pick, argE, zipE, ne_eq, eq_self, forall_const, implies_true, if_true, if_false, reduceIte, reduceCtorEq, Nat.reduceEqDiff, Nat.reduceAdd, Nat.reduceLT, ↓us_sl15Turn, r_sl15Turn])
  refine m_al ?_
  rintro b w1 hb hblk hx1 hs1
  have h1 : Blk w1 b (fM nm st v) 41 := hblk
  have hq1 := h.ext hx1
  simp only [↓vsd, vsn, gW, qd, qv, ev, pick, argE, zipE, ne_eq, eq_self, forall_const, implies_true, if_true, if_false, reduceIte, reduceCtorEq, Nat.reduceEqDiff, Nat.reduceAdd, Nat.reduceLT, ↓us_sl15Turn, r_sl15Turn, h1.facts, fMg]
  have hst := hm.1.2.1
  have h4 := hm.2
  refine m_call (sl4Head_ok nm st v cs hm.1 _ hq1) ?_
  rintro _ w2 hx2 rfl
  have h2 := h1.ext hx2
  rw [Int.toNat_natCast]
  have hlen : (underL (roundsL st) cs).length = st := by rw [underL_len, roundsL_len]
  generalize underL (roundsL st) cs = hd at *
  simp only [↓vsd, vsn, gW, qd, qv, ev, pick, argE, zipE, ne_eq, eq_self, forall_const, implies_true, if_true, if_false, reduceIte, reduceCtorEq, Nat.reduceEqDiff, Nat.reduceAdd, Nat.reduceLT, ↓us_sl15Turn, r_sl15Turn, h2.facts, fMg]
  refine m_call (sl1Rounds_ok st (by omega) _) ?_
  rintro _ w4 hx4 rfl
  simp only [↓vsd, vsn, gW, qd, qv, ev, pick, argE, zipE, ne_eq, eq_self, forall_const, implies_true, if_true, if_false, reduceIte, reduceCtorEq, Nat.reduceEqDiff, Nat.reduceAdd, Nat.reduceLT, ↓us_sl15Turn, r_sl15Turn]
  refine m_call (sl15Course_ok (roundsL st) (by rw [roundsL_len]; omega) (by rw [roundsL_len]; omega) _) ?_
  rintro _ w5 hx5 rfl
  simp only [↓vsd, vsn, gW, qd, qv, ev, pick, argE, zipE, ne_eq, eq_self, forall_const, implies_true, if_true, if_false, reduceIte, reduceCtorEq, Nat.reduceEqDiff, Nat.reduceAdd, Nat.reduceLT, ↓us_sl15Turn, r_sl15Turn]
  have hcl : (courseL (roundsL st)).length = st - 1 := by unfold courseL; rw [List.length_map, roundsL_len, cou_len st (by omega)]
  have hx15 : Ext w w5 := hx1.trans (hx2.trans (hx4.trans hx5))
  refine m_upto (st - 2) (fun k vs w' => vs = [.int .i64 (k + 1 : Nat)] ∧ turnN st hd = turnGo st hd (st - 2 - k) (k + 1) ∧ Ext w w') ⟨rfl, rfl, hx15⟩ ?_
  rintro k vs w6 hk ⟨rfl, htn, hx⟩
  have hz : 0 < (hd.length : Int) := by omega
  by_cases hlt : k + 1 < st - 1
  · have hltI : ((k + 1 : Nat) : Int) < (st - 1 : Nat) := by omega
    have hltJ : ¬ ((st - 1 : Nat) : Int) ≤ (k + 1 : Nat) := by omega
    obtain ⟨i, hi⟩ : ∃ i, st - 2 - k = i + 1 := ⟨st - 2 - k - 1, by omega⟩
    have htn2 : turnN st hd = if TurnsBy st hd (k + 1) then k + 1 else turnGo st hd i (k + 2) := by rw [htn, hi]; rfl
    have hi2 : st - 2 - (k + 1) = i := by omega
    have hdl : (List.drop (k + 1) (courseL (roundsL st))).length + (List.take (k + 1) (courseL (roundsL st))).length = st - 1 := by
      rw [List.length_drop, List.length_take, hcl]; omega
    by_cases h49 : hd.getD 0 0 = 49
    · have h49I : ((hd.getD 0 0).toNat : Int) = 49 := by rw [h49]; rfl
      simp only [↓vsd, vsn, gW, qd, qv, ev, pick, argE, zipE, ne_eq, eq_self, forall_const, implies_true, if_true, if_false, reduceIte, reduceCtorEq, Nat.reduceEqDiff, Nat.reduceAdd, Nat.reduceLT, ↓us_sl15Turn, r_sl15Turn, hcl, hltI, hltJ, h49I, hz, hdl]
      refine ⟨by omega, by omega, by omega, by omega, m_call (sl15Course_ok hd (by omega) (by omega) _) ?_⟩
      rintro _ w7 hx7 rfl
      have hx67 := hx.trans (ud hx7)
      simp only [↓vsd, vsn, gW, qd, qv, ev, pick, argE, zipE, ne_eq, eq_self, forall_const, implies_true, if_true, if_false, reduceIte, reduceCtorEq, Nat.reduceEqDiff, Nat.reduceAdd, Nat.reduceLT, ↓us_sl15Turn, r_sl15Turn]
      refine ⟨fun he => ⟨hx67, ?_⟩, fun hne => ⟨inR_i64 (by omega), UpTo.next (by omega) ⟨rfl, ?_, hx67⟩⟩⟩
      · rw [htn2, if_pos ⟨h49, he⟩]
      · rw [htn2, if_neg (fun e => hne e.2), hi2]
    · have h49I : ¬ ((hd.getD 0 0).toNat : Int) = 49 := fun e => h49 (UInt8.toNat_inj.1 (by simpa using Int.ofNat.inj e))
      have hno : ¬ TurnsBy st hd (k + 1) := fun e => h49 e.1
      have hpk : ∀ b, pickV (.bool false) b (.bool false) = .bool false := fun _ => rfl
      simp only [↓vsd, vsn, gW, qd, qv, ev, pick, argE, zipE, ne_eq, eq_self, forall_const, implies_true, if_true, if_false, reduceIte, reduceCtorEq, Nat.reduceEqDiff, Nat.reduceAdd, Nat.reduceLT, ↓us_sl15Turn, r_sl15Turn, hcl, hltI, hltJ, h49I, hz, hpk]
      exact ⟨by omega, inR_i64 (by omega), UpTo.next (by omega) ⟨rfl, by rw [htn2, if_neg hno, hi2], dr hx⟩⟩
  · have hltI : ¬ ((k + 1 : Nat) : Int) < (st - 1 : Nat) := by omega
    simp only [↓vsd, vsn, gW, qd, qv, ev, pick, argE, zipE, ne_eq, eq_self, forall_const, implies_true, if_true, if_false, reduceIte, reduceCtorEq, Nat.reduceEqDiff, Nat.reduceAdd, Nat.reduceLT, ↓us_sl15Turn, r_sl15Turn, hcl, hltI]
    obtain rfl : k = st - 2 := by omega
    exact ⟨hx, by rw [htn, Nat.sub_self]; rfl⟩
/-- Is a method regular, and is the question one? -/
def regV (nm : List UInt8) (st : Int) (cs : List (List UInt8)) : Value := if IsLarge nm st cs then .tuple ⟨[.bool (decide (0 < turnN st.toNat (underL (roundsL st.toNat) cs))), .bool true]⟩ else .tuple ⟨[.bool false, .bool false]⟩
def turnV (nm : List UInt8) (st : Int) (cs : List (List UInt8)) : Value := if IsLarge nm st cs ∧ turnN st.toNat (underL (roundsL st.toNat) cs) ≠ 0 then .tuple ⟨[.int .i64 (turnN st.toNat (underL (roundsL st.toNat) cs) : Nat), .bool true]⟩ else .tuple ⟨[.int .i64 0, .bool false]⟩
end Go.Proofs.Ytpnopboffalfnaa
