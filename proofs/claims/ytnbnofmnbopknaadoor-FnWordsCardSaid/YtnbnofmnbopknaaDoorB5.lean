/-
  The shortest part of which a touch is a repetition, of both sides (beside the readers of programs).
  Conditions: none.
-/
import Derived.Test.YtnbnofmnbopknaaDoorA16
import Derived.Test.YtnbnofmnbopknaaDoorPp
import Derived.Test.YtnbnofmnbopknaaDoorVz
set_option linter.unusedSimpArgs false
set_option linter.unusedVariables false
set_option linter.defProp false
namespace Go.Proofs.YtnbnofmnbopknaaDoor
open Go Go.RowKit
section
variable (P : Program) (k : KT) (e : Env) (w : World)
abbrev b24_1 : X := (.cond (.t 23) (.seq (.drw [2, 3] (.c (.q 24 [] (.mv (.t 0))) (.c (.q 25 [] (.mv (.t 4))) (.c (.q 26 [] (.sub (.t 24) none (some (.t 25)))) (.c (.q 27 [] (.mv (.t 0))) (.c (.q 28 [] (.len (.t 27))) (.c (.q 29 [] (.mv (.t 4))) (.c (.q 30 [] (.bin .quo (.t 28) (.t 29))) (.c (.q 2 [] (.mv (.t 26))) (.c (.q 3 [] (.mv (.t 30))) .nil)))))))))) .ret) .skip)
def t24_1 := b24_1
theorem u24_1 : vcK P t24_1 k e w = vcK P b24_1 k e w := rfl
abbrev b24_2 : X := (.reg [0, 4] (.c (.q 5 [] (.mv (.t 4))) (.c (.q 6 [] (.bin .add (.t 5) (.c (.int .i64 1)))) (.c (.q 4 [] (.mv (.t 6))) .nil))))
def t24_2 := b24_2
theorem u24_2 : vcK P t24_2 k e w = vcK P b24_2 k e w := rfl
abbrev b24_3 : X := (.seq (.blk 1 (.seq (.drw [0, 4, 23] (.c (.q 7 [] (.mv (.t 0))) (.c (.q 8 [] (.len (.t 7))) (.c (.q 9 [] (.mv (.t 4))) (.c (.q 10 [] (.bin .rem (.t 8) (.t 9))) (.c (.q 11 [] (.bin .eql (.t 10) (.c (.int .i64 0)))) (.c (.q 12 [] (.mv (.t 11))) (.c (.q 13 [(12, true)] (.mv (.t 0))) (.c (.q 14 [(12, true)] (.mv (.t 4))) (.c (.q 15 [(12, true)] (.sub (.t 13) none (some (.t 14)))) (.c (.q 16 [(12, true)] (.mv (.t 0))) (.c (.q 17 [(12, true)] (.len (.t 16))) (.c (.q 18 [(12, true)] (.mv (.t 4))) (.c (.q 19 [(12, true)] (.bin .quo (.t 17) (.t 18))) (.c (.q 21 [(12, true)] (.mv (.t 0))) (.c (.e (some 20) [(12, true)] (.call false 41 [(.t 15), (.t 19)])) (.c (.q 22 [(12, true)] (.bin .eql (.t 20) (.t 21))) (.c (.q 23 [] (.pick (.t 12) (.t 22) (.c (.bool false)))) .nil)))))))))))))))))) t24_1)) t24_2)
def t24_3 := b24_3
theorem u24_3 : vcK P t24_3 k e w = vcK P b24_3 k e w := rfl
abbrev b24_4 : X := (.blk 0 (.loop [4] [0] t24_3))
def t24_4 := b24_4
theorem u24_4 : vcK P t24_4 k e w = vcK P b24_4 k e w := rfl
abbrev b24_5 : X := (.seq (.reg [0, 4] (.c (.q 4 [] (.mv (.c (.int .i64 1)))) .nil)) t24_4)
def t24_5 := b24_5
theorem u24_5 : vcK P t24_5 k e w = vcK P b24_5 k e w := rfl
abbrev b24_0 : X := (.seq (.reg [0] (.c (.q 2 [] (.mv (.s []))) (.c (.q 3 [] (.mv (.c (.int .i64 0)))) .nil))) t24_5)
def x_isplitParts := b24_0
theorem u24_0 : vcK P x_isplitParts k e w = vcK P b24_0 k e w := rfl
def r_isplitParts : List XO := [(.mv (.t 2)), (.mv (.t 3))]
theorem c_isplitParts : convF Tryd.prog [27, 28, 29, 30, 32, 36, 40, 45, 46, 47, 50, 51, 52, 61, 62, 98] Tryd.f24 [([0], []), ([0, 4], []), ([4], [0]), ([0, 4, 23], []), ([2, 3], []), ([0, 4], [])] = some (x_isplitParts, r_isplitParts) := by kernel_rfl
def us_isplitParts :=  (aI (aI @u24_0 (aI @u24_1 @u24_2)) (aI @u24_3 (aI @u24_4 @u24_5)))
abbrev b60_1 : X := (.seq (.drw [4] (.c (.q 5 [] (.mv (.t 0))) (.c (.q 6 [] (.mv (.t 1))) (.c (.q 7 [] (.sub (.t 5) (some (.t 6)) none)) (.c (.q 8 [] (.mv (.t 0))) (.c (.q 9 [] (.mv (.t 1))) (.c (.q 10 [] (.sub (.t 8) none (some (.t 9)))) (.c (.q 11 [] (.bin .add (.t 7) (.t 10))) (.c (.q 4 [] (.mv (.t 11))) .nil))))))))) .ret)
def t60_1 := b60_1
theorem u60_1 : vcK P t60_1 k e w = vcK P b60_1 k e w := rfl
abbrev b60_0 : X := (.seq (.reg [0, 1] (.c (.q 4 [] (.mv (.s []))) .nil)) t60_1)
def x_sl9Turn := b60_0
theorem u60_0 : vcK P x_sl9Turn k e w = vcK P b60_0 k e w := rfl
def r_sl9Turn : List XO := [(.mv (.t 4))]
theorem c_sl9Turn : convF Tryd.prog [27, 28, 29, 30, 32, 36, 40, 45, 46, 47, 50, 51, 52, 61, 62, 98] Tryd.f60 [([0, 1], []), ([4], [])] = some (x_sl9Turn, r_sl9Turn) := by kernel_rfl
def us_sl9Turn :=  (aI @u60_0 @u60_1)
abbrev b43_1 : X := (.cond (.t 8) (.seq (.reg [2, 3, 4] (.c (.q 2 [] (.mv (.s []))) (.c (.q 3 [] (.mv (.c (.int .i64 0)))) (.c (.q 4 [] (.mv (.c (.bool false)))) .nil)))) .ret) .skip)
def t43_1 := b43_1
theorem u43_1 : vcK P t43_1 k e w = vcK P b43_1 k e w := rfl
abbrev b43_2 : X := (.cond (.t 12) .skip (.exit 0))
def t43_2 := b43_2
theorem u43_2 : vcK P t43_2 k e w = vcK P b43_2 k e w := rfl
abbrev b43_3 : X := (.cond (.t 26) (.seq (.drw [2, 3, 4] (.c (.q 27 [] (.mv (.t 0))) (.c (.q 28 [] (.mv (.t 5))) (.c (.q 29 [] (.sub (.t 27) none (some (.t 28)))) (.c (.q 30 [] (.mv (.t 0))) (.c (.q 31 [] (.len (.t 30))) (.c (.q 32 [] (.mv (.t 5))) (.c (.q 33 [] (.bin .quo (.t 31) (.t 32))) (.c (.q 2 [] (.mv (.t 29))) (.c (.q 3 [] (.mv (.t 33))) (.c (.q 4 [] (.mv (.c (.bool true)))) .nil))))))))))) .ret) .skip)
def t43_3 := b43_3
theorem u43_3 : vcK P t43_3 k e w = vcK P b43_3 k e w := rfl
abbrev b43_4 : X := (.reg [0, 5] (.c (.q 13 [] (.mv (.t 5))) (.c (.q 14 [] (.bin .add (.t 13) (.c (.int .i64 1)))) (.c (.q 5 [] (.mv (.t 14))) .nil))))
def t43_4 := b43_4
theorem u43_4 : vcK P t43_4 k e w = vcK P b43_4 k e w := rfl
abbrev b43_5 : X := (.seq (.blk 1 (.seq (.reg [0, 5, 26] (.c (.q 15 [] (.mv (.t 0))) (.c (.q 16 [] (.len (.t 15))) (.c (.q 17 [] (.mv (.t 5))) (.c (.q 18 [] (.bin .rem (.t 16) (.t 17))) (.c (.q 19 [] (.bin .eql (.t 18) (.c (.int .i64 0)))) (.c (.q 20 [] (.mv (.t 19))) (.c (.q 21 [(20, true)] (.mv (.t 0))) (.c (.q 22 [(20, true)] (.mv (.t 5))) (.c (.e (some 23) [(20, true)] (.call false 60 [(.t 21), (.t 22)])) (.c (.q 24 [(20, true)] (.mv (.t 0))) (.c (.q 25 [(20, true)] (.bin .eql (.t 23) (.t 24))) (.c (.q 26 [] (.pick (.t 20) (.t 25) (.c (.bool false)))) .nil))))))))))))) t43_3)) t43_4)
def t43_5 := b43_5
theorem u43_5 : vcK P t43_5 k e w = vcK P b43_5 k e w := rfl
abbrev b43_6 : X := (.seq (.seq (.reg [0, 5, 12] (.c (.q 9 [] (.mv (.t 5))) (.c (.q 10 [] (.mv (.t 0))) (.c (.q 11 [] (.len (.t 10))) (.c (.q 12 [] (.bin .lss (.t 9) (.t 11))) .nil))))) t43_2) t43_5)
def t43_6 := b43_6
theorem u43_6 : vcK P t43_6 k e w = vcK P b43_6 k e w := rfl
abbrev b43_7 : X := (.blk 0 (.loop [5] [0] t43_6))
def t43_7 := b43_7
theorem u43_7 : vcK P t43_7 k e w = vcK P b43_7 k e w := rfl
abbrev b43_8 : X := (.seq (.reg [2, 3, 4] (.c (.q 34 [] (.mv (.t 0))) (.c (.q 2 [] (.mv (.t 34))) (.c (.q 3 [] (.mv (.c (.int .i64 1)))) (.c (.q 4 [] (.mv (.c (.bool true)))) .nil))))) .ret)
def t43_8 := b43_8
theorem u43_8 : vcK P t43_8 k e w = vcK P b43_8 k e w := rfl
abbrev b43_9 : X := (.seq (.seq (.reg [0, 5] (.c (.q 5 [] (.mv (.c (.int .i64 1)))) .nil)) t43_7) t43_8)
def t43_9 := b43_9
theorem u43_9 : vcK P t43_9 k e w = vcK P b43_9 k e w := rfl
abbrev b43_10 : X := (.seq (.seq (.reg [0, 8] (.c (.q 6 [] (.mv (.t 0))) (.c (.e (some 7) [] (.call false 22 [(.t 6)])) (.c (.q 8 [] (.not (.t 7))) .nil)))) t43_1) t43_9)
def t43_10 := b43_10
theorem u43_10 : vcK P t43_10 k e w = vcK P b43_10 k e w := rfl
abbrev b43_0 : X := (.seq (.reg [0] (.c (.q 2 [] (.mv (.s []))) (.c (.q 3 [] (.mv (.c (.int .i64 0)))) (.c (.q 4 [] (.mv (.c (.bool false)))) .nil)))) t43_10)
def x_sSplitParts := b43_0
theorem u43_0 : vcK P x_sSplitParts k e w = vcK P b43_0 k e w := rfl
def r_sSplitParts : List XO := [(.mv (.t 2)), (.mv (.t 3)), (.mv (.t 4))]
theorem c_sSplitParts : convF Tryd.prog [27, 28, 29, 30, 32, 36, 40, 45, 46, 47, 50, 51, 52, 61, 62, 98] Tryd.f43 [([0], []), ([0, 8], []), ([2, 3, 4], []), ([0, 5], []), ([5], [0]), ([0, 5, 12], []), ([0, 5, 26], []), ([2, 3, 4], []), ([0, 5], []), ([2, 3, 4], [])] = some (x_sSplitParts, r_sSplitParts) := by kernel_rfl
def us_sSplitParts :=  (aI (aI (aI @u43_0 @u43_1) (aI @u43_2 (aI @u43_3 @u43_4))) (aI (aI @u43_5 (aI @u43_6 @u43_7)) (aI @u43_8 (aI @u43_9 @u43_10))))
end

theorem Repeat_okp (s : List UInt8) (c : Nat) (hc : c ≤ 9223372036854775807) (hl : s.length * c ≤ 140737488355328) (w : World) : Fn 41 [S s, .int .i64 c] w (fun r _ => r = S (repT s c)) :=
  Calls.mono (Tryd.strings_Repeat ⟨⟨s⟩⟩ c w hc hl) fun _ _ ⟨he, hb⟩ => ⟨_, he, hb, by rw [← repeat_rep]; rfl⟩
theorem isplitParts_ok (t : List UInt8) (n : Nat) (hl : t.length ≤ 1000000) (h : LeastP t n) (w : World) : Fn 24 [S t] w (fun r _ => r = .tuple ⟨[S (t.take n), .int .i64 (t.length / n : Nat)]⟩) := by
  (refine callsV_of mix Tryd.func24 c_isplitParts ?_; simp only [↓vsd, vsn, gW, qd, qv, ev, pick, argE, zipE, ne_eq, eq_self, forall_const, implies_true, if_true, if_false, reduceIte, reduceCtorEq, Nat.reduceEqDiff, Nat.reduceAdd, Nat.reduceLT, ↓us_isplitParts, r_isplitParts])
  obtain ⟨⟨hn0, hnl⟩, hp, hno⟩ := h
  refine m_upto (n - 1) (fun k vs w' => vs = [.int .i64 (k + 1 : Nat)] ∧ Ext w w') ⟨rfl, Ext.refl _⟩ ?_
  rintro k vs w1 hk ⟨rfl, hx1⟩
  have hm : ((t.length : Nat) : Int).tmod ((k + 1 : Nat) : Int) = ((t.length % (k + 1) : Nat) : Int) := rfl
  have hd : ((t.length : Nat) : Int).tdiv ((k + 1 : Nat) : Int) = ((t.length / (k + 1) : Nat) : Int) := rfl
  have hk0 : ¬ ((k + 1 : Nat) : Int) = 0 := by omega
  have ek : ((k + 1 : Nat) : Int) + 1 = ((k + 1 + 1 : Nat) : Int) := by omega
  have hdl : t.length / (k + 1) ≤ t.length := Nat.div_le_self _ _
  have hinR : inR .i64 ((t.length / (k + 1) : Nat) : Int) := by
    generalize t.length / (k + 1) = q at hdl
    exact inR_i64 (by omega)
  have htk : (t.take (k + 1)).length = k + 1 := by rw [List.length_take]; omega
  by_cases hmz : t.length % (k + 1) = 0
  · have hmI : ((t.length % (k + 1) : Nat) : Int) = 0 := by omega
    have hmul : (k + 1) * (t.length / (k + 1)) ≤ 140737488355328 := Nat.le_trans (Nat.mul_div_le _ _) (by omega)
    simp only [↓vsd, vsn, gW, qd, qv, ev, pick, argE, zipE, ne_eq, eq_self, forall_const, implies_true, if_true, if_false, reduceIte, reduceCtorEq, Nat.reduceEqDiff, Nat.reduceAdd, Nat.reduceLT, ↓us_isplitParts, r_isplitParts, hm, hmI, hd]
    refine ⟨hk0, by omega, ⟨hk0, hinR⟩, m_call (Repeat_okp (t.take (k + 1)) (t.length / (k + 1)) (by omega) (by rw [htk]; exact hmul) _) ?_⟩
    rintro _ w2 hx2 rfl
    have hx2 : Ext w1 w2 := by first | exact hx2 | exact ud hx2 | exact ud (ud hx2)
    by_cases hr : repT (t.take (k + 1)) (t.length / (k + 1)) = t
    · obtain rfl : n = k + 1 := by
        refine Decidable.byContradiction fun hne => hno (k + 1) (by omega) (by omega) ⟨hmz, hr⟩
      simp only [↓vsd, vsn, gW, qd, qv, ev, pick, argE, zipE, ne_eq, eq_self, forall_const, implies_true, if_true, if_false, reduceIte, reduceCtorEq, Nat.reduceEqDiff, Nat.reduceAdd, Nat.reduceLT, ↓us_isplitParts, r_isplitParts, hr, hd]
      exact ⟨by omega, ⟨hk0, hinR⟩, hx1.trans hx2⟩
    · have hlt : k < n - 1 := by
        refine Decidable.byContradiction fun hge => hr ?_
        have : k + 1 = n := by omega
        rw [this]; exact hp.2
      simp only [↓vsd, vsn, gW, qd, qv, ev, pick, argE, zipE, ne_eq, eq_self, forall_const, implies_true, if_true, if_false, reduceIte, reduceCtorEq, Nat.reduceEqDiff, Nat.reduceAdd, Nat.reduceLT, ↓us_isplitParts, r_isplitParts, hr, ek]
      exact ⟨inR_i64 (by omega), UpTo.next hlt ⟨rfl, hx1.trans hx2⟩⟩
  · have hmI : ¬ ((t.length % (k + 1) : Nat) : Int) = 0 := by omega
    have hlt : k < n - 1 := by
      refine Decidable.byContradiction fun hge => hmz ?_
      have : k + 1 = n := by omega
      rw [this]; exact hp.1
    simp only [↓vsd, vsn, gW, qd, qv, ev, pick, argE, zipE, ne_eq, eq_self, forall_const, implies_true, if_true, if_false, reduceIte, reduceCtorEq, Nat.reduceEqDiff, Nat.reduceAdd, Nat.reduceLT, ↓us_isplitParts, r_isplitParts, hm, hmI, ek]
    exact ⟨hk0, inR_i64 (by omega), UpTo.next hlt ⟨rfl, by first | exact hx1 | exact dr hx1⟩⟩
/-- What the split of a touch gives. -/
def splV (t : List UInt8) (n : Nat) : Value := if IsTouch t then .tuple ⟨[S (t.take n), .int .i64 (t.length / n : Nat), .bool true]⟩ else .tuple ⟨[S [], .int .i64 0, .bool false]⟩
theorem sl9Turn_okp (t : List UInt8) (n : Nat) (ht : t.length ≤ 1000000) (hn : n ≤ t.length) (w : World) : Fn 60 [S t, .int .i64 n] w (fun r _ => r = S (t.drop n ++ t.take n)) := by
  (refine callsV_of mix Tryd.func60 c_sl9Turn ?_; simp only [↓vsd, vsn, gW, qd, qv, ev, pick, argE, zipE, ne_eq, eq_self, forall_const, implies_true, if_true, if_false, reduceIte, reduceCtorEq, Nat.reduceEqDiff, Nat.reduceAdd, Nat.reduceLT, ↓us_sl9Turn, r_sl9Turn])
  exact ⟨by omega, by omega, by rw [List.length_drop, List.length_take]; omega, by first | exact Ext.refl _ | exact dr (Ext.refl _)⟩
theorem sSplitParts_ok (t : List UInt8) (n : Nat) (hl : t.length ≤ 1000000) (h : IsTouch t → LeastP t n) (w : World) : Fn 43 [S t] w (fun r _ => r = splV t n) := by
  (refine callsV_of mix Tryd.func43 c_sSplitParts ?_; simp only [↓vsd, vsn, gW, qd, qv, ev, pick, argE, zipE, ne_eq, eq_self, forall_const, implies_true, if_true, if_false, reduceIte, reduceCtorEq, Nat.reduceEqDiff, Nat.reduceAdd, Nat.reduceLT, ↓us_sSplitParts, r_sSplitParts])
  refine m_call (sl9Good_ok t (by omega) _) ?_
  rintro _ w1 hx1 rfl
  by_cases ht : IsTouch t
  · obtain ⟨⟨hn0, hnl⟩, hp, hno⟩ := h ht
    simp only [↓vsd, vsn, gW, qd, qv, ev, pick, argE, zipE, ne_eq, eq_self, forall_const, implies_true, if_true, if_false, reduceIte, reduceCtorEq, Nat.reduceEqDiff, Nat.reduceAdd, Nat.reduceLT, ↓us_sSplitParts, r_sSplitParts, ht]
    refine m_upto (n - 1) (fun k vs w' => vs = [.int .i64 (k + 1 : Nat)] ∧ Ext w w') ⟨rfl, hx1⟩ ?_
    rintro k vs w2 hk ⟨rfl, hx2⟩
    have hm : ((t.length : Nat) : Int).tmod ((k + 1 : Nat) : Int) = ((t.length % (k + 1) : Nat) : Int) := rfl
    have hd : ((t.length : Nat) : Int).tdiv ((k + 1 : Nat) : Int) = ((t.length / (k + 1) : Nat) : Int) := rfl
    have hk0 : ¬ ((k + 1 : Nat) : Int) = 0 := by omega
    have ek : ((k + 1 : Nat) : Int) + 1 = ((k + 1 + 1 : Nat) : Int) := by omega
    have hdl : t.length / (k + 1) ≤ t.length := Nat.div_le_self _ _
    have hinR : inR .i64 ((t.length / (k + 1) : Nat) : Int) := by
      generalize t.length / (k + 1) = q at hdl
      exact inR_i64 (by omega)
    by_cases hkl : k + 1 < t.length
    · have hklI : ((k + 1 : Nat) : Int) < t.length := by omega
      by_cases hmz : t.length % (k + 1) = 0
      · have hmI : ((t.length % (k + 1) : Nat) : Int) = 0 := by omega
        have hpi := part_iff (t := t) (n := k + 1) (by omega) (by omega) hmz
        simp only [↓vsd, vsn, gW, qd, qv, ev, pick, argE, zipE, ne_eq, eq_self, forall_const, implies_true, if_true, if_false, reduceIte, reduceCtorEq, Nat.reduceEqDiff, Nat.reduceAdd, Nat.reduceLT, ↓us_sSplitParts, r_sSplitParts, hklI, hm, hmI]
        refine ⟨hk0, m_call (sl9Turn_okp t (k + 1) hl (by omega) _) ?_⟩
        rintro _ w3 hx3 rfl
        have hx3 : Ext w2 w3 := by first | exact hx3 | exact ud hx3 | exact ud (ud hx3)
        by_cases hr : t.drop (k + 1) ++ t.take (k + 1) = t
        · obtain rfl : n = k + 1 := by
            refine Decidable.byContradiction fun hne => hno (k + 1) (by omega) (by omega) ⟨hmz, hpi.1 hr⟩
          simp only [↓vsd, vsn, gW, qd, qv, ev, pick, argE, zipE, ne_eq, eq_self, forall_const, implies_true, if_true, if_false, reduceIte, reduceCtorEq, Nat.reduceEqDiff, Nat.reduceAdd, Nat.reduceLT, ↓us_sSplitParts, r_sSplitParts, hr, hd]
          exact ⟨by omega, ⟨hk0, hinR⟩, hx2.trans hx3, by rw [splV, if_pos ht]⟩
        · have hlt : k < n - 1 := by
            refine Decidable.byContradiction fun hge => hr (hpi.2 ?_)
            have : k + 1 = n := by omega
            rw [this]; exact hp.2
          simp only [↓vsd, vsn, gW, qd, qv, ev, pick, argE, zipE, ne_eq, eq_self, forall_const, implies_true, if_true, if_false, reduceIte, reduceCtorEq, Nat.reduceEqDiff, Nat.reduceAdd, Nat.reduceLT, ↓us_sSplitParts, r_sSplitParts, hr, ek]
          exact ⟨inR_i64 (by omega), UpTo.next hlt ⟨rfl, hx2.trans hx3⟩⟩
      · have hmI : ¬ ((t.length % (k + 1) : Nat) : Int) = 0 := by omega
        have hlt : k < n - 1 := by
          refine Decidable.byContradiction fun hge => hmz ?_
          have : k + 1 = n := by omega
          rw [this]; exact hp.1
        simp only [↓vsd, vsn, gW, qd, qv, ev, pick, argE, zipE, ne_eq, eq_self, forall_const, implies_true, if_true, if_false, reduceIte, reduceCtorEq, Nat.reduceEqDiff, Nat.reduceAdd, Nat.reduceLT, ↓us_sSplitParts, r_sSplitParts, hklI, hm, hmI, ek]
        exact ⟨hk0, inR_i64 (by omega), UpTo.next hlt ⟨rfl, by first | exact hx2 | exact dr hx2⟩⟩
    · have hklI : ¬ ((k + 1 : Nat) : Int) < t.length := by omega
      have hnt : n = t.length := by omega
      simp only [↓vsd, vsn, gW, qd, qv, ev, pick, argE, zipE, ne_eq, eq_self, forall_const, implies_true, if_true, if_false, reduceIte, reduceCtorEq, Nat.reduceEqDiff, Nat.reduceAdd, Nat.reduceLT, ↓us_sSplitParts, r_sSplitParts, hklI]
      refine ⟨hx2, ?_⟩
      rw [splV, if_pos ht, hnt, List.take_length, Nat.div_self (by omega)]; rfl
  · simp only [↓vsd, vsn, gW, qd, qv, ev, pick, argE, zipE, ne_eq, eq_self, forall_const, implies_true, if_true, if_false, reduceIte, reduceCtorEq, Nat.reduceEqDiff, Nat.reduceAdd, Nat.reduceLT, ↓us_sSplitParts, r_sSplitParts, ht]
    exact ⟨hx1, by rw [splV, if_neg ht]⟩
end Go.Proofs.YtnbnofmnbopknaaDoor
