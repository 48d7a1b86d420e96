/-
  Contracts of the smallest functions: bounds, rows.
  Conditions: none.
-/
import Derived.Test.YthopbkemkfjebaaKPa
import Derived.Test.YthopbkemkfjebaaKVf
set_option linter.unusedSimpArgs false
set_option linter.unusedVariables false
set_option linter.defProp false
namespace Go.Proofs.Ythopbkemkfjebaa
open Go Go.RowKit
section
variable (P : Program) (k : KT) (e : Env) (w : World)
abbrev b59_1 : X := (.seq (.reg [6] (.c (.q 7 [] (.mv (.t 0))) (.c (.q 8 [] (.mv (.t 1))) (.c (.q 9 [] (.bin .geq (.t 7) (.t 8))) (.c (.q 10 [] (.mv (.t 9))) (.c (.q 11 [(10, true)] (.mv (.t 0))) (.c (.q 12 [(10, true)] (.mv (.t 2))) (.c (.q 13 [(10, true)] (.bin .leq (.t 11) (.t 12))) (.c (.q 14 [] (.pick (.t 10) (.t 13) (.c (.bool false)))) (.c (.q 6 [] (.mv (.t 14))) .nil)))))))))) .ret)
def t59_1 := b59_1
theorem u59_1 : vcK P t59_1 k e w = vcK P b59_1 k e w := rfl
abbrev b59_0 : X := (.seq (.reg [0, 1, 2] (.c (.q 6 [] (.mv (.c (.bool false)))) .nil)) t59_1)
def x_sl1In := b59_0
theorem u59_0 : vcK P x_sl1In k e w = vcK P b59_0 k e w := rfl
def r_sl1In : List XO := [(.mv (.t 6))]
theorem c_sl1In : convF Try.prog [54, 55, 58, 69, 70, 71, 72, 73, 84, 89, 94, 95, 113, 114, 115, 130, 134, 143, 146, 161] Try.f59 [([0, 1, 2], []), ([6], [])] = some (x_sl1In, r_sl1In) := by kernel_rfl
def us_sl1In :=  (aI @u59_0 @u59_1)
abbrev b56_1 : X := (.seq (.reg [2] (.c (.q 3 [] (.mv (.t 0))) (.c (.q 4 [] (.bin .leq (.c (.int .i64 3)) (.t 3))) (.c (.q 5 [] (.mv (.t 4))) (.c (.q 6 [(5, true)] (.mv (.t 0))) (.c (.q 7 [(5, true)] (.bin .leq (.t 6) (.c (.int .i64 8)))) (.c (.q 8 [] (.pick (.t 5) (.t 7) (.c (.bool false)))) (.c (.q 2 [] (.mv (.t 8))) .nil)))))))) .ret)
def t56_1 := b56_1
theorem u56_1 : vcK P t56_1 k e w = vcK P b56_1 k e w := rfl
abbrev b56_0 : X := (.seq (.reg [0] (.c (.q 2 [] (.mv (.c (.bool false)))) .nil)) t56_1)
def x_iisStage := b56_0
theorem u56_0 : vcK P x_iisStage k e w = vcK P b56_0 k e w := rfl
def r_iisStage : List XO := [(.mv (.t 2))]
theorem c_iisStage : convF Try.prog [54, 55, 58, 69, 70, 71, 72, 73, 84, 89, 94, 95, 113, 114, 115, 130, 134, 143, 146, 161] Try.f56 [([0], []), ([2], [])] = some (x_iisStage, r_iisStage) := by kernel_rfl
def us_iisStage :=  (aI @u56_0 @u56_1)
abbrev b74_1 : X := (.cond (.t 9) (.seq (.reg [2] (.c (.q 2 [] (.mv (.c (.bool false)))) .nil)) .ret) .skip)
def t74_1 := b74_1
theorem u74_1 : vcK P t74_1 k e w = vcK P b74_1 k e w := rfl
abbrev b74_2 : X := (.cond (.t 34) (.seq (.reg [2] (.c (.q 2 [] (.mv (.c (.bool false)))) .nil)) .ret) .skip)
def t74_2 := b74_2
theorem u74_2 : vcK P t74_2 k e w = vcK P b74_2 k e w := rfl
abbrev b74_3 : X := (.reg [0, 3, 11, 12] (.c (.q 35 [] (.mv (.t 3))) (.c (.q 36 [] (.mv (.t 5))) (.c (.q 37 [] (.bin .shl (.c (.int .i64 1)) (.t 36))) (.c (.q 38 [] (.bin .or (.t 35) (.t 37))) (.c (.q 3 [] (.mv (.t 38))) .nil))))))
def t74_3 := b74_3
theorem u74_3 : vcK P t74_3 k e w = vcK P b74_3 k e w := rfl
abbrev b74_4 : X := (.seq (.seq (.reg [0, 3, 5, 11, 12, 34] (.c (.q 20 [] (.mv (.t 5))) (.c (.q 21 [] (.bin .lss (.t 20) (.c (.int .i64 0)))) (.c (.q 22 [] (.mv (.t 21))) (.c (.q 23 [(22, false)] (.mv (.t 5))) (.c (.q 24 [(22, false)] (.mv (.t 0))) (.c (.q 25 [(22, false)] (.len (.t 24))) (.c (.q 26 [(22, false)] (.bin .geq (.t 23) (.t 25))) (.c (.q 27 [] (.pick (.t 22) (.c (.bool true)) (.t 26))) (.c (.q 28 [] (.mv (.t 27))) (.c (.q 29 [(28, false)] (.mv (.t 3))) (.c (.q 30 [(28, false)] (.mv (.t 5))) (.c (.q 31 [(28, false)] (.bin .shr (.t 29) (.t 30))) (.c (.q 32 [(28, false)] (.bin .and (.t 31) (.c (.int .i64 1)))) (.c (.q 33 [(28, false)] (.bin .eql (.t 32) (.c (.int .i64 1)))) (.c (.q 34 [] (.pick (.t 28) (.c (.bool true)) (.t 33))) .nil)))))))))))))))) t74_2) t74_3)
def t74_4 := b74_4
theorem u74_4 : vcK P t74_4 k e w = vcK P b74_4 k e w := rfl
abbrev b74_5 : X := (.seq (.reg [0, 3, 5, 11, 12] (.c (.q 15 [] (.mv (.t 0))) (.c (.q 16 [] (.mv (.t 4))) (.c (.q 17 [] (.idx (.t 15) (.t 16))) (.c (.q 18 [] (.cvi .i64 (.t 17))) (.c (.q 19 [] (.bin .sub (.t 18) (.c (.int .i64 49)))) (.c (.q 5 [] (.mv (.t 19))) .nil))))))) t74_4)
def t74_5 := b74_5
theorem u74_5 : vcK P t74_5 k e w = vcK P b74_5 k e w := rfl
abbrev b74_6 : X := (.reg [0, 3, 11, 12] (.c (.q 39 [] (.bin .add (.t 12) (.c (.int .i64 1)))) (.c (.q 12 [] (.mv (.t 39))) .nil)))
def t74_6 := b74_6
theorem u74_6 : vcK P t74_6 k e w = vcK P b74_6 k e w := rfl
abbrev b74_7 : X := (.seq (.blk 1 (.seq (.reg [0, 3, 4, 11, 12] (.c (.q 14 [] (.mv (.t 12))) (.c (.q 4 [] (.mv (.t 14))) .nil))) t74_5)) t74_6)
def t74_7 := b74_7
theorem u74_7 : vcK P t74_7 k e w = vcK P b74_7 k e w := rfl
abbrev b74_8 : X := (.seq (.cond (.t 13) .skip (.exit 0)) t74_7)
def t74_8 := b74_8
theorem u74_8 : vcK P t74_8 k e w = vcK P b74_8 k e w := rfl
abbrev b74_9 : X := (.seq (.reg [0, 3, 11, 12, 13] (.c (.q 13 [] (.bin .lss (.t 12) (.t 11))) .nil)) t74_8)
def t74_9 := b74_9
theorem u74_9 : vcK P t74_9 k e w = vcK P b74_9 k e w := rfl
abbrev b74_10 : X := (.blk 0 (.loop [3, 12] [0, 11] t74_9))
def t74_10 := b74_10
theorem u74_10 : vcK P t74_10 k e w = vcK P b74_10 k e w := rfl
abbrev b74_11 : X := (.seq (.reg [2] (.c (.q 2 [] (.mv (.c (.bool true)))) .nil)) .ret)
def t74_11 := b74_11
theorem u74_11 : vcK P t74_11 k e w = vcK P b74_11 k e w := rfl
abbrev b74_12 : X := (.seq (.seq (.reg [0, 3, 11, 12] (.c (.q 10 [] (.mv (.t 0))) (.c (.q 11 [] (.len (.t 10))) (.c (.q 12 [] (.mv (.c (.int .i64 0)))) .nil)))) t74_10) t74_11)
def t74_12 := b74_12
theorem u74_12 : vcK P t74_12 k e w = vcK P b74_12 k e w := rfl
abbrev b74_13 : X := (.seq (.reg [0, 3] (.c (.q 3 [] (.mv (.c (.int .i64 0)))) .nil)) t74_12)
def t74_13 := b74_13
theorem u74_13 : vcK P t74_13 k e w = vcK P b74_13 k e w := rfl
abbrev b74_14 : X := (.seq (.seq (.reg [0, 9] (.c (.q 6 [] (.mv (.t 0))) (.c (.q 7 [] (.len (.t 6))) (.c (.e (some 8) [] (.call false 56 [(.t 7)])) (.c (.q 9 [] (.not (.t 8))) .nil))))) t74_1) t74_13)
def t74_14 := b74_14
theorem u74_14 : vcK P t74_14 k e w = vcK P b74_14 k e w := rfl
abbrev b74_0 : X := (.seq (.reg [0] (.c (.q 2 [] (.mv (.c (.bool false)))) .nil)) t74_14)
def x_iGoodRow := b74_0
theorem u74_0 : vcK P x_iGoodRow k e w = vcK P b74_0 k e w := rfl
def r_iGoodRow : List XO := [(.mv (.t 2))]
theorem c_iGoodRow : convF Try.prog [54, 55, 58, 69, 70, 71, 72, 73, 84, 89, 94, 95, 113, 114, 115, 130, 134, 143, 146, 161] Try.f74 [([0], []), ([0, 9], []), ([2], []), ([0, 3], []), ([0, 3, 11, 12], []), ([3, 12], [0, 11]), ([0, 3, 11, 12, 13], []), ([0, 3, 4, 11, 12], []), ([0, 3, 5, 11, 12], []), ([0, 3, 5, 11, 12, 34], []), ([2], []), ([0, 3, 11, 12], []), ([0, 3, 11, 12], []), ([2], [])] = some (x_iGoodRow, r_iGoodRow) := by kernel_rfl
def us_iGoodRow :=  (aI (aI (aI @u74_0 (aI @u74_1 @u74_2)) (aI (aI @u74_3 @u74_4) (aI @u74_5 @u74_6))) (aI (aI (aI @u74_7 @u74_8) (aI @u74_9 @u74_10)) (aI (aI @u74_11 @u74_12) (aI @u74_13 @u74_14))))
abbrev b76_1 : X := (.cond (.t 8) (.seq (.reg [2] (.c (.q 2 [] (.mv (.c (.bool false)))) .nil)) .ret) .skip)
def t76_1 := b76_1
theorem u76_1 : vcK P t76_1 k e w = vcK P b76_1 k e w := rfl
abbrev b76_2 : X := (.cond (.t 12) .skip (.exit 0))
def t76_2 := b76_2
theorem u76_2 : vcK P t76_2 k e w = vcK P b76_2 k e w := rfl
abbrev b76_3 : X := (.cond (.t 28) (.seq (.reg [2] (.c (.q 2 [] (.mv (.c (.bool false)))) .nil)) .ret) .skip)
def t76_3 := b76_3
theorem u76_3 : vcK P t76_3 k e w = vcK P b76_3 k e w := rfl
abbrev b76_4 : X := (.cond (.t 31) .skip (.exit 2))
def t76_4 := b76_4
theorem u76_4 : vcK P t76_4 k e w = vcK P b76_4 k e w := rfl
abbrev b76_5 : X := (.cond (.t 40) (.seq (.reg [2] (.c (.q 2 [] (.mv (.c (.bool false)))) .nil)) .ret) .skip)
def t76_5 := b76_5
theorem u76_5 : vcK P t76_5 k e w = vcK P b76_5 k e w := rfl
abbrev b76_6 : X := (.reg [0, 3, 4] (.c (.q 32 [] (.mv (.t 4))) (.c (.q 33 [] (.bin .add (.t 32) (.c (.int .i64 1)))) (.c (.q 4 [] (.mv (.t 33))) .nil))))
def t76_6 := b76_6
theorem u76_6 : vcK P t76_6 k e w = vcK P b76_6 k e w := rfl
abbrev b76_7 : X := (.seq (.blk 3 (.seq (.drw [0, 3, 4, 40] (.c (.q 34 [] (.mv (.t 0))) (.c (.q 35 [] (.mv (.t 4))) (.c (.q 36 [] (.idx (.t 34) (.t 35))) (.c (.q 37 [] (.mv (.t 0))) (.c (.q 38 [] (.mv (.t 3))) (.c (.q 39 [] (.idx (.t 37) (.t 38))) (.c (.q 40 [] (.bin .eql (.t 36) (.t 39))) .nil)))))))) t76_5)) t76_6)
def t76_7 := b76_7
theorem u76_7 : vcK P t76_7 k e w = vcK P b76_7 k e w := rfl
abbrev b76_8 : X := (.seq (.seq (.reg [0, 3, 4, 31] (.c (.q 29 [] (.mv (.t 4))) (.c (.q 30 [] (.mv (.t 3))) (.c (.q 31 [] (.bin .lss (.t 29) (.t 30))) .nil)))) t76_4) t76_7)
def t76_8 := b76_8
theorem u76_8 : vcK P t76_8 k e w = vcK P b76_8 k e w := rfl
abbrev b76_9 : X := (.blk 2 (.loop [4] [0, 3] t76_8))
def t76_9 := b76_9
theorem u76_9 : vcK P t76_9 k e w = vcK P b76_9 k e w := rfl
abbrev b76_10 : X := (.seq (.reg [0, 3, 4] (.c (.q 4 [] (.mv (.c (.int .i64 0)))) .nil)) t76_9)
def t76_10 := b76_10
theorem u76_10 : vcK P t76_10 k e w = vcK P b76_10 k e w := rfl
abbrev b76_11 : X := (.reg [0, 3] (.c (.q 13 [] (.mv (.t 3))) (.c (.q 14 [] (.bin .add (.t 13) (.c (.int .i64 1)))) (.c (.q 3 [] (.mv (.t 14))) .nil))))
def t76_11 := b76_11
theorem u76_11 : vcK P t76_11 k e w = vcK P b76_11 k e w := rfl
abbrev b76_12 : X := (.seq (.blk 1 (.seq (.seq (.reg [0, 3, 28] (.c (.q 15 [] (.mv (.t 0))) (.c (.q 16 [] (.mv (.t 3))) (.c (.q 17 [] (.idx (.t 15) (.t 16))) (.c (.q 18 [] (.bin .lss (.t 17) (.c (.int .u8 49)))) (.c (.q 19 [] (.mv (.t 18))) (.c (.q 20 [(19, false)] (.mv (.t 0))) (.c (.q 21 [(19, false)] (.mv (.t 3))) (.c (.q 22 [(19, false)] (.idx (.t 20) (.t 21))) (.c (.q 23 [(19, false)] (.bin .sub (.t 22) (.c (.int .u8 48)))) (.c (.q 24 [(19, false)] (.cvi .i64 (.t 23))) (.c (.q 25 [(19, false)] (.mv (.t 0))) (.c (.q 26 [(19, false)] (.len (.t 25))) (.c (.q 27 [(19, false)] (.bin .gtr (.t 24) (.t 26))) (.c (.q 28 [] (.pick (.t 19) (.c (.bool true)) (.t 27))) .nil))))))))))))))) t76_3) t76_10)) t76_11)
def t76_12 := b76_12
theorem u76_12 : vcK P t76_12 k e w = vcK P b76_12 k e w := rfl
abbrev b76_13 : X := (.seq (.seq (.reg [0, 3, 12] (.c (.q 9 [] (.mv (.t 3))) (.c (.q 10 [] (.mv (.t 0))) (.c (.q 11 [] (.len (.t 10))) (.c (.q 12 [] (.bin .lss (.t 9) (.t 11))) .nil))))) t76_2) t76_12)
def t76_13 := b76_13
theorem u76_13 : vcK P t76_13 k e w = vcK P b76_13 k e w := rfl
abbrev b76_14 : X := (.blk 0 (.loop [3] [0] t76_13))
def t76_14 := b76_14
theorem u76_14 : vcK P t76_14 k e w = vcK P b76_14 k e w := rfl
abbrev b76_15 : X := (.seq (.reg [2] (.c (.q 2 [] (.mv (.c (.bool true)))) .nil)) .ret)
def t76_15 := b76_15
theorem u76_15 : vcK P t76_15 k e w = vcK P b76_15 k e w := rfl
abbrev b76_16 : X := (.seq (.seq (.reg [0, 3] (.c (.q 3 [] (.mv (.c (.int .i64 0)))) .nil)) t76_14) t76_15)
def t76_16 := b76_16
theorem u76_16 : vcK P t76_16 k e w = vcK P b76_16 k e w := rfl
abbrev b76_17 : X := (.seq (.seq (.reg [0, 8] (.c (.q 5 [] (.mv (.t 0))) (.c (.q 6 [] (.len (.t 5))) (.c (.e (some 7) [] (.call false 59 [(.t 6), (.c (.int .i64 3)), (.c (.int .i64 8))])) (.c (.q 8 [] (.not (.t 7))) .nil))))) t76_1) t76_16)
def t76_17 := b76_17
theorem u76_17 : vcK P t76_17 k e w = vcK P b76_17 k e w := rfl
abbrev b76_0 : X := (.seq (.reg [0] (.c (.q 2 [] (.mv (.c (.bool false)))) .nil)) t76_17)
def x_sl1Row := b76_0
theorem u76_0 : vcK P x_sl1Row k e w = vcK P b76_0 k e w := rfl
def r_sl1Row : List XO := [(.mv (.t 2))]
theorem c_sl1Row : convF Try.prog [54, 55, 58, 69, 70, 71, 72, 73, 84, 89, 94, 95, 113, 114, 115, 130, 134, 143, 146, 161] Try.f76 [([0], []), ([0, 8], []), ([2], []), ([0, 3], []), ([3], [0]), ([0, 3, 12], []), ([0, 3, 28], []), ([2], []), ([0, 3, 4], []), ([4], [0, 3]), ([0, 3, 4, 31], []), ([0, 3, 4, 40], []), ([2], []), ([0, 3, 4], []), ([0, 3], []), ([2], [])] = some (x_sl1Row, r_sl1Row) := by kernel_rfl
def us_sl1Row :=  (aI (aI (aI (aI @u76_0 @u76_1) (aI @u76_2 @u76_3)) (aI (aI @u76_4 @u76_5) (aI @u76_6 (aI @u76_7 @u76_8)))) (aI (aI (aI @u76_9 @u76_10) (aI @u76_11 @u76_12)) (aI (aI @u76_13 @u76_14) (aI @u76_15 (aI @u76_16 @u76_17)))))
end
theorem sl1In_ok (n lo hi : Int) (w : World) : Fn 59 [.int .i64 n, .int .i64 lo, .int .i64 hi] w (fun v _ => v = .bool (decide (lo ≤ n) && decide (n ≤ hi))) := by
  (refine callsV_of mix Try.func59 c_sl1In ?_; simp only [↓vsd, vsn, gW, qd, qv, ev, pick, argE, zipE, ne_eq, eq_self, forall_const, implies_true, if_true, if_false, reduceIte, reduceCtorEq, Nat.reduceEqDiff, Nat.reduceAdd, Nat.reduceLT, ↓us_sl1In, r_sl1In])
  exact Ext.refl _
theorem iisStage_ok (n : Int) (w : World) : Fn 56 [.int .i64 n] w (fun v _ => v = .bool (decide (3 ≤ n) && decide (n ≤ 8))) := by
  (refine callsV_of mix Try.func56 c_iisStage ?_; simp only [↓vsd, vsn, gW, qd, qv, ev, pick, argE, zipE, ne_eq, eq_self, forall_const, implies_true, if_true, if_false, reduceIte, reduceCtorEq, Nat.reduceEqDiff, Nat.reduceAdd, Nat.reduceLT, ↓us_iisStage, r_iisStage])
  exact Ext.refl _
theorem iGoodRow_ok (l : List UInt8) (w : World) : Fn 74 [S l] w (fun v _ => v = .bool (decide (IsRow l))) := by
  (refine callsV_of mix Try.func74 c_iGoodRow ?_; simp only [↓vsd, vsn, gW, qd, qv, ev, pick, argE, zipE, ne_eq, eq_self, forall_const, implies_true, if_true, if_false, reduceIte, reduceCtorEq, Nat.reduceEqDiff, Nat.reduceAdd, Nat.reduceLT, ↓us_iGoodRow, r_iGoodRow])
  refine m_call (iisStage_ok _ _) ?_
  rintro _ w1 hx rfl
  simp only [↓vsd, vsn, gW, qd, qv, ev, pick, argE, zipE, ne_eq, eq_self, forall_const, implies_true, if_true, if_false, reduceIte, reduceCtorEq, Nat.reduceEqDiff, Nat.reduceAdd, Nat.reduceLT, ↓us_iGoodRow, r_iGoodRow]
  refine ⟨fun h => ⟨hx, ?_⟩, fun h => ?_⟩
  · have : ¬ IsRow l := fun hr => by have := hr.1; omega
    simp [this]
  refine m_loop (fun m vs w' => ∃ k s : Nat, m = l.length - k ∧ k ≤ l.length ∧ s < 256 ∧ vs = [.int .i64 s, .int .i64 k] ∧ RowUp l k ∧ (∀ c < 8, s.testBit c = true ↔ ∃ j < k, (l.getD j 0).toNat = 49 + c) ∧ Ext w w') l.length ?_ ?_
  · exact ⟨0, 0, by omega, by omega, by omega, rfl, RowUp.zero l, by simp, hx⟩
  · rintro m vs w' ⟨k, s, rfl, hk, hs, rfl, hup, hbit, hx'⟩
    simp only [↓vsd, vsn, gW, qd, qv, ev, pick, argE, zipE, ne_eq, eq_self, forall_const, implies_true, if_true, if_false, reduceIte, reduceCtorEq, Nat.reduceEqDiff, Nat.reduceAdd, Nat.reduceLT, ↓us_iGoodRow, r_iGoodRow]
    have hb := (l.getD k 0).toNat_lt
    refine ⟨fun hlt => ⟨⟨by omega, hlt⟩, inR_i64 (by omega), fun h => h.1, fun hbad => ⟨hx', ?_⟩, ?_⟩, fun hge => ⟨hx', ?_⟩⟩
    · have hn : ¬ IsRow l := fun hr => by
        obtain ⟨h1, h2, h3⟩ := hr.2 k (by omega)
        obtain ⟨c, hc⟩ : ∃ c : Nat, (l.getD k 0).toNat = 49 + c := ⟨(l.getD k 0).toNat - 49, by omega⟩
        rw [show ((l.getD k 0).toNat : Int) - 49 = (c : Nat) by omega] at hbad
        rcases hbad with hbad | hbad
        · omega
        · rw [Int.toNat_natCast, bit_and ⟨s, hs⟩ ⟨c, by omega⟩, hbit c (by omega)] at hbad
          obtain ⟨j, hj, he⟩ := hbad
          exact h3 j hj (UInt8.toNat_inj.1 (by omega))
      simp [hn]
    · rintro ⟨⟨h1, h2⟩, h3⟩
      obtain ⟨c, hc⟩ : ∃ c : Nat, (l.getD k 0).toNat = 49 + c := ⟨(l.getD k 0).toNat - 49, by omega⟩
      rw [show ((l.getD k 0).toNat : Int) - 49 = (c : Nat) by omega] at h3 ⊢
      rw [Int.toNat_natCast] at h3 ⊢
      rw [bit_and ⟨s, hs⟩ ⟨c, by omega⟩, hbit c (by omega)] at h3
      refine ⟨by omega, inR_i64 (by omega), _, Nat.lt_of_lt_of_le ?_ (Nat.le_refl _), k + 1, s ||| 2 ^ c, rfl, by omega, bit_lt ⟨s, hs⟩ ⟨c, by omega⟩, ⟨?_, by simp⟩, hup.succ (by omega) (by omega) (fun j hj he => h3 ⟨j, hj, by rw [he]; exact hc⟩), fun d hd => ?_, hx'⟩
      · omega
      · rw [bit_or ⟨s, hs⟩ ⟨c, by omega⟩]
      · rw [bit_test ⟨s, hs⟩ ⟨c, by omega⟩ ⟨d, hd⟩, hbit d hd]
        constructor
        · rintro (⟨j, hj, he⟩ | he)
          · exact ⟨j, by omega, he⟩
          · exact ⟨k, by omega, by rw [hc]; simp only at he; omega⟩
        · rintro ⟨j, hj, he⟩
          by_cases hjk : j = k
          · subst hjk; right; simp only; omega
          · exact Or.inl ⟨j, by omega, he⟩
    · have : IsRow l := ⟨by omega, by rw [show l.length = k by omega]; exact hup⟩
      simp [this]
theorem sl1Row_ok (l : List UInt8) (w : World) : Fn 76 [S l] w (fun v _ => v = .bool (decide (IsRow l))) := by
  (refine callsV_of mix Try.func76 c_sl1Row ?_; simp only [↓vsd, vsn, gW, qd, qv, ev, pick, argE, zipE, ne_eq, eq_self, forall_const, implies_true, if_true, if_false, reduceIte, reduceCtorEq, Nat.reduceEqDiff, Nat.reduceAdd, Nat.reduceLT, ↓us_sl1Row, r_sl1Row])
  refine m_call (sl1In_ok _ _ _ _) ?_
  rintro _ w1 hx rfl
  simp only [↓vsd, vsn, gW, qd, qv, ev, pick, argE, zipE, ne_eq, eq_self, forall_const, implies_true, if_true, if_false, reduceIte, reduceCtorEq, Nat.reduceEqDiff, Nat.reduceAdd, Nat.reduceLT, ↓us_sl1Row, r_sl1Row]
  refine ⟨fun h => ⟨hx, ?_⟩, fun h => ?_⟩
  · have : ¬ IsRow l := fun hr => by have := hr.1; omega
    simp [this]
  refine m_loop (fun m vs w' => ∃ k : Nat, m = l.length - k ∧ k ≤ l.length ∧ vs = [.int .i64 k] ∧ RowUp l k ∧ Ext w w') l.length ?_ ?_
  · exact ⟨0, by omega, by omega, rfl, RowUp.zero l, hx⟩
  · rintro m vs w' ⟨k, rfl, hk, rfl, hup, hx'⟩
    simp only [↓vsd, vsn, gW, qd, qv, ev, pick, argE, zipE, ne_eq, eq_self, forall_const, implies_true, if_true, if_false, reduceIte, reduceCtorEq, Nat.reduceEqDiff, Nat.reduceAdd, Nat.reduceLT, ↓us_sl1Row, r_sl1Row]
    have hb := (l.getD k 0).toNat_lt
    ((repeat' (first | (with_reducible refine And.intro ?_ ?_) | intro _)) <;> (try first | omega | ((with_reducible refine inR_i64 ?_) <;> omega) | ((with_reducible refine inR_u8 ?_) <;> omega) | with_reducible assumption | exact Ext.refl _))
    · have : ¬ IsRow l := fun hr => by
        obtain ⟨h1, h2, h3⟩ := hr.2 k (by omega)
        omega
      simp [this]
    · refine m_loop (fun m vs w' => ∃ j : Nat, m = k - j ∧ j ≤ k ∧ vs = [.int .i64 j] ∧ (∀ i < j, l.getD i 0 ≠ l.getD k 0) ∧ Ext w w') k ?_ ?_
      · exact ⟨0, by omega, by omega, rfl, by simp, hx'⟩
      · rintro m vs w2 ⟨j, rfl, hj, rfl, hne, hx2⟩
        simp only [↓vsd, vsn, gW, qd, qv, ev, pick, argE, zipE, ne_eq, eq_self, forall_const, implies_true, if_true, if_false, reduceIte, reduceCtorEq, Nat.reduceEqDiff, Nat.reduceAdd, Nat.reduceLT, ↓us_sl1Row, r_sl1Row]
        have hc := (l.getD j 0).toNat_lt
        ((repeat' (first | (with_reducible refine And.intro ?_ ?_) | intro _)) <;> (try first | omega | ((with_reducible refine inR_i64 ?_) <;> omega) | ((with_reducible refine inR_u8 ?_) <;> omega) | with_reducible assumption | exact Ext.refl _))
        · rename_i he
          have : ¬ IsRow l := fun hr => by
            obtain ⟨h1, h2, h3⟩ := hr.2 k (by omega)
            exact h3 j (by omega) (UInt8.toNat_inj.1 (by omega))
          simp [this]
        · rename_i he
          exact ⟨_, Nat.lt_of_lt_of_le (show k - (j + 1) < k - j by omega) (Nat.le_refl _), j + 1, rfl, by omega, by simp, fun i hi => by
            by_cases hij : i = j
            · subst hij; intro h; rw [h] at he; exact he rfl
            · exact hne i (by omega), hx2⟩
        · exact ⟨_, Nat.lt_of_lt_of_le (show l.length - (k + 1) < l.length - k by omega) (Nat.le_refl _), k + 1, rfl, by omega, by simp, hup.succ (by omega) (by omega) (fun i hi => hne i (by omega)), hx2⟩
    · have : IsRow l := ⟨by omega, by rw [show l.length = k by omega]; exact hup⟩
      simp [this]
end Go.Proofs.Ythopbkemkfjebaa
