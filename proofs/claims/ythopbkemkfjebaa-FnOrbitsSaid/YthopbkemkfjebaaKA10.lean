/-
  Changes: what program and reference compute of one; products of rows.
  Conditions: none.
-/
import Derived.Test.YthopbkemkfjebaaKA4
import Derived.Test.YthopbkemkfjebaaKA9
set_option linter.unusedSimpArgs false
set_option linter.unusedVariables false
set_option linter.defProp false
namespace Go.Proofs.Ythopbkemkfjebaa
open Go Go.RowKit
section
variable (P : Program) (k : KT) (e : Env) (w : World)
abbrev b110_1 : X := (.reg [0, 1, 5, 11, 12] (.c (.q 15 [] (.mv (.t 5))) (.c (.q 16 [] (.mv (.t 6))) (.c (.q 17 [] (.mv (.t 0))) (.c (.q 18 [] (.mv (.t 1))) (.c (.q 19 [] (.mv (.t 6))) (.c (.q 20 [] (.idx (.t 18) (.t 19))) (.c (.q 21 [] (.bin .sub (.t 20) (.c (.int .u8 49)))) (.c (.q 22 [] (.idx (.t 17) (.t 21))) (.c (.q 23 [] (.ia 1 (.t 15) (.t 16))) (.c (.e none [] (.st 1 (.t 23) (.t 22))) .nil)))))))))))
def t110_1 := b110_1
theorem u110_1 : vcK P t110_1 k e w = vcK P b110_1 k e w := rfl
abbrev b110_2 : X := (.reg [0, 1, 5, 11, 12] (.c (.q 24 [] (.bin .add (.t 12) (.c (.int .i64 1)))) (.c (.q 12 [] (.mv (.t 24))) .nil)))
def t110_2 := b110_2
theorem u110_2 : vcK P t110_2 k e w = vcK P b110_2 k e w := rfl
abbrev b110_3 : X := (.seq (.blk 1 (.seq (.reg [0, 1, 5, 6, 11, 12] (.c (.q 14 [] (.mv (.t 12))) (.c (.q 6 [] (.mv (.t 14))) .nil))) t110_1)) t110_2)
def t110_3 := b110_3
theorem u110_3 : vcK P t110_3 k e w = vcK P b110_3 k e w := rfl
abbrev b110_4 : X := (.seq (.cond (.t 13) .skip (.exit 0)) t110_3)
def t110_4 := b110_4
theorem u110_4 : vcK P t110_4 k e w = vcK P b110_4 k e w := rfl
abbrev b110_5 : X := (.seq (.reg [0, 1, 5, 11, 12, 13] (.c (.q 13 [] (.bin .lss (.t 12) (.t 11))) .nil)) t110_4)
def t110_5 := b110_5
theorem u110_5 : vcK P t110_5 k e w = vcK P b110_5 k e w := rfl
abbrev b110_6 : X := (.blk 0 (.loop [12] [0, 1, 5, 11] t110_5))
def t110_6 := b110_6
theorem u110_6 : vcK P t110_6 k e w = vcK P b110_6 k e w := rfl
abbrev b110_7 : X := (.seq (.reg [4] (.c (.q 25 [] (.mv (.t 5))) (.c (.e (some 26) [] (.b2s (.t 25))) (.c (.q 4 [] (.mv (.t 26))) .nil)))) .ret)
def t110_7 := b110_7
theorem u110_7 : vcK P t110_7 k e w = vcK P b110_7 k e w := rfl
abbrev b110_8 : X := (.seq (.seq (.reg [0, 1, 5, 11, 12] (.c (.q 10 [] (.mv (.t 5))) (.c (.q 11 [] (.lens (.t 10))) (.c (.q 12 [] (.mv (.c (.int .i64 0)))) .nil)))) t110_6) t110_7)
def t110_8 := b110_8
theorem u110_8 : vcK P t110_8 k e w = vcK P b110_8 k e w := rfl
abbrev b110_9 : X := (.seq (.reg [0, 1, 5] (.c (.q 7 [] (.mv (.t 1))) (.c (.q 8 [] (.len (.t 7))) (.c (.e (some 9) [] (.msl 22 5 1 1 [(.int .u8 0)] (.t 8) (.t 8))) (.c (.q 5 [] (.mv (.t 9))) .nil))))) t110_8)
def t110_9 := b110_9
theorem u110_9 : vcK P t110_9 k e w = vcK P b110_9 k e w := rfl
abbrev b110_0 : X := (.seq (.reg [0, 1] (.c (.q 4 [] (.mv (.s []))) .nil)) t110_9)
def x_itimes := b110_0
theorem u110_0 : vcK P x_itimes k e w = vcK P b110_0 k e w := rfl
def r_itimes : List XO := [(.mv (.t 4))]
theorem c_itimes : convF Try.prog [54, 55, 58, 69, 70, 71, 72, 73, 84, 89, 94, 95, 113, 114, 115, 130, 134, 143, 146, 161] Try.f110 [([0, 1], []), ([0, 1, 5], []), ([0, 1, 5, 11, 12], []), ([12], [0, 1, 5, 11]), ([0, 1, 5, 11, 12, 13], []), ([0, 1, 5, 6, 11, 12], []), ([0, 1, 5, 11, 12], []), ([0, 1, 5, 11, 12], []), ([4], [])] = some (x_itimes, r_itimes) := by kernel_rfl
def us_itimes :=  (aI (aI (aI @u110_0 @u110_1) (aI @u110_2 (aI @u110_3 @u110_4))) (aI (aI @u110_5 @u110_6) (aI @u110_7 (aI @u110_8 @u110_9))))
abbrev b62_1 : X := (.seq (.reg [4] (.c (.q 5 [] (.mv (.t 0))) (.c (.q 6 [] (.mv (.t 1))) (.c (.q 7 [] (.bin .sub (.t 6) (.c (.int .i64 1)))) (.c (.q 8 [] (.idx (.t 5) (.t 7))) (.c (.q 9 [] (.bin .sub (.t 8) (.c (.int .u8 48)))) (.c (.q 10 [] (.cvi .i64 (.t 9))) (.c (.q 4 [] (.mv (.t 10))) .nil)))))))) .ret)
def t62_1 := b62_1
theorem u62_1 : vcK P t62_1 k e w = vcK P b62_1 k e w := rfl
abbrev b62_0 : X := (.seq (.reg [0, 1] (.c (.q 4 [] (.mv (.c (.int .i64 0)))) .nil)) t62_1)
def x_sl1At := b62_0
theorem u62_0 : vcK P x_sl1At k e w = vcK P b62_0 k e w := rfl
def r_sl1At : List XO := [(.mv (.t 4))]
theorem c_sl1At : convF Try.prog [54, 55, 58, 69, 70, 71, 72, 73, 84, 89, 94, 95, 113, 114, 115, 130, 134, 143, 146, 161] Try.f62 [([0, 1], []), ([4], [])] = some (x_sl1At, r_sl1At) := by kernel_rfl
def us_sl1At :=  (aI @u62_0 @u62_1)
abbrev b102_1 : X := (.cond (.t 11) .skip (.exit 0))
def t102_1 := b102_1
theorem u102_1 : vcK P t102_1 k e w = vcK P b102_1 k e w := rfl
abbrev b102_2 : X := (.reg [0, 1, 5, 6] (.c (.q 17 [] (.mv (.t 5))) (.c (.q 18 [] (.mv (.t 0))) (.c (.q 19 [] (.mv (.t 7))) (.c (.q 20 [] (.bin .sub (.t 19) (.c (.int .i64 1)))) (.c (.q 21 [] (.mv (.t 7))) (.c (.q 22 [] (.sub (.t 18) (some (.t 20)) (some (.t 21)))) (.c (.q 23 [] (.bin .add (.t 17) (.t 22))) (.c (.q 5 [] (.mv (.t 23))) .nil)))))))))
def t102_2 := b102_2
theorem u102_2 : vcK P t102_2 k e w = vcK P b102_2 k e w := rfl
abbrev b102_3 : X := (.reg [0, 1, 5, 6] (.c (.q 12 [] (.mv (.t 6))) (.c (.q 13 [] (.bin .add (.t 12) (.c (.int .i64 1)))) (.c (.q 6 [] (.mv (.t 13))) .nil))))
def t102_3 := b102_3
theorem u102_3 : vcK P t102_3 k e w = vcK P b102_3 k e w := rfl
abbrev b102_4 : X := (.seq (.blk 1 (.seq (.reg [0, 1, 5, 6, 7] (.c (.q 14 [] (.mv (.t 1))) (.c (.q 15 [] (.mv (.t 6))) (.c (.e (some 16) [] (.call false 62 [(.t 14), (.t 15)])) (.c (.q 7 [] (.mv (.t 16))) .nil))))) t102_2)) t102_3)
def t102_4 := b102_4
theorem u102_4 : vcK P t102_4 k e w = vcK P b102_4 k e w := rfl
abbrev b102_5 : X := (.seq (.seq (.reg [0, 1, 5, 6, 11] (.c (.q 8 [] (.mv (.t 6))) (.c (.q 9 [] (.mv (.t 1))) (.c (.q 10 [] (.len (.t 9))) (.c (.q 11 [] (.bin .leq (.t 8) (.t 10))) .nil))))) t102_1) t102_4)
def t102_5 := b102_5
theorem u102_5 : vcK P t102_5 k e w = vcK P b102_5 k e w := rfl
abbrev b102_6 : X := (.blk 0 (.loop [5, 6] [0, 1] t102_5))
def t102_6 := b102_6
theorem u102_6 : vcK P t102_6 k e w = vcK P b102_6 k e w := rfl
abbrev b102_7 : X := (.seq (.reg [4] (.c (.q 24 [] (.mv (.t 5))) (.c (.q 4 [] (.mv (.t 24))) .nil))) .ret)
def t102_7 := b102_7
theorem u102_7 : vcK P t102_7 k e w = vcK P b102_7 k e w := rfl
abbrev b102_8 : X := (.seq (.seq (.reg [0, 1, 5, 6] (.c (.q 6 [] (.mv (.c (.int .i64 1)))) .nil)) t102_6) t102_7)
def t102_8 := b102_8
theorem u102_8 : vcK P t102_8 k e w = vcK P b102_8 k e w := rfl
abbrev b102_9 : X := (.seq (.reg [0, 1, 5] (.c (.q 5 [] (.mv (.s []))) .nil)) t102_8)
def t102_9 := b102_9
theorem u102_9 : vcK P t102_9 k e w = vcK P b102_9 k e w := rfl
abbrev b102_0 : X := (.seq (.reg [0, 1] (.c (.q 4 [] (.mv (.s []))) .nil)) t102_9)
def x_sl1Times := b102_0
theorem u102_0 : vcK P x_sl1Times k e w = vcK P b102_0 k e w := rfl
def r_sl1Times : List XO := [(.mv (.t 4))]
theorem c_sl1Times : convF Try.prog [54, 55, 58, 69, 70, 71, 72, 73, 84, 89, 94, 95, 113, 114, 115, 130, 134, 143, 146, 161] Try.f102 [([0, 1], []), ([0, 1, 5], []), ([0, 1, 5, 6], []), ([5, 6], [0, 1]), ([0, 1, 5, 6, 11], []), ([0, 1, 5, 6, 7], []), ([0, 1, 5, 6], []), ([0, 1, 5, 6], []), ([4], [])] = some (x_sl1Times, r_sl1Times) := by kernel_rfl
def us_sl1Times :=  (aI (aI (aI @u102_0 @u102_1) (aI @u102_2 (aI @u102_3 @u102_4))) (aI (aI @u102_5 @u102_6) (aI @u102_7 (aI @u102_8 @u102_9))))
end
/-- The first k bytes are digits from 1 to 8. -/
def DigUp (c : List UInt8) (k : Nat) : Prop := ∀ i < k, 49 ≤ (c.getD i 0).toNat ∧ (c.getD i 0).toNat ≤ 56
instance (c : List UInt8) (k : Nat) : Decidable (DigUp c k) := by unfold DigUp; infer_instance
theorem DigUp.succ {l : List UInt8} {k : Nat} (h : DigUp l k) (h1 : 49 ≤ (l.getD k 0).toNat ∧ (l.getD k 0).toNat ≤ 56) : DigUp l (k + 1) := fun i hi => by
  by_cases he : i = k
  · subst he; exact h1
  · exact h i (by omega)
theorem times_set {a b : List UInt8} {k : Nat} (h : k < b.length) : ((timesL a b).take k ++ List.replicate (b.length - k) 0).set k (a.getD (bell b k) 0) = (timesL a b).take (k + 1) ++ List.replicate (b.length - (k + 1)) 0 := by
  have := fill_set (timesL a b) 0 k (by rw [timesL_len]; exact h)
  rw [timesL_len, timesL_get a b k h] at this
  exact this
theorem itimes_ok (a b : List UInt8) (hb : IsRow b) (hab : a.length = b.length) (w : World) : Fn 110 [S a, S b] w (fun r _ => r = S (timesL a b)) := by
  (refine callsV_of mix Try.func110 c_itimes ?_; simp only [↓vsd, vsn, gW, qd, qv, ev, pick, argE, zipE, ne_eq, eq_self, forall_const, implies_true, if_true, if_false, reduceIte, reduceCtorEq, Nat.reduceEqDiff, Nat.reduceAdd, Nat.reduceLT, ↓us_itimes, r_itimes])
  have h8 := hb.1
  refine m_msl (f := fU) (B := w.heap.size) (0 : UInt8) fU_len rfl (by omega) (by decide) (Nat.le_refl _) ?_
  rintro vo w1 ho1 _ hx1
  simp only [↓vsd, vsn, gW, qd, qv, ev, pick, argE, zipE, ne_eq, eq_self, forall_const, implies_true, if_true, if_false, reduceIte, reduceCtorEq, Nat.reduceEqDiff, Nat.reduceAdd, Nat.reduceLT, ↓us_itimes, r_itimes, ho1.sq.facts]
  rw [List.length_replicate]
  refine m_upto b.length (fun k vs w' => vs = [.int .i64 k] ∧ Own fU 1 5 w.heap.size w' vo ((timesL a b).take k ++ List.replicate (b.length - k) 0) ∧ Ext w w') ⟨rfl, by simpa using ho1, hx1⟩ ?_
  rintro k vs w2 hk ⟨rfl, ho, hx⟩
  by_cases hlt : k < b.length
  · have hltI : (k : Int) < b.length := by omega
    have hltJ : ¬ (b.length : Int) ≤ k := by omega
    have hlen : ((timesL a b).take k ++ List.replicate (b.length - k) 0).length = b.length := by simp [timesL_len]; omega
    have hlow := hb.low hlt
    have hhigh := hb.high hlt
    have hbe : ((b.getD k 0).toNat : Int) - 49 = (bell b k : Nat) := by unfold bell; omega
    have hbl := hb.bell_lt hlt
    simp only [↓vsd, vsn, gW, qd, qv, ev, pick, argE, zipE, ne_eq, eq_self, forall_const, implies_true, if_true, if_false, reduceIte, reduceCtorEq, Nat.reduceEqDiff, Nat.reduceAdd, Nat.reduceLT, ↓us_itimes, r_itimes, hltI, hltJ, ho.sq.facts, hlen, hbe]
    refine ⟨by omega, inR_u8 (by omega), by omega, by omega, m_set1 k (a.getD (bell b k) 0) ho rfl (by omega) rfl fU_one ?_⟩
    rintro w3 ho3 hg3 hs3
    simp only [↓vsd, vsn, gW, qd, qv, ev, pick, argE, zipE, ne_eq, eq_self, forall_const, implies_true, if_true, if_false, reduceIte, reduceCtorEq, Nat.reduceEqDiff, Nat.reduceAdd, Nat.reduceLT, ↓us_itimes, r_itimes]
    exact ⟨inR_i64 (by omega), UpTo.next hlt ⟨rfl, ho3.to (times_set hlt), ho.grown hx (Nat.le_refl _) hg3⟩⟩
  · obtain rfl : k = b.length := by omega
    have hltI : ¬ (b.length : Int) < b.length := by omega
    simp only [↓vsd, vsn, gW, qd, qv, ev, pick, argE, zipE, ne_eq, eq_self, forall_const, implies_true, if_true, if_false, reduceIte, reduceCtorEq, Nat.reduceEqDiff, Nat.reduceAdd, Nat.reduceLT, ↓us_itimes, r_itimes, hltI]
    refine m_b2s ho.sq ?_
    simp only [↓vsd, vsn, gW, qd, qv, ev, pick, argE, zipE, ne_eq, eq_self, forall_const, implies_true, if_true, if_false, reduceIte, reduceCtorEq, Nat.reduceEqDiff, Nat.reduceAdd, Nat.reduceLT, ↓us_itimes, r_itimes]
    exact ⟨hx, by simp [timesL_len, List.take_of_length_le]⟩
theorem sl1At_ok (r : List UInt8) (p : Nat) (hp : 1 ≤ p ∧ p ≤ r.length) (hr : 48 ≤ (r.getD (p - 1) 0).toNat) (hl : r.length ≤ 1048576) (w : World) : Fn 62 [S r, .int .i64 p] w (fun v _ => v = .int .i64 (((r.getD (p - 1) 0).toNat : Int) - 48)) := by
  (refine callsV_of mix Try.func62 c_sl1At ?_; simp only [↓vsd, vsn, gW, qd, qv, ev, pick, argE, zipE, ne_eq, eq_self, forall_const, implies_true, if_true, if_false, reduceIte, reduceCtorEq, Nat.reduceEqDiff, Nat.reduceAdd, Nat.reduceLT, ↓us_sl1At, r_sl1At])
  have := (r.getD (p - 1) 0).toNat_lt
  exact ⟨inR_i64 (by omega), by omega, inR_u8 (by omega), inR_i64 (by omega), Ext.refl _⟩
theorem sl1Times_ok (a b : List UInt8) (hb : IsRow b) (hab : a.length = b.length) (w : World) : Fn 102 [S a, S b] w (fun r _ => r = S (timesL a b)) := by
  (refine callsV_of mix Try.func102 c_sl1Times ?_; simp only [↓vsd, vsn, gW, qd, qv, ev, pick, argE, zipE, ne_eq, eq_self, forall_const, implies_true, if_true, if_false, reduceIte, reduceCtorEq, Nat.reduceEqDiff, Nat.reduceAdd, Nat.reduceLT, ↓us_sl1Times, r_sl1Times])
  have h8 := hb.1
  refine m_upto b.length (fun k vs w' => vs = [S ((timesL a b).take k), .int .i64 (k + 1 : Nat)] ∧ Ext w w') ⟨rfl, Ext.refl _⟩ ?_
  rintro k vs w2 hk ⟨rfl, hx⟩
  simp only [↓vsd, vsn, gW, qd, qv, ev, pick, argE, zipE, ne_eq, eq_self, forall_const, implies_true, if_true, if_false, reduceIte, reduceCtorEq, Nat.reduceEqDiff, Nat.reduceAdd, Nat.reduceLT, ↓us_sl1Times, r_sl1Times]
  refine ⟨fun hle => m_call (sl1At_ok b (k + 1) (by omega) (by have := hb.low (show k + 1 - 1 < b.length by omega); omega) (by omega) _) ?_, fun hgt => ⟨hx, ?_⟩⟩
  · rintro _ w3 hx3 rfl
    rw [Nat.add_sub_cancel]
    have hlt : k < b.length := by omega
    have hlow := hb.low hlt
    have hhigh := hb.high hlt
    have hbe : ((b.getD k 0).toNat : Int) - 48 = (bell b k + 1 : Nat) := by unfold bell; omega
    have hbl := hb.bell_lt hlt
    rw [hbe]
    simp only [↓vsd, vsn, gW, qd, qv, ev, pick, argE, zipE, ne_eq, eq_self, forall_const, implies_true, if_true, if_false, reduceIte, reduceCtorEq, Nat.reduceEqDiff, Nat.reduceAdd, Nat.reduceLT, ↓us_sl1Times, r_sl1Times]
    rw [Nat.add_sub_cancel, sub_one a (bell b k) (by omega)]
    refine ⟨inR_i64 (by omega), by omega, by simp; omega, inR_i64 (by omega), UpTo.next hlt ⟨?_, hx.trans hx3⟩⟩
    rw [List.take_add_one, List.getElem?_eq_getElem (by rw [timesL_len]; exact hlt), ← timesL_get a b k hlt, List.getD_eq_getElem?_getD, List.getElem?_eq_getElem (by rw [timesL_len]; exact hlt)]
    rfl
  · rw [List.take_of_length_le (by rw [timesL_len]; omega)]
end Go.Proofs.Ythopbkemkfjebaa
