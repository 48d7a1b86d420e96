/-
  Lists of texts: the laws' helpers (size, copy, comparison, marks) and lists of rows.
  Conditions: none.
-/
import Derived.Test.YthopbkemkfjebaaKA1
set_option linter.unusedSimpArgs false
set_option linter.unusedVariables false
set_option linter.defProp false
namespace Go.Proofs.Ythopbkemkfjebaa
open Go Go.RowKit
section
variable (P : Program) (k : KT) (e : Env) (w : World)
abbrev b148_1 : X := (.cond (.t 11) (.seq (.reg [4] (.c (.q 4 [] (.mv (.c (.int .i64 (-1))))) .nil)) .ret) .skip)
def t148_1 := b148_1
theorem u148_1 : vcK P t148_1 k e w = vcK P b148_1 k e w := rfl
abbrev b148_2 : X := (.cond (.t 15) .skip (.exit 0))
def t148_2 := b148_2
theorem u148_2 : vcK P t148_2 k e w = vcK P b148_2 k e w := rfl
abbrev b148_3 : X := (.cond (.t 26) (.seq (.reg [4] (.c (.q 4 [] (.mv (.c (.int .i64 (-1))))) .nil)) .ret) .skip)
def t148_3 := b148_3
theorem u148_3 : vcK P t148_3 k e w = vcK P b148_3 k e w := rfl
abbrev b148_4 : X := (.seq (.reg [0, 1, 5, 26] (.c (.q 25 [] (.mv (.t 1))) (.c (.q 26 [] (.bin .lss (.t 25) (.c (.int .i64 0)))) .nil))) t148_3)
def t148_4 := b148_4
theorem u148_4 : vcK P t148_4 k e w = vcK P b148_4 k e w := rfl
abbrev b148_5 : X := (.reg [0, 1, 5] (.c (.q 16 [] (.mv (.t 5))) (.c (.q 17 [] (.bin .add (.t 16) (.c (.int .i64 1)))) (.c (.q 5 [] (.mv (.t 17))) .nil))))
def t148_5 := b148_5
theorem u148_5 : vcK P t148_5 k e w = vcK P b148_5 k e w := rfl
abbrev b148_6 : X := (.seq (.blk 1 (.seq (.reg [0, 1, 5] (.c (.q 18 [] (.mv (.t 1))) (.c (.q 19 [] (.mv (.t 0))) (.c (.q 20 [] (.mv (.t 5))) (.c (.q 21 [] (.ia 1 (.t 19) (.t 20))) (.c (.q 22 [] (.ld (.t 21))) (.c (.q 23 [] (.len (.t 22))) (.c (.q 24 [] (.bin .sub (.t 18) (.t 23))) (.c (.q 1 [] (.mv (.t 24))) .nil))))))))) t148_4)) t148_5)
def t148_6 := b148_6
theorem u148_6 : vcK P t148_6 k e w = vcK P b148_6 k e w := rfl
abbrev b148_7 : X := (.seq (.seq (.reg [0, 1, 5, 15] (.c (.q 12 [] (.mv (.t 5))) (.c (.q 13 [] (.mv (.t 0))) (.c (.q 14 [] (.lens (.t 13))) (.c (.q 15 [] (.bin .lss (.t 12) (.t 14))) .nil))))) t148_2) t148_6)
def t148_7 := b148_7
theorem u148_7 : vcK P t148_7 k e w = vcK P b148_7 k e w := rfl
abbrev b148_8 : X := (.blk 0 (.loop [1, 5] [0] t148_7))
def t148_8 := b148_8
theorem u148_8 : vcK P t148_8 k e w = vcK P b148_8 k e w := rfl
abbrev b148_9 : X := (.seq (.reg [4] (.c (.q 27 [] (.mv (.t 1))) (.c (.q 4 [] (.mv (.t 27))) .nil))) .ret)
def t148_9 := b148_9
theorem u148_9 : vcK P t148_9 k e w = vcK P b148_9 k e w := rfl
abbrev b148_10 : X := (.seq (.seq (.reg [0, 1, 5] (.c (.q 5 [] (.mv (.c (.int .i64 0)))) .nil)) t148_8) t148_9)
def t148_10 := b148_10
theorem u148_10 : vcK P t148_10 k e w = vcK P b148_10 k e w := rfl
abbrev b148_11 : X := (.seq (.seq (.reg [0, 1, 11] (.c (.q 10 [] (.mv (.t 1))) (.c (.q 11 [] (.bin .lss (.t 10) (.c (.int .i64 0)))) .nil))) t148_1) t148_10)
def t148_11 := b148_11
theorem u148_11 : vcK P t148_11 k e w = vcK P b148_11 k e w := rfl
abbrev b148_12 : X := (.seq (.reg [0, 1] (.c (.q 6 [] (.mv (.t 1))) (.c (.q 7 [] (.mv (.t 0))) (.c (.q 8 [] (.lens (.t 7))) (.c (.q 9 [] (.bin .sub (.t 6) (.t 8))) (.c (.q 1 [] (.mv (.t 9))) .nil)))))) t148_11)
def t148_12 := b148_12
theorem u148_12 : vcK P t148_12 k e w = vcK P b148_12 k e w := rfl
abbrev b148_0 : X := (.seq (.reg [0, 1] (.c (.q 4 [] (.mv (.c (.int .i64 0)))) .nil)) t148_12)
def x_lszStringS := b148_0
theorem u148_0 : vcK P x_lszStringS k e w = vcK P b148_0 k e w := rfl
def r_lszStringS : List XO := [(.mv (.t 4))]
theorem c_lszStringS : convF Try.prog [54, 55, 58, 69, 70, 71, 72, 73, 84, 89, 94, 95, 113, 114, 115, 130, 134, 143, 146, 161] Try.f148 [([0, 1], []), ([0, 1], []), ([0, 1, 11], []), ([4], []), ([0, 1, 5], []), ([1, 5], [0]), ([0, 1, 5, 15], []), ([0, 1, 5], []), ([0, 1, 5, 26], []), ([4], []), ([0, 1, 5], []), ([4], [])] = some (x_lszStringS, r_lszStringS) := by kernel_rfl
def us_lszStringS :=  (aI (aI (aI @u148_0 (aI @u148_1 @u148_2)) (aI @u148_3 (aI @u148_4 @u148_5))) (aI (aI @u148_6 (aI @u148_7 @u148_8)) (aI (aI @u148_9 @u148_10) (aI @u148_11 @u148_12))))
abbrev b155_1 : X := (.cond (.t 11) .skip (.exit 0))
def t155_1 := b155_1
theorem u155_1 : vcK P t155_1 k e w = vcK P b155_1 k e w := rfl
abbrev b155_2 : X := (.reg [0, 3, 4] (.c (.q 12 [] (.mv (.t 4))) (.c (.q 13 [] (.bin .add (.t 12) (.c (.int .i64 1)))) (.c (.q 4 [] (.mv (.t 13))) .nil))))
def t155_2 := b155_2
theorem u155_2 : vcK P t155_2 k e w = vcK P b155_2 k e w := rfl
abbrev b155_3 : X := (.seq (.blk 1 (.reg [0, 3, 4] (.c (.q 14 [] (.mv (.t 3))) (.c (.q 15 [] (.mv (.t 4))) (.c (.q 16 [] (.mv (.t 0))) (.c (.q 17 [] (.mv (.t 4))) (.c (.q 18 [] (.ia 1 (.t 16) (.t 17))) (.c (.q 19 [] (.ld (.t 18))) (.c (.q 20 [] (.ia 1 (.t 14) (.t 15))) (.c (.e none [] (.st 1 (.t 20) (.t 19))) .nil)))))))))) t155_2)
def t155_3 := b155_3
theorem u155_3 : vcK P t155_3 k e w = vcK P b155_3 k e w := rfl
abbrev b155_4 : X := (.seq (.seq (.reg [0, 3, 4, 11] (.c (.q 8 [] (.mv (.t 4))) (.c (.q 9 [] (.mv (.t 0))) (.c (.q 10 [] (.lens (.t 9))) (.c (.q 11 [] (.bin .lss (.t 8) (.t 10))) .nil))))) t155_1) t155_3)
def t155_4 := b155_4
theorem u155_4 : vcK P t155_4 k e w = vcK P b155_4 k e w := rfl
abbrev b155_5 : X := (.blk 0 (.loop [4] [0, 3] t155_4))
def t155_5 := b155_5
theorem u155_5 : vcK P t155_5 k e w = vcK P b155_5 k e w := rfl
abbrev b155_6 : X := (.seq (.reg [2] (.c (.q 21 [] (.mv (.t 3))) (.c (.q 2 [] (.mv (.t 21))) .nil))) .ret)
def t155_6 := b155_6
theorem u155_6 : vcK P t155_6 k e w = vcK P b155_6 k e w := rfl
abbrev b155_7 : X := (.seq (.seq (.reg [0, 3, 4] (.c (.q 4 [] (.mv (.c (.int .i64 0)))) .nil)) t155_5) t155_6)
def t155_7 := b155_7
theorem u155_7 : vcK P t155_7 k e w = vcK P b155_7 k e w := rfl
abbrev b155_8 : X := (.seq (.reg [0, 3] (.c (.q 5 [] (.mv (.t 0))) (.c (.q 6 [] (.lens (.t 5))) (.c (.e (some 7) [] (.msl 24 9 1 16 [(S [])] (.t 6) (.t 6))) (.c (.q 3 [] (.mv (.t 7))) .nil))))) t155_7)
def t155_8 := b155_8
theorem u155_8 : vcK P t155_8 k e w = vcK P b155_8 k e w := rfl
abbrev b155_0 : X := (.seq (.reg [0] (.c (.q 2 [] (.mv (.c (.slice none 0 0)))) .nil)) t155_8)
def x_ltoStringS := b155_0
theorem u155_0 : vcK P x_ltoStringS k e w = vcK P b155_0 k e w := rfl
def r_ltoStringS : List XO := [(.mv (.t 2))]
theorem c_ltoStringS : convF Try.prog [54, 55, 58, 69, 70, 71, 72, 73, 84, 89, 94, 95, 113, 114, 115, 130, 134, 143, 146, 161] Try.f155 [([0], []), ([0, 3], []), ([0, 3, 4], []), ([4], [0, 3]), ([0, 3, 4, 11], []), ([0, 3, 4], []), ([0, 3, 4], []), ([2], [])] = some (x_ltoStringS, r_ltoStringS) := by kernel_rfl
def us_ltoStringS :=  (aI (aI (aI @u155_0 @u155_1) (aI @u155_2 @u155_3)) (aI (aI @u155_4 @u155_5) (aI @u155_6 (aI @u155_7 @u155_8))))
abbrev b160_1 : X := (.cond (.t 10) (.seq (.reg [4] (.c (.q 4 [] (.mv (.c (.bool false)))) .nil)) .ret) .skip)
def t160_1 := b160_1
theorem u160_1 : vcK P t160_1 k e w = vcK P b160_1 k e w := rfl
abbrev b160_2 : X := (.cond (.t 14) .skip (.exit 0))
def t160_2 := b160_2
theorem u160_2 : vcK P t160_2 k e w = vcK P b160_2 k e w := rfl
abbrev b160_3 : X := (.cond (.t 25) (.seq (.reg [4] (.c (.q 4 [] (.mv (.c (.bool false)))) .nil)) .ret) .skip)
def t160_3 := b160_3
theorem u160_3 : vcK P t160_3 k e w = vcK P b160_3 k e w := rfl
abbrev b160_4 : X := (.reg [0, 1, 5] (.c (.q 15 [] (.mv (.t 5))) (.c (.q 16 [] (.bin .add (.t 15) (.c (.int .i64 1)))) (.c (.q 5 [] (.mv (.t 16))) .nil))))
def t160_4 := b160_4
theorem u160_4 : vcK P t160_4 k e w = vcK P b160_4 k e w := rfl
abbrev b160_5 : X := (.seq (.blk 1 (.seq (.drw [0, 1, 5, 25] (.c (.q 17 [] (.mv (.t 0))) (.c (.q 18 [] (.mv (.t 5))) (.c (.q 19 [] (.ia 1 (.t 17) (.t 18))) (.c (.q 20 [] (.ld (.t 19))) (.c (.q 21 [] (.mv (.t 1))) (.c (.q 22 [] (.mv (.t 5))) (.c (.q 23 [] (.ia 1 (.t 21) (.t 22))) (.c (.q 24 [] (.ld (.t 23))) (.c (.q 25 [] (.bin .neq (.t 20) (.t 24))) .nil)))))))))) t160_3)) t160_4)
def t160_5 := b160_5
theorem u160_5 : vcK P t160_5 k e w = vcK P b160_5 k e w := rfl
abbrev b160_6 : X := (.seq (.seq (.reg [0, 1, 5, 14] (.c (.q 11 [] (.mv (.t 5))) (.c (.q 12 [] (.mv (.t 0))) (.c (.q 13 [] (.lens (.t 12))) (.c (.q 14 [] (.bin .lss (.t 11) (.t 13))) .nil))))) t160_2) t160_5)
def t160_6 := b160_6
theorem u160_6 : vcK P t160_6 k e w = vcK P b160_6 k e w := rfl
abbrev b160_7 : X := (.blk 0 (.loop [5] [0, 1] t160_6))
def t160_7 := b160_7
theorem u160_7 : vcK P t160_7 k e w = vcK P b160_7 k e w := rfl
abbrev b160_8 : X := (.seq (.reg [4] (.c (.q 4 [] (.mv (.c (.bool true)))) .nil)) .ret)
def t160_8 := b160_8
theorem u160_8 : vcK P t160_8 k e w = vcK P b160_8 k e w := rfl
abbrev b160_9 : X := (.seq (.seq (.reg [0, 1, 5] (.c (.q 5 [] (.mv (.c (.int .i64 0)))) .nil)) t160_7) t160_8)
def t160_9 := b160_9
theorem u160_9 : vcK P t160_9 k e w = vcK P b160_9 k e w := rfl
abbrev b160_10 : X := (.seq (.seq (.reg [0, 1, 10] (.c (.q 6 [] (.mv (.t 0))) (.c (.q 7 [] (.lens (.t 6))) (.c (.q 8 [] (.mv (.t 1))) (.c (.q 9 [] (.lens (.t 8))) (.c (.q 10 [] (.bin .neq (.t 7) (.t 9))) .nil)))))) t160_1) t160_9)
def t160_10 := b160_10
theorem u160_10 : vcK P t160_10 k e w = vcK P b160_10 k e w := rfl
abbrev b160_0 : X := (.seq (.reg [0, 1] (.c (.q 4 [] (.mv (.c (.bool false)))) .nil)) t160_10)
def x_leqStringS := b160_0
theorem u160_0 : vcK P x_leqStringS k e w = vcK P b160_0 k e w := rfl
def r_leqStringS : List XO := [(.mv (.t 4))]
theorem c_leqStringS : convF Try.prog [54, 55, 58, 69, 70, 71, 72, 73, 84, 89, 94, 95, 113, 114, 115, 130, 134, 143, 146, 161] Try.f160 [([0, 1], []), ([0, 1, 10], []), ([4], []), ([0, 1, 5], []), ([5], [0, 1]), ([0, 1, 5, 14], []), ([0, 1, 5, 25], []), ([4], []), ([0, 1, 5], []), ([4], [])] = some (x_leqStringS, r_leqStringS) := by kernel_rfl
def us_leqStringS :=  (aI (aI (aI @u160_0 @u160_1) (aI @u160_2 (aI @u160_3 @u160_4))) (aI (aI @u160_5 (aI @u160_6 @u160_7)) (aI @u160_8 (aI @u160_9 @u160_10))))
end
theorem getD_mem {α : Type} {l : List α} {k : Nat} (d : α) (h : k < l.length) : l.getD k d ∈ l := by rw [List.getD_eq_getElem?_getD, List.getElem?_eq_getElem h]; exact List.getElem_mem h
theorem mem_take {α : Type} {l : List α} {k : Nat} {d x : α} (h : k < l.length) (hx : x ∈ l.take (k + 1)) : x ∈ l.take k ∨ x = l.getD k d := by
  rw [List.take_add_one, List.getElem?_eq_getElem h] at hx
  rcases List.mem_append.1 hx with h' | h'
  · exact .inl h'
  · rw [List.getD_eq_getElem?_getD, List.getElem?_eq_getElem h]
    exact .inr (by simpa using h')
theorem fill_set {α : Type} (l : List α) (d : α) (k : Nat) (h : k < l.length) : (l.take k ++ List.replicate (l.length - k) d).set k (l.getD k d) = l.take (k + 1) ++ List.replicate (l.length - (k + 1)) d := by
  rw [List.set_append_right _ _ (by simp; omega), List.length_take, Nat.min_eq_left (by omega), Nat.sub_self, show l.length - k = (l.length - (k + 1)) + 1 by omega, List.replicate_succ, List.set_cons_zero, List.take_add_one, List.getElem?_eq_getElem h, List.getD_eq_getElem?_getD, List.getElem?_eq_getElem h]
  simp only [Option.toList_some, Option.getD_some, List.append_assoc, List.cons_append, List.nil_append]
theorem ne_at {α : Type} {l l' : List α} {d : α} (k : Nat) (h : ¬ l.getD k d = l'.getD k d) : ¬ l = l' := fun e => h (by rw [e])
theorem eq_take {α : Type} {l l' : List α} {d : α} {k : Nat} (h : l.take k = l'.take k) (h1 : k < l.length) (h2 : k < l'.length) (e : l.getD k d = l'.getD k d) : l.take (k + 1) = l'.take (k + 1) := by
  rw [List.getD_eq_getElem?_getD, List.getD_eq_getElem?_getD, List.getElem?_eq_getElem h1, List.getElem?_eq_getElem h2, Option.getD_some, Option.getD_some] at e
  rw [List.take_add_one, List.take_add_one, h, List.getElem?_eq_getElem h1, List.getElem?_eq_getElem h2, e]
theorem eq_len {α : Type} {l l' : List α} (h : l.take l.length = l'.take l.length) (e : l.length = l'.length) : l = l' := by
  rw [List.take_length, e, List.take_length] at h; exact h
theorem ltoStringS_ok (v : Value) (l : List (List UInt8)) (hl : l.length ≤ 1048576) (w : World) (h : Sq fS 1 w v l) : Fn 155 [v] w (fun v' w' => Own fS 1 9 w.heap.size w' v' l) := by
  (refine callsV_of mix Try.func155 c_ltoStringS ?_; simp only [↓vsd, vsn, gW, qd, qv, ev, pick, argE, zipE, ne_eq, eq_self, forall_const, implies_true, if_true, if_false, reduceIte, reduceCtorEq, Nat.reduceEqDiff, Nat.reduceAdd, Nat.reduceLT, ↓us_ltoStringS, r_ltoStringS])
  simp only [↓vsd, vsn, gW, qd, qv, ev, pick, argE, zipE, ne_eq, eq_self, forall_const, implies_true, if_true, if_false, reduceIte, reduceCtorEq, Nat.reduceEqDiff, Nat.reduceAdd, Nat.reduceLT, ↓us_ltoStringS, r_ltoStringS, h.facts]
  refine m_msl (f := fS) (B := w.heap.size) [] fS_len rfl (by omega) (by decide) (Nat.le_refl _) ?_
  rintro vo w1 ho1 _ hx1
  simp only [↓vsd, vsn, gW, qd, qv, ev, pick, argE, zipE, ne_eq, eq_self, forall_const, implies_true, if_true, if_false, reduceIte, reduceCtorEq, Nat.reduceEqDiff, Nat.reduceAdd, Nat.reduceLT, ↓us_ltoStringS, r_ltoStringS]
  refine m_upto l.length (fun k vs w' => vs = [.int .i64 k] ∧ Own fS 1 9 w.heap.size w' vo (l.take k ++ List.replicate (l.length - k) []) ∧ Ext w w') ⟨rfl, by simpa using ho1, hx1⟩ ?_
  rintro k vs w2 hk ⟨rfl, ho2, hx2⟩
  have hq := h.ext hx2
  by_cases hlt : k < l.length
  · have hltI : (k : Int) < l.length := by omega
    have hltJ : ¬ (l.length : Int) ≤ k := by omega
    have hlen : (l.take k ++ List.replicate (l.length - k) ([] : List UInt8)).length = l.length := by simp; omega
    simp only [↓vsd, vsn, gW, qd, qv, ev, pick, argE, zipE, ne_eq, eq_self, forall_const, implies_true, if_true, if_false, reduceIte, reduceCtorEq, Nat.reduceEqDiff, Nat.reduceAdd, Nat.reduceLT, ↓us_ltoStringS, r_ltoStringS, hq.facts, hq.at1 [] hlt, hltI, hltJ, ho2.sq.facts, hlen]
    refine ⟨by omega, by omega, m_set1 k (l.getD k []) ho2 rfl (by omega) rfl fS_one ?_⟩
    rintro w4 ho4 hg4 _
    simp only [↓vsd, vsn, gW, qd, qv, ev, pick, argE, zipE, ne_eq, eq_self, forall_const, implies_true, if_true, if_false, reduceIte, reduceCtorEq, Nat.reduceEqDiff, Nat.reduceAdd, Nat.reduceLT, ↓us_ltoStringS, r_ltoStringS]
    refine ⟨inR_i64 (by omega), UpTo.next hlt ⟨rfl, ho4.to (fill_set l [] k hlt), ho2.grown hx2 (Nat.le_refl _) hg4⟩⟩
  · obtain rfl : k = l.length := by omega
    have hltI : ¬ (l.length : Int) < l.length := by omega
    simp only [↓vsd, vsn, gW, qd, qv, ev, pick, argE, zipE, ne_eq, eq_self, forall_const, implies_true, if_true, if_false, reduceIte, reduceCtorEq, Nat.reduceEqDiff, Nat.reduceAdd, Nat.reduceLT, ↓us_ltoStringS, r_ltoStringS, hq.facts, hltI]
    exact ⟨hx2, ho2.to (by simp)⟩
theorem leqStringS_ok (v1 v2 : Value) (l1 l2 : List (List UInt8)) (w : World) (h1 : Sq fS 1 w v1 l1) (h2 : Sq fS 1 w v2 l2) (hl : l1.length ≤ 1000000000) : Fn 160 [v1, v2] w (fun v _ => v = .bool (decide (l1 = l2))) := by
  (refine callsV_of mix Try.func160 c_leqStringS ?_; simp only [↓vsd, vsn, gW, qd, qv, ev, pick, argE, zipE, ne_eq, eq_self, forall_const, implies_true, if_true, if_false, reduceIte, reduceCtorEq, Nat.reduceEqDiff, Nat.reduceAdd, Nat.reduceLT, ↓us_leqStringS, r_leqStringS])
  simp only [↓vsd, vsn, gW, qd, qv, ev, pick, argE, zipE, ne_eq, eq_self, forall_const, implies_true, if_true, if_false, reduceIte, reduceCtorEq, Nat.reduceEqDiff, Nat.reduceAdd, Nat.reduceLT, ↓us_leqStringS, r_leqStringS, h1.facts, h2.facts]
  refine ⟨fun hne => ⟨Ext.refl _, ?_⟩, fun he => ?_⟩
  · have : ¬ l1 = l2 := fun e => hne (by rw [e])
    simp [this]
  refine m_upto l1.length (fun k vs w' => vs = [.int .i64 k] ∧ l1.take k = l2.take k ∧ Ext w w') ⟨rfl, rfl, Ext.refl _⟩ ?_
  rintro k vs w3 hk ⟨rfl, heq, hx⟩
  have g1 := h1.ext hx
  have g2 := h2.ext hx
  by_cases hlt : k < l1.length
  · have hlt2 : k < l2.length := by omega
    have hltI : (k : Int) < l1.length := by omega
    have hltJ : ¬ (l1.length : Int) ≤ k := by omega
    simp only [↓vsd, vsn, gW, qd, qv, ev, pick, argE, zipE, ne_eq, eq_self, forall_const, implies_true, if_true, if_false, reduceIte, reduceCtorEq, Nat.reduceEqDiff, Nat.reduceAdd, Nat.reduceLT, ↓us_leqStringS, r_leqStringS, g1.facts, g2.facts, g1.at1 [] hlt, g2.at1 [] hlt2, hltI, hltJ]
    exact ⟨by omega, by omega, fun hne => ⟨hx, by simp [ne_at k hne]⟩, fun he2 => ⟨inR_i64 (by omega), UpTo.next hlt ⟨rfl, eq_take heq hlt hlt2 he2, dr hx⟩⟩⟩
  · obtain rfl : k = l1.length := by omega
    have hltI : ¬ (l1.length : Int) < l1.length := by omega
    simp only [↓vsd, vsn, gW, qd, qv, ev, pick, argE, zipE, ne_eq, eq_self, forall_const, implies_true, if_true, if_false, reduceIte, reduceCtorEq, Nat.reduceEqDiff, Nat.reduceAdd, Nat.reduceLT, ↓us_leqStringS, r_leqStringS, g1.facts, hltI]
    exact ⟨hx, by simp [eq_len heq (by omega)]⟩
theorem grown_trans {a b c : World} {row : Option Nat} (h : a.grownBy b row) (k : b.grownBy c row) : a.grownBy c row :=
  ⟨k.os.trans h.os, k.tape.trans h.tape, k.output.trans h.output, Nat.le_trans h.size k.size, fun i hi hr => (k.block i (Nat.lt_of_lt_of_le hi h.size) hr).trans (h.block i hi hr)⟩
def IsRows (l : List (List UInt8)) : Prop := (∀ r ∈ l, IsRow r ∧ r.length = (l.getD 0 []).length) ∧ l.length ≤ 800
instance (l : List (List UInt8)) : Decidable (IsRows l) := by unfold IsRows; infer_instance
end Go.Proofs.Ythopbkemkfjebaa
