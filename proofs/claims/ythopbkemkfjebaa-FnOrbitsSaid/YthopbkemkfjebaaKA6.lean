/-
  Lists of texts: the laws' helpers (size, copy, comparison, marks) and lists of rows.
  Conditions: none.
-/
import Derived.Test.YthopbkemkfjebaaKA1
set_option linter.unusedSimpArgs false
set_option linter.unusedVariables false
set_option linter.defProp false
namespace Go.Proofs.Ythopbkemkfjebaa
open Go Go.RowKit
section
variable (P : Program) (k : KT) (e : Env) (w : World)
abbrev b60_1 : X := (.cond (.t 22) (.seq (.reg [2] (.c (.q 2 [] (.mv (.c (.bool false)))) .nil)) .ret) .skip)
def t60_1 := b60_1
theorem u60_1 : vcK P t60_1 k e w = vcK P b60_1 k e w := rfl
abbrev b60_2 : X := (.seq (.reg [0, 5, 6, 7, 22] (.c (.q 11 [] (.mv (.t 4))) (.c (.e (some 12) [] (.call false 76 [(.t 11)])) (.c (.q 13 [] (.not (.t 12))) (.c (.q 14 [] (.mv (.t 13))) (.c (.q 15 [(14, false)] (.mv (.t 4))) (.c (.q 16 [(14, false)] (.len (.t 15))) (.c (.q 17 [(14, false)] (.mv (.t 0))) (.c (.q 18 [(14, false)] (.ia 1 (.t 17) (.c (.int .i64 0)))) (.c (.q 19 [(14, false)] (.ld (.t 18))) (.c (.q 20 [(14, false)] (.len (.t 19))) (.c (.q 21 [(14, false)] (.bin .neq (.t 16) (.t 20))) (.c (.q 22 [] (.pick (.t 14) (.c (.bool true)) (.t 21))) .nil))))))))))))) t60_1)
def t60_2 := b60_2
theorem u60_2 : vcK P t60_2 k e w = vcK P b60_2 k e w := rfl
abbrev b60_3 : X := (.reg [0, 5, 6, 7] (.c (.q 23 [] (.bin .add (.t 7) (.c (.int .i64 1)))) (.c (.q 7 [] (.mv (.t 23))) .nil)))
def t60_3 := b60_3
theorem u60_3 : vcK P t60_3 k e w = vcK P b60_3 k e w := rfl
abbrev b60_4 : X := (.seq (.blk 1 (.seq (.reg [0, 4, 5, 6, 7] (.c (.q 9 [] (.ia 1 (.t 5) (.t 7))) (.c (.q 10 [] (.ld (.t 9))) (.c (.q 4 [] (.mv (.t 10))) .nil)))) t60_2)) t60_3)
def t60_4 := b60_4
theorem u60_4 : vcK P t60_4 k e w = vcK P b60_4 k e w := rfl
abbrev b60_5 : X := (.seq (.cond (.t 8) .skip (.exit 0)) t60_4)
def t60_5 := b60_5
theorem u60_5 : vcK P t60_5 k e w = vcK P b60_5 k e w := rfl
abbrev b60_6 : X := (.seq (.reg [0, 5, 6, 7, 8] (.c (.q 8 [] (.bin .lss (.t 7) (.t 6))) .nil)) t60_5)
def t60_6 := b60_6
theorem u60_6 : vcK P t60_6 k e w = vcK P b60_6 k e w := rfl
abbrev b60_7 : X := (.blk 0 (.loop [7] [0, 5, 6] t60_6))
def t60_7 := b60_7
theorem u60_7 : vcK P t60_7 k e w = vcK P b60_7 k e w := rfl
abbrev b60_8 : X := (.seq (.reg [2] (.c (.q 24 [] (.mv (.t 0))) (.c (.q 25 [] (.lens (.t 24))) (.c (.q 26 [] (.bin .leq (.t 25) (.c (.int .i64 800)))) (.c (.q 2 [] (.mv (.t 26))) .nil))))) .ret)
def t60_8 := b60_8
theorem u60_8 : vcK P t60_8 k e w = vcK P b60_8 k e w := rfl
abbrev b60_9 : X := (.seq (.seq (.reg [0, 5, 6, 7] (.c (.q 5 [] (.mv (.t 0))) (.c (.q 6 [] (.lens (.t 5))) (.c (.q 7 [] (.mv (.c (.int .i64 0)))) .nil)))) t60_7) t60_8)
def t60_9 := b60_9
theorem u60_9 : vcK P t60_9 k e w = vcK P b60_9 k e w := rfl
abbrev b60_0 : X := (.seq (.reg [0] (.c (.q 2 [] (.mv (.c (.bool false)))) .nil)) t60_9)
def x_sl6Rows := b60_0
theorem u60_0 : vcK P x_sl6Rows k e w = vcK P b60_0 k e w := rfl
def r_sl6Rows : List XO := [(.mv (.t 2))]
theorem c_sl6Rows : convF Try.prog [54, 55, 58, 69, 70, 71, 72, 73, 84, 89, 94, 95, 113, 114, 115, 130, 134, 143, 146, 161] Try.f60 [([0], []), ([0, 5, 6, 7], []), ([7], [0, 5, 6]), ([0, 5, 6, 7, 8], []), ([0, 4, 5, 6, 7], []), ([0, 5, 6, 7, 22], []), ([2], []), ([0, 5, 6, 7], []), ([2], [])] = some (x_sl6Rows, r_sl6Rows) := by kernel_rfl
def us_sl6Rows :=  (aI (aI (aI @u60_0 @u60_1) (aI @u60_2 (aI @u60_3 @u60_4))) (aI (aI @u60_5 @u60_6) (aI @u60_7 (aI @u60_8 @u60_9))))
abbrev b64_1 : X := (.cond (.t 7) (.seq (.reg [2] (.c (.q 2 [] (.mv (.c (.bool false)))) .nil)) .ret) .skip)
def t64_1 := b64_1
theorem u64_1 : vcK P t64_1 k e w = vcK P b64_1 k e w := rfl
abbrev b64_2 : X := (.cond (.t 20) (.seq (.reg [2] (.c (.q 2 [] (.mv (.c (.bool false)))) .nil)) .ret) .skip)
def t64_2 := b64_2
theorem u64_2 : vcK P t64_2 k e w = vcK P b64_2 k e w := rfl
abbrev b64_3 : X := (.seq (.reg [0, 8, 9, 10, 20] (.c (.q 14 [] (.mv (.t 0))) (.c (.q 15 [] (.ia 1 (.t 14) (.c (.int .i64 0)))) (.c (.q 16 [] (.ld (.t 15))) (.c (.q 17 [] (.len (.t 16))) (.c (.q 18 [] (.mv (.t 4))) (.c (.e (some 19) [] (.call false 133 [(.t 17), (.t 18)])) (.c (.q 20 [] (.not (.t 19))) .nil)))))))) t64_2)
def t64_3 := b64_3
theorem u64_3 : vcK P t64_3 k e w = vcK P b64_3 k e w := rfl
abbrev b64_4 : X := (.reg [0, 8, 9, 10] (.c (.q 21 [] (.bin .add (.t 10) (.c (.int .i64 1)))) (.c (.q 10 [] (.mv (.t 21))) .nil)))
def t64_4 := b64_4
theorem u64_4 : vcK P t64_4 k e w = vcK P b64_4 k e w := rfl
abbrev b64_5 : X := (.seq (.blk 1 (.seq (.reg [0, 4, 8, 9, 10] (.c (.q 12 [] (.ia 1 (.t 8) (.t 10))) (.c (.q 13 [] (.ld (.t 12))) (.c (.q 4 [] (.mv (.t 13))) .nil)))) t64_3)) t64_4)
def t64_5 := b64_5
theorem u64_5 : vcK P t64_5 k e w = vcK P b64_5 k e w := rfl
abbrev b64_6 : X := (.seq (.cond (.t 11) .skip (.exit 0)) t64_5)
def t64_6 := b64_6
theorem u64_6 : vcK P t64_6 k e w = vcK P b64_6 k e w := rfl
abbrev b64_7 : X := (.seq (.reg [0, 8, 9, 10, 11] (.c (.q 11 [] (.bin .lss (.t 10) (.t 9))) .nil)) t64_6)
def t64_7 := b64_7
theorem u64_7 : vcK P t64_7 k e w = vcK P b64_7 k e w := rfl
abbrev b64_8 : X := (.blk 0 (.loop [10] [0, 8, 9] t64_7))
def t64_8 := b64_8
theorem u64_8 : vcK P t64_8 k e w = vcK P b64_8 k e w := rfl
abbrev b64_9 : X := (.seq (.reg [2] (.c (.q 2 [] (.mv (.c (.bool true)))) .nil)) .ret)
def t64_9 := b64_9
theorem u64_9 : vcK P t64_9 k e w = vcK P b64_9 k e w := rfl
abbrev b64_10 : X := (.seq (.seq (.reg [0, 8, 9, 10] (.c (.q 8 [] (.mv (.t 0))) (.c (.q 9 [] (.lens (.t 8))) (.c (.q 10 [] (.mv (.c (.int .i64 0)))) .nil)))) t64_8) t64_9)
def t64_10 := b64_10
theorem u64_10 : vcK P t64_10 k e w = vcK P b64_10 k e w := rfl
abbrev b64_11 : X := (.seq (.seq (.reg [0, 7] (.c (.q 5 [] (.mv (.t 0))) (.c (.q 6 [] (.lens (.t 5))) (.c (.q 7 [] (.bin .gtr (.t 6) (.c (.int .i64 800)))) .nil)))) t64_1) t64_10)
def t64_11 := b64_11
theorem u64_11 : vcK P t64_11 k e w = vcK P b64_11 k e w := rfl
abbrev b64_0 : X := (.seq (.reg [0] (.c (.q 2 [] (.mv (.c (.bool false)))) .nil)) t64_11)
def x_iGoodRows := b64_0
theorem u64_0 : vcK P x_iGoodRows k e w = vcK P b64_0 k e w := rfl
def r_iGoodRows : List XO := [(.mv (.t 2))]
theorem c_iGoodRows : convF Try.prog [54, 55, 58, 69, 70, 71, 72, 73, 84, 89, 94, 95, 113, 114, 115, 130, 134, 143, 146, 161] Try.f64 [([0], []), ([0, 7], []), ([2], []), ([0, 8, 9, 10], []), ([10], [0, 8, 9]), ([0, 8, 9, 10, 11], []), ([0, 4, 8, 9, 10], []), ([0, 8, 9, 10, 20], []), ([2], []), ([0, 8, 9, 10], []), ([2], [])] = some (x_iGoodRows, r_iGoodRows) := by kernel_rfl
def us_iGoodRows :=  (aI (aI (aI @u64_0 (aI @u64_1 @u64_2)) (aI @u64_3 (aI @u64_4 @u64_5))) (aI (aI @u64_6 (aI @u64_7 @u64_8)) (aI @u64_9 (aI @u64_10 @u64_11))))
abbrev b133_1 : X := (.seq (.reg [4] (.c (.q 5 [] (.mv (.t 1))) (.c (.q 6 [] (.len (.t 5))) (.c (.q 7 [] (.mv (.t 0))) (.c (.q 8 [] (.bin .eql (.t 6) (.t 7))) (.c (.q 9 [] (.mv (.t 8))) (.c (.q 10 [(9, true)] (.mv (.t 1))) (.c (.e (some 11) [(9, true)] (.call false 74 [(.t 10)])) (.c (.q 12 [] (.pick (.t 9) (.t 11) (.c (.bool false)))) (.c (.q 4 [] (.mv (.t 12))) .nil)))))))))) .ret)
def t133_1 := b133_1
theorem u133_1 : vcK P t133_1 k e w = vcK P b133_1 k e w := rfl
abbrev b133_0 : X := (.seq (.reg [0, 1] (.c (.q 4 [] (.mv (.c (.bool false)))) .nil)) t133_1)
def x_iisRowOf := b133_0
theorem u133_0 : vcK P x_iisRowOf k e w = vcK P b133_0 k e w := rfl
def r_iisRowOf : List XO := [(.mv (.t 4))]
theorem c_iisRowOf : convF Try.prog [54, 55, 58, 69, 70, 71, 72, 73, 84, 89, 94, 95, 113, 114, 115, 130, 134, 143, 146, 161] Try.f133 [([0, 1], []), ([4], [])] = some (x_iisRowOf, r_iisRowOf) := by kernel_rfl
def us_iisRowOf :=  (aI @u133_0 @u133_1)
end
theorem getD_mem {α : Type} {l : List α} {k : Nat} (d : α) (h : k < l.length) : l.getD k d ∈ l := by rw [List.getD_eq_getElem?_getD, List.getElem?_eq_getElem h]; exact List.getElem_mem h
theorem mem_take {α : Type} {l : List α} {k : Nat} {d x : α} (h : k < l.length) (hx : x ∈ l.take (k + 1)) : x ∈ l.take k ∨ x = l.getD k d := by
  rw [List.take_add_one, List.getElem?_eq_getElem h] at hx
  rcases List.mem_append.1 hx with h' | h'
  · exact .inl h'
  · rw [List.getD_eq_getElem?_getD, List.getElem?_eq_getElem h]
    exact .inr (by simpa using h')
theorem fill_set {α : Type} (l : List α) (d : α) (k : Nat) (h : k < l.length) : (l.take k ++ List.replicate (l.length - k) d).set k (l.getD k d) = l.take (k + 1) ++ List.replicate (l.length - (k + 1)) d := by
  rw [List.set_append_right _ _ (by simp; omega), List.length_take, Nat.min_eq_left (by omega), Nat.sub_self, show l.length - k = (l.length - (k + 1)) + 1 by omega, List.replicate_succ, List.set_cons_zero, List.take_add_one, List.getElem?_eq_getElem h, List.getD_eq_getElem?_getD, List.getElem?_eq_getElem h]
  simp only [Option.toList_some, Option.getD_some, List.append_assoc, List.cons_append, List.nil_append]
theorem ne_at {α : Type} {l l' : List α} {d : α} (k : Nat) (h : ¬ l.getD k d = l'.getD k d) : ¬ l = l' := fun e => h (by rw [e])
theorem eq_take {α : Type} {l l' : List α} {d : α} {k : Nat} (h : l.take k = l'.take k) (h1 : k < l.length) (h2 : k < l'.length) (e : l.getD k d = l'.getD k d) : l.take (k + 1) = l'.take (k + 1) := by
  rw [List.getD_eq_getElem?_getD, List.getD_eq_getElem?_getD, List.getElem?_eq_getElem h1, List.getElem?_eq_getElem h2, Option.getD_some, Option.getD_some] at e
  rw [List.take_add_one, List.take_add_one, h, List.getElem?_eq_getElem h1, List.getElem?_eq_getElem h2, e]
theorem eq_len {α : Type} {l l' : List α} (h : l.take l.length = l'.take l.length) (e : l.length = l'.length) : l = l' := by
  rw [List.take_length, e, List.take_length] at h; exact h
theorem grown_refl (w : World) (row : Option Nat) : w.grownBy w row := ⟨rfl, rfl, rfl, Nat.le_refl _, fun _ _ _ => rfl⟩
theorem grown_trans {a b c : World} {row : Option Nat} (h : a.grownBy b row) (k : b.grownBy c row) : a.grownBy c row :=
  ⟨k.os.trans h.os, k.tape.trans h.tape, k.output.trans h.output, Nat.le_trans h.size k.size, fun i hi hr => (k.block i (Nat.lt_of_lt_of_le hi h.size) hr).trans (h.block i hi hr)⟩
theorem grown_ext {a b : World} (row : Option Nat) (h : Ext a b) : a.grownBy b row := ⟨h.os, h.tape, h.output, h.size, fun _ hi _ => h.block hi⟩
def IsRows (l : List (List UInt8)) : Prop := (∀ r ∈ l, IsRow r ∧ r.length = (l.getD 0 []).length) ∧ l.length ≤ 800
instance (l : List (List UInt8)) : Decidable (IsRows l) := by unfold IsRows; infer_instance
theorem sl6Rows_ok (v : Value) (l : List (List UInt8)) (hl : l.length ≤ 1000000000) (w : World) (h : Sq fS 1 w v l) : Fn 60 [v] w (fun v _ => v = .bool (decide (IsRows l))) := by
  (refine callsV_of mix Try.func60 c_sl6Rows ?_; simp only [↓vsd, vsn, gW, qd, qv, ev, pick, argE, zipE, ne_eq, eq_self, forall_const, implies_true, if_true, if_false, reduceIte, reduceCtorEq, Nat.reduceEqDiff, Nat.reduceAdd, Nat.reduceLT, ↓us_sl6Rows, r_sl6Rows])
  simp only [↓vsd, vsn, gW, qd, qv, ev, pick, argE, zipE, ne_eq, eq_self, forall_const, implies_true, if_true, if_false, reduceIte, reduceCtorEq, Nat.reduceEqDiff, Nat.reduceAdd, Nat.reduceLT, ↓us_sl6Rows, r_sl6Rows, h.facts]
  refine m_upto l.length (fun k vs w' => vs = [.int .i64 k] ∧ (∀ r ∈ l.take k, IsRow r ∧ r.length = (l.getD 0 []).length) ∧ Ext w w') ⟨rfl, by simp, Ext.refl _⟩ ?_
  rintro k vs w1 hk ⟨rfl, hall, hx⟩
  have hq := h.ext hx
  by_cases hlt : k < l.length
  · have hltI : (k : Int) < l.length := by omega
    have hltJ : ¬ (l.length : Int) ≤ k := by omega
    have h0 : 0 < l.length := by omega
    simp only [↓vsd, vsn, gW, qd, qv, ev, pick, argE, zipE, ne_eq, eq_self, forall_const, implies_true, if_true, if_false, reduceIte, reduceCtorEq, Nat.reduceEqDiff, Nat.reduceAdd, Nat.reduceLT, ↓us_sl6Rows, r_sl6Rows, hq.facts, hq.at1 [] hlt, hltI, hltJ]
    refine ⟨by omega, m_call (sl1Row_ok _ _) ?_⟩
    rintro _ w2 hx2 rfl
    have hq2 := hq.ext hx2
    have a0 := hq2.at0 [] h0
    simp only [↓vsd, vsn, gW, qd, qv, ev, pick, argE, zipE, ne_eq, eq_self, forall_const, implies_true, if_true, if_false, reduceIte, reduceCtorEq, Nat.reduceEqDiff, Nat.reduceAdd, Nat.reduceLT, ↓us_sl6Rows, r_sl6Rows, hq2.facts, a0]
    refine ⟨fun _ => by omega, fun hbad => ⟨hx.trans hx2, ?_⟩, fun hgood => ⟨inR_i64 (by omega), UpTo.next hlt ⟨rfl, fun r hr => ?_, hx.trans hx2⟩⟩⟩
    · have : ¬ IsRows l := fun hh => by
        have := hh.1 _ (getD_mem [] hlt)
        rcases hbad with h | h
        · exact h this.1
        · omega
      simp [this]
    · rcases mem_take (d := []) hlt hr with h | rfl
      · exact hall r h
      · exact ⟨hgood.1, by omega⟩
  · obtain rfl : k = l.length := by omega
    have hltI : ¬ (l.length : Int) < l.length := by omega
    simp only [↓vsd, vsn, gW, qd, qv, ev, pick, argE, zipE, ne_eq, eq_self, forall_const, implies_true, if_true, if_false, reduceIte, reduceCtorEq, Nat.reduceEqDiff, Nat.reduceAdd, Nat.reduceLT, ↓us_sl6Rows, r_sl6Rows, hq.facts, hltI]
    refine ⟨hx, ?_⟩
    rw [List.take_length] at hall
    congr 1
    exact propext ⟨fun h => ⟨hall, by omega⟩, fun h => by have := h.2; omega⟩
theorem iisRowOf_ok (n : Int) (l : List UInt8) (w : World) : Fn 133 [.int .i64 n, S l] w (fun v _ => v = .bool (decide ((l.length : Int) = n) && decide (IsRow l))) := by
  (refine callsV_of mix Try.func133 c_iisRowOf ?_; simp only [↓vsd, vsn, gW, qd, qv, ev, pick, argE, zipE, ne_eq, eq_self, forall_const, implies_true, if_true, if_false, reduceIte, reduceCtorEq, Nat.reduceEqDiff, Nat.reduceAdd, Nat.reduceLT, ↓us_iisRowOf, r_iisRowOf])
  refine ⟨fun he => m_call (iGoodRow_ok _ _) ?_, fun hne => ⟨Ext.refl _, by simp [hne]⟩⟩
  rintro _ w1 hx rfl
  simp only [↓vsd, vsn, gW, qd, qv, ev, pick, argE, zipE, ne_eq, eq_self, forall_const, implies_true, if_true, if_false, reduceIte, reduceCtorEq, Nat.reduceEqDiff, Nat.reduceAdd, Nat.reduceLT, ↓us_iisRowOf, r_iisRowOf]
  exact hx
theorem iGoodRows_ok (v : Value) (l : List (List UInt8)) (hl : l.length ≤ 1000000000) (w : World) (h : Sq fS 1 w v l) : Fn 64 [v] w (fun v _ => v = .bool (decide (IsRows l))) := by
  (refine callsV_of mix Try.func64 c_iGoodRows ?_; simp only [↓vsd, vsn, gW, qd, qv, ev, pick, argE, zipE, ne_eq, eq_self, forall_const, implies_true, if_true, if_false, reduceIte, reduceCtorEq, Nat.reduceEqDiff, Nat.reduceAdd, Nat.reduceLT, ↓us_iGoodRows, r_iGoodRows])
  simp only [↓vsd, vsn, gW, qd, qv, ev, pick, argE, zipE, ne_eq, eq_self, forall_const, implies_true, if_true, if_false, reduceIte, reduceCtorEq, Nat.reduceEqDiff, Nat.reduceAdd, Nat.reduceLT, ↓us_iGoodRows, r_iGoodRows, h.facts]
  refine ⟨fun hbig => ⟨Ext.refl _, ?_⟩, fun hsm => ?_⟩
  · have : ¬ IsRows l := fun hh => by have := hh.2; omega
    simp [this]
  refine m_upto l.length (fun k vs w' => vs = [.int .i64 k] ∧ (∀ r ∈ l.take k, IsRow r ∧ r.length = (l.getD 0 []).length) ∧ Ext w w') ⟨rfl, by simp, Ext.refl _⟩ ?_
  rintro k vs w1 hk ⟨rfl, hall, hx⟩
  have hq := h.ext hx
  by_cases hlt : k < l.length
  · have hltI : (k : Int) < l.length := by omega
    have hltJ : ¬ (l.length : Int) ≤ k := by omega
    have h0 : 0 < l.length := by omega
    have a0 := hq.at0 [] h0
    simp only [↓vsd, vsn, gW, qd, qv, ev, pick, argE, zipE, ne_eq, eq_self, forall_const, implies_true, if_true, if_false, reduceIte, reduceCtorEq, Nat.reduceEqDiff, Nat.reduceAdd, Nat.reduceLT, ↓us_iGoodRows, r_iGoodRows, hq.facts, hq.at1 [] hlt, hltI, hltJ, a0]
    refine ⟨by omega, by omega, m_call (iisRowOf_ok _ _ _) ?_⟩
    rintro _ w2 hx2 rfl
    simp only [↓vsd, vsn, gW, qd, qv, ev, pick, argE, zipE, ne_eq, eq_self, forall_const, implies_true, if_true, if_false, reduceIte, reduceCtorEq, Nat.reduceEqDiff, Nat.reduceAdd, Nat.reduceLT, ↓us_iGoodRows, r_iGoodRows]
    refine ⟨fun hbad => ⟨hx.trans hx2, ?_⟩, fun hgood => ⟨inR_i64 (by omega), UpTo.next hlt ⟨rfl, fun r hr => ?_, hx.trans hx2⟩⟩⟩
    · have : ¬ IsRows l := fun hh => by
        have := hh.1 _ (getD_mem [] hlt)
        rcases hbad with h | h
        · omega
        · exact h this.1
      simp [this]
    · rcases mem_take (d := []) hlt hr with h | rfl
      · exact hall r h
      · exact ⟨hgood.2, by omega⟩
  · obtain rfl : k = l.length := by omega
    have hltI : ¬ (l.length : Int) < l.length := by omega
    simp only [↓vsd, vsn, gW, qd, qv, ev, pick, argE, zipE, ne_eq, eq_self, forall_const, implies_true, if_true, if_false, reduceIte, reduceCtorEq, Nat.reduceEqDiff, Nat.reduceAdd, Nat.reduceLT, ↓us_iGoodRows, r_iGoodRows, hq.facts, hltI]
    refine ⟨hx, ?_⟩
    rw [List.take_length] at hall
    have : IsRows l := ⟨hall, by omega⟩
    simp [this]
end Go.Proofs.Ythopbkemkfjebaa
