/-
  Lists without repeats: the program's set and the reference's order; rows of two lists; repeats.
  Conditions: none.
-/
import Derived.Test.YtnincmnkdjlndaaA53
import Derived.Test.YtnincmnkdjlndaaVu
import Derived.Test.YtnincmnkdjlndaaA6
import Derived.Test.YtnincmnkdjlndaaPl
set_option linter.unusedSimpArgs false
set_option linter.unusedVariables false
set_option linter.defProp false
namespace Go.Proofs.Ytnincmnkdjlndaa
open Go Go.RowKit
section
variable (P : Program) (k : KT) (e : Env) (w : World)
abbrev b171_1 : X := (.cond (.t 15) (.seq (.reg [2] (.c (.q 2 [] (.mv (.c (.bool false)))) .nil)) .ret) .skip)
def t171_1 := b171_1
theorem u171_1 : vcK P t171_1 k e w = vcK P b171_1 k e w := rfl
abbrev b171_2 : X := (.reg [3, 7, 8, 9] (.c (.q 16 [] (.mv (.t 3))) (.c (.q 17 [] (.mv (.t 5))) (.c (.e none [] (.mup false .string (.t 16) (.t 17) (.c (.bool true)))) .nil))))
def t171_2 := b171_2
theorem u171_2 : vcK P t171_2 k e w = vcK P b171_2 k e w := rfl
abbrev b171_3 : X := (.seq (.seq (.reg [3, 5, 7, 8, 9, 15] (.c (.q 13 [] (.mv (.t 3))) (.c (.q 14 [] (.mv (.t 5))) (.c (.q 15 [] (.mlk false .string (.bool false) (.t 13) (.t 14))) .nil)))) t171_1) t171_2)
def t171_3 := b171_3
theorem u171_3 : vcK P t171_3 k e w = vcK P b171_3 k e w := rfl
abbrev b171_4 : X := (.reg [3, 7, 8, 9] (.c (.q 18 [] (.bin .add (.t 9) (.c (.int .i64 1)))) (.c (.q 9 [] (.mv (.t 18))) .nil)))
def t171_4 := b171_4
theorem u171_4 : vcK P t171_4 k e w = vcK P b171_4 k e w := rfl
abbrev b171_5 : X := (.seq (.blk 1 (.seq (.reg [3, 5, 7, 8, 9] (.c (.q 11 [] (.ia 1 (.t 7) (.t 9))) (.c (.q 12 [] (.ld (.t 11))) (.c (.q 5 [] (.mv (.t 12))) .nil)))) t171_3)) t171_4)
def t171_5 := b171_5
theorem u171_5 : vcK P t171_5 k e w = vcK P b171_5 k e w := rfl
abbrev b171_6 : X := (.seq (.cond (.t 10) .skip (.exit 0)) t171_5)
def t171_6 := b171_6
theorem u171_6 : vcK P t171_6 k e w = vcK P b171_6 k e w := rfl
abbrev b171_7 : X := (.seq (.reg [3, 7, 8, 9, 10] (.c (.q 10 [] (.bin .lss (.t 9) (.t 8))) .nil)) t171_6)
def t171_7 := b171_7
theorem u171_7 : vcK P t171_7 k e w = vcK P b171_7 k e w := rfl
abbrev b171_8 : X := (.blk 0 (.loop [9] [3, 7, 8] t171_7))
def t171_8 := b171_8
theorem u171_8 : vcK P t171_8 k e w = vcK P b171_8 k e w := rfl
abbrev b171_9 : X := (.seq (.reg [2] (.c (.q 2 [] (.mv (.c (.bool true)))) .nil)) .ret)
def t171_9 := b171_9
theorem u171_9 : vcK P t171_9 k e w = vcK P b171_9 k e w := rfl
abbrev b171_10 : X := (.seq (.seq (.reg [3, 7, 8, 9] (.c (.q 7 [] (.mv (.t 0))) (.c (.q 8 [] (.lens (.t 7))) (.c (.q 9 [] (.mv (.c (.int .i64 0)))) .nil)))) t171_8) t171_9)
def t171_10 := b171_10
theorem u171_10 : vcK P t171_10 k e w = vcK P b171_10 k e w := rfl
abbrev b171_11 : X := (.seq (.reg [0, 3] (.c (.e (some 6) [] .mkmap) (.c (.q 3 [] (.mv (.t 6))) .nil))) t171_10)
def t171_11 := b171_11
theorem u171_11 : vcK P t171_11 k e w = vcK P b171_11 k e w := rfl
abbrev b171_0 : X := (.seq (.reg [0] (.c (.q 2 [] (.mv (.c (.bool false)))) .nil)) t171_11)
def x_iisTrue := b171_0
theorem u171_0 : vcK P x_iisTrue k e w = vcK P b171_0 k e w := rfl
def r_iisTrue : List XO := [(.mv (.t 2))]
theorem c_iisTrue : convF Try.prog [147, 148, 152, 160, 162, 163, 170, 178, 206, 208, 210, 224, 233, 235, 236, 251, 264, 265, 268, 270, 287, 322] Try.f171 [([0], []), ([0, 3], []), ([3, 7, 8, 9], []), ([9], [3, 7, 8]), ([3, 7, 8, 9, 10], []), ([3, 5, 7, 8, 9], []), ([3, 5, 7, 8, 9, 15], []), ([2], []), ([3, 7, 8, 9], []), ([3, 7, 8, 9], []), ([2], [])] = some (x_iisTrue, r_iisTrue) := by kernel_rfl
def us_iisTrue :=  (aI (aI (aI @u171_0 (aI @u171_1 @u171_2)) (aI @u171_3 (aI @u171_4 @u171_5))) (aI (aI @u171_6 (aI @u171_7 @u171_8)) (aI @u171_9 (aI @u171_10 @u171_11))))
abbrev b46_1 : X := (.cond (.t 6) (.seq (.reg [2, 3] (.c (.q 2 [] (.mv (.c (.bool false)))) (.c (.q 3 [] (.mv (.c (.bool false)))) .nil))) .ret) .skip)
def t46_1 := b46_1
theorem u46_1 : vcK P t46_1 k e w = vcK P b46_1 k e w := rfl
abbrev b46_2 : X := (.seq (.reg [2, 3] (.c (.q 7 [] (.mv (.t 0))) (.c (.e (some 8) [] (.call false 171 [(.t 7)])) (.c (.q 2 [] (.mv (.t 8))) (.c (.q 3 [] (.mv (.c (.bool true)))) .nil))))) .ret)
def t46_2 := b46_2
theorem u46_2 : vcK P t46_2 k e w = vcK P b46_2 k e w := rfl
abbrev b46_3 : X := (.seq (.seq (.reg [0, 6] (.c (.q 4 [] (.mv (.t 0))) (.c (.e (some 5) [] (.call false 115 [(.t 4)])) (.c (.q 6 [] (.not (.t 5))) .nil)))) t46_1) t46_2)
def t46_3 := b46_3
theorem u46_3 : vcK P t46_3 k e w = vcK P b46_3 k e w := rfl
abbrev b46_0 : X := (.seq (.reg [0] (.c (.q 2 [] (.mv (.c (.bool false)))) (.c (.q 3 [] (.mv (.c (.bool false)))) .nil))) t46_3)
def x_iIsTrueList := b46_0
theorem u46_0 : vcK P x_iIsTrueList k e w = vcK P b46_0 k e w := rfl
def r_iIsTrueList : List XO := [(.mv (.t 2)), (.mv (.t 3))]
theorem c_iIsTrueList : convF Try.prog [147, 148, 152, 160, 162, 163, 170, 178, 206, 208, 210, 224, 233, 235, 236, 251, 264, 265, 268, 270, 287, 322] Try.f46 [([0], []), ([0, 6], []), ([2, 3], []), ([2, 3], [])] = some (x_iIsTrueList, r_iIsTrueList) := by kernel_rfl
def us_iIsTrueList :=  (aI (aI @u46_0 @u46_1) (aI @u46_2 @u46_3))
abbrev b173_1 : X := (.cond (.t 10) .skip (.exit 0))
def t173_1 := b173_1
theorem u173_1 : vcK P t173_1 k e w = vcK P b173_1 k e w := rfl
abbrev b173_2 : X := (.cond (.t 22) (.seq (.reg [2] (.c (.q 2 [] (.mv (.c (.bool false)))) .nil)) .ret) .skip)
def t173_2 := b173_2
theorem u173_2 : vcK P t173_2 k e w = vcK P b173_2 k e w := rfl
abbrev b173_3 : X := (.reg [3, 4] (.c (.q 11 [] (.mv (.t 4))) (.c (.q 12 [] (.bin .add (.t 11) (.c (.int .i64 1)))) (.c (.q 4 [] (.mv (.t 12))) .nil))))
def t173_3 := b173_3
theorem u173_3 : vcK P t173_3 k e w = vcK P b173_3 k e w := rfl
abbrev b173_4 : X := (.seq (.blk 1 (.seq (.drw [3, 4, 22] (.c (.q 13 [] (.mv (.t 3))) (.c (.q 14 [] (.mv (.t 4))) (.c (.q 15 [] (.ia 1 (.t 13) (.t 14))) (.c (.q 16 [] (.ld (.t 15))) (.c (.q 17 [] (.mv (.t 3))) (.c (.q 18 [] (.mv (.t 4))) (.c (.q 19 [] (.bin .sub (.t 18) (.c (.int .i64 1)))) (.c (.q 20 [] (.ia 1 (.t 17) (.t 19))) (.c (.q 21 [] (.ld (.t 20))) (.c (.q 22 [] (.bin .eql (.t 16) (.t 21))) .nil))))))))))) t173_2)) t173_3)
def t173_4 := b173_4
theorem u173_4 : vcK P t173_4 k e w = vcK P b173_4 k e w := rfl
abbrev b173_5 : X := (.seq (.seq (.reg [3, 4, 10] (.c (.q 7 [] (.mv (.t 4))) (.c (.q 8 [] (.mv (.t 3))) (.c (.q 9 [] (.lens (.t 8))) (.c (.q 10 [] (.bin .lss (.t 7) (.t 9))) .nil))))) t173_1) t173_4)
def t173_5 := b173_5
theorem u173_5 : vcK P t173_5 k e w = vcK P b173_5 k e w := rfl
abbrev b173_6 : X := (.blk 0 (.loop [4] [3] t173_5))
def t173_6 := b173_6
theorem u173_6 : vcK P t173_6 k e w = vcK P b173_6 k e w := rfl
abbrev b173_7 : X := (.seq (.reg [2] (.c (.q 2 [] (.mv (.c (.bool true)))) .nil)) .ret)
def t173_7 := b173_7
theorem u173_7 : vcK P t173_7 k e w = vcK P b173_7 k e w := rfl
abbrev b173_8 : X := (.seq (.seq (.reg [3, 4] (.c (.q 4 [] (.mv (.c (.int .i64 1)))) .nil)) t173_6) t173_7)
def t173_8 := b173_8
theorem u173_8 : vcK P t173_8 k e w = vcK P b173_8 k e w := rfl
abbrev b173_9 : X := (.seq (.reg [3] (.c (.q 5 [] (.mv (.t 0))) (.c (.e (some 6) [] (.call false 230 [(.t 5)])) (.c (.q 3 [] (.mv (.t 6))) .nil)))) t173_8)
def t173_9 := b173_9
theorem u173_9 : vcK P t173_9 k e w = vcK P b173_9 k e w := rfl
abbrev b173_0 : X := (.seq (.reg [0] (.c (.q 2 [] (.mv (.c (.bool false)))) .nil)) t173_9)
def x_sl7True := b173_0
theorem u173_0 : vcK P x_sl7True k e w = vcK P b173_0 k e w := rfl
def r_sl7True : List XO := [(.mv (.t 2))]
theorem c_sl7True : convF Try.prog [147, 148, 152, 160, 162, 163, 170, 178, 206, 208, 210, 224, 233, 235, 236, 251, 264, 265, 268, 270, 287, 322] Try.f173 [([0], []), ([3], []), ([3, 4], []), ([4], [3]), ([3, 4, 10], []), ([3, 4, 22], []), ([2], []), ([3, 4], []), ([2], [])] = some (x_sl7True, r_sl7True) := by kernel_rfl
def us_sl7True :=  (aI (aI (aI @u173_0 @u173_1) (aI @u173_2 (aI @u173_3 @u173_4))) (aI (aI @u173_5 @u173_6) (aI @u173_7 (aI @u173_8 @u173_9))))
abbrev b47_1 : X := (.cond (.t 6) (.seq (.reg [2, 3] (.c (.q 2 [] (.mv (.c (.bool false)))) (.c (.q 3 [] (.mv (.c (.bool false)))) .nil))) .ret) .skip)
def t47_1 := b47_1
theorem u47_1 : vcK P t47_1 k e w = vcK P b47_1 k e w := rfl
abbrev b47_2 : X := (.seq (.reg [2, 3] (.c (.q 7 [] (.mv (.t 0))) (.c (.e (some 8) [] (.call false 173 [(.t 7)])) (.c (.q 2 [] (.mv (.t 8))) (.c (.q 3 [] (.mv (.c (.bool true)))) .nil))))) .ret)
def t47_2 := b47_2
theorem u47_2 : vcK P t47_2 k e w = vcK P b47_2 k e w := rfl
abbrev b47_3 : X := (.seq (.seq (.reg [0, 6] (.c (.q 4 [] (.mv (.t 0))) (.c (.e (some 5) [] (.call false 172 [(.t 4)])) (.c (.q 6 [] (.not (.t 5))) .nil)))) t47_1) t47_2)
def t47_3 := b47_3
theorem u47_3 : vcK P t47_3 k e w = vcK P b47_3 k e w := rfl
abbrev b47_0 : X := (.seq (.reg [0] (.c (.q 2 [] (.mv (.c (.bool false)))) (.c (.q 3 [] (.mv (.c (.bool false)))) .nil))) t47_3)
def x_sIsTrueList := b47_0
theorem u47_0 : vcK P x_sIsTrueList k e w = vcK P b47_0 k e w := rfl
def r_sIsTrueList : List XO := [(.mv (.t 2)), (.mv (.t 3))]
theorem c_sIsTrueList : convF Try.prog [147, 148, 152, 160, 162, 163, 170, 178, 206, 208, 210, 224, 233, 235, 236, 251, 264, 265, 268, 270, 287, 322] Try.f47 [([0], []), ([0, 6], []), ([2, 3], []), ([2, 3], [])] = some (x_sIsTrueList, r_sIsTrueList) := by kernel_rfl
def us_sIsTrueList :=  (aI (aI @u47_0 @u47_1) (aI @u47_2 @u47_3))
end

theorem take_snocB {l : List Bs} {k : Nat} (h : k < l.length) : l.take (k + 1) = l.take k ++ [l.getD k []] := by
  rw [List.take_add_one, List.getElem?_eq_getElem h, List.getD_eq_getElem?_getD, List.getElem?_eq_getElem h]; rfl
theorem put1_new {L : List Bs} {x : Bs} (h : x ∉ L) : put1 L x = L ++ [x] := by unfold put1; rw [if_neg h]
theorem put1_old {L : List Bs} {x : Bs} (h : x ∈ L) : put1 L x = L := by unfold put1; rw [if_pos h]
theorem iisTrue_ok (v : Value) (l : List Bs) (hl : l.length ≤ 1000000000) (w : World) (h : Sq fS 1 w v l) : Fn 171 [v] w (fun r _ => r = .bool (decide l.Nodup)) := by
  (refine callsV_of mix Try.func171 c_iisTrue ?_; simp only [↓vsd, vsn, gW, qd, qv, ev, pick, argE, zipE, ne_eq, eq_self, forall_const, implies_true, if_true, if_false, reduceIte, reduceCtorEq, Nat.reduceEqDiff, Nat.reduceAdd, Nat.reduceLT, ↓us_iisTrue, r_iisTrue])
  refine m_mkset ?_
  rintro m w1 hmb hs1 hx1 hsz
  have hq1 := h.ext hx1
  simp only [↓vsd, vsn, gW, qd, qv, ev, pick, argE, zipE, ne_eq, eq_self, forall_const, implies_true, if_true, if_false, reduceIte, reduceCtorEq, Nat.reduceEqDiff, Nat.reduceAdd, Nat.reduceLT, ↓us_iisTrue, r_iisTrue, hq1.facts]
  refine m_upto l.length (fun k vs w' => vs = [.int .i64 k] ∧ SetAt w' m (l.take k) ∧ (l.take k).Nodup ∧ Ext w w') ⟨rfl, by rw [List.take_zero]; exact hs1, by rw [List.take_zero]; exact List.Pairwise.nil, hx1⟩ ?_
  rintro k vs w2 hk ⟨rfl, hs2, hnd, hx2⟩
  have hq2 := h.ext hx2
  by_cases hlt : k < l.length
  · have hltI : (k : Int) < l.length := by omega
    have hltJ : ¬ (l.length : Int) ≤ k := by omega
    have a2 := hq2.at1 [] hlt
    have hsn := take_snocB hlt
    generalize l.getD k [] = r at *
    have hlk := hs2.look r
    by_cases hin : r ∈ l.take k
    · simp only [↓vsd, vsn, gW, qd, qv, ev, pick, argE, zipE, ne_eq, eq_self, forall_const, implies_true, if_true, if_false, reduceIte, reduceCtorEq, Nat.reduceEqDiff, Nat.reduceAdd, Nat.reduceLT, ↓us_iisTrue, r_iisTrue, hltI, hltJ, hq2.facts, a2, hlk, hin]
      refine ⟨by omega, hx2, (decide_eq_false fun hh => ?_).symm⟩
      have h3 : (l.take (k + 1)).Nodup := (List.take_sublist _ _).nodup hh
      rw [hsn] at h3
      exact (List.nodup_append.1 h3).2.2 r hin r (by simp) rfl
    · simp only [↓vsd, vsn, gW, qd, qv, ev, pick, argE, zipE, ne_eq, eq_self, forall_const, implies_true, if_true, if_false, reduceIte, reduceCtorEq, Nat.reduceEqDiff, Nat.reduceAdd, Nat.reduceLT, ↓us_iisTrue, r_iisTrue, hltI, hltJ, hq2.facts, a2, hlk, hin]
      refine ⟨by omega, m_put hs2 ?_⟩
      rintro w3 hs3 hu3
      have hx3 : Ext w w3 := hu3.below hx2 (by omega)
      simp only [↓vsd, vsn, gW, qd, qv, ev, pick, argE, zipE, ne_eq, eq_self, forall_const, implies_true, if_true, if_false, reduceIte, reduceCtorEq, Nat.reduceEqDiff, Nat.reduceAdd, Nat.reduceLT, ↓us_iisTrue, r_iisTrue]
      refine ⟨inR_i64 (by omega), UpTo.next hlt ⟨rfl, by rw [hsn, ← put1_new hin]; exact hs3, ?_, hx3⟩⟩
      rw [hsn]
      exact List.nodup_append.2 ⟨hnd, by simp, fun a ha b hb e => hin (by rw [← List.mem_singleton.1 hb, ← e]; exact ha)⟩
  · obtain rfl : k = l.length := by omega
    have hltI : ¬ (l.length : Int) < l.length := by omega
    rw [List.take_length] at hnd
    simp only [↓vsd, vsn, gW, qd, qv, ev, pick, argE, zipE, ne_eq, eq_self, forall_const, implies_true, if_true, if_false, reduceIte, reduceCtorEq, Nat.reduceEqDiff, Nat.reduceAdd, Nat.reduceLT, ↓us_iisTrue, r_iisTrue, hltI]
    exact ⟨hx2, (decide_eq_true hnd).symm⟩
theorem sl7True_ok (v : Value) (l : List Bs) (hl : l.length ≤ 1000000) (w : World) (h : Sq fS 1 w v l) : Fn 173 [v] w (fun r _ => r = .bool (decide l.Nodup)) := by
  (refine callsV_of mix Try.func173 c_sl7True ?_; simp only [↓vsd, vsn, gW, qd, qv, ev, pick, argE, zipE, ne_eq, eq_self, forall_const, implies_true, if_true, if_false, reduceIte, reduceCtorEq, Nat.reduceEqDiff, Nat.reduceAdd, Nat.reduceLT, ↓us_sl7True, r_sl7True])
  refine m_call (sl6Sort_ok _ _ v (Nat.le_refl _) hl _ h) ?_
  rintro x w1 hx1 ho1
  have hsl : (srt l).length = l.length := srt_len l
  have hnd := sorted_nodup (l := l)
  rw [hsl] at hnd
  have hq1 := ho1.sq
  generalize srt l = s at *
  simp only [↓vsd, vsn, gW, qd, qv, ev, pick, argE, zipE, ne_eq, eq_self, forall_const, implies_true, if_true, if_false, reduceIte, reduceCtorEq, Nat.reduceEqDiff, Nat.reduceAdd, Nat.reduceLT, ↓us_sl7True, r_sl7True]
  refine m_upto s.length (fun k vs w' => vs = [.int .i64 (k + 1 : Nat)] ∧ (∀ q, q < k → q + 1 < s.length → s.getD (q + 1) [] ≠ s.getD q []) ∧ Ext w1 w') ⟨rfl, fun q h1 => by omega, Ext.refl _⟩ ?_
  rintro k vs w2 hk ⟨rfl, hup, hx2⟩
  have hq2 := hq1.ext hx2
  by_cases hlt : k + 1 < s.length
  · have hltI : ((k + 1 : Nat) : Int) < s.length := by omega
    have hltJ : ¬ (s.length : Int) ≤ (k + 1 : Nat) := by omega
    have a1 := hq2.at1 [] hlt
    have a2 := hq2.at1 [] (i := k) (by omega)
    have e1 : ((k + 1 : Nat) : Int) - 1 = (k : Nat) := by omega
    have e2 : ((k + 1 : Nat) : Int) + 1 = (k + 1 + 1 : Nat) := by omega
    by_cases he : s.getD (k + 1) [] = s.getD k []
    · simp only [↓vsd, vsn, gW, qd, qv, ev, pick, argE, zipE, ne_eq, eq_self, forall_const, implies_true, if_true, if_false, reduceIte, reduceCtorEq, Nat.reduceEqDiff, Nat.reduceAdd, Nat.reduceLT, ↓us_sl7True, r_sl7True, hq2.facts, hltI, hltJ, a1, a2, e1, he]
      refine ⟨by omega, inR_i64 (by omega), by omega, by first | exact hx1.trans hx2 | exact hx1.trans (dr hx2), (decide_eq_false fun hh => ?_).symm⟩
      exact (hnd.2 hh) k (by omega) he
    · simp only [↓vsd, vsn, gW, qd, qv, ev, pick, argE, zipE, ne_eq, eq_self, forall_const, implies_true, if_true, if_false, reduceIte, reduceCtorEq, Nat.reduceEqDiff, Nat.reduceAdd, Nat.reduceLT, ↓us_sl7True, r_sl7True, hq2.facts, hltI, hltJ, a1, a2, e1, he, e2]
      refine ⟨by omega, inR_i64 (by omega), by omega, inR_i64 (by omega), UpTo.next (by omega) ⟨rfl, fun q h1 h2 => ?_, by first | exact hx2 | exact dr hx2⟩⟩
      by_cases hqk : q = k
      · rw [hqk]; exact he
      · exact hup q (by omega) h2
  · have hltI : ¬ ((k + 1 : Nat) : Int) < s.length := by omega
    simp only [↓vsd, vsn, gW, qd, qv, ev, pick, argE, zipE, ne_eq, eq_self, forall_const, implies_true, if_true, if_false, reduceIte, reduceCtorEq, Nat.reduceEqDiff, Nat.reduceAdd, Nat.reduceLT, ↓us_sl7True, r_sl7True, hq2.facts, hltI]
    exact ⟨hx1.trans hx2, (decide_eq_true (hnd.1 fun q hq => hup q (by omega) (by omega))).symm⟩
def trueV (l : List Bs) : Value := .tuple ⟨[.bool (decide (IsRows l ∧ l.Nodup)), .bool (decide (IsRows l))]⟩
theorem iIsTrueList_ok (v : Value) (l : List Bs) (hl : l.length ≤ 1000000000) (w : World) (h : Sq fS 1 w v l) : Fn 46 [v] w (fun r _ => r = trueV l) := by
  (refine callsV_of mix Try.func46 c_iIsTrueList ?_; simp only [↓vsd, vsn, gW, qd, qv, ev, pick, argE, zipE, ne_eq, eq_self, forall_const, implies_true, if_true, if_false, reduceIte, reduceCtorEq, Nat.reduceEqDiff, Nat.reduceAdd, Nat.reduceLT, ↓us_iIsTrueList, r_iIsTrueList])
  refine m_call (iGoodRows_ok v l hl _ h) ?_
  rintro _ w1 hx1 rfl
  by_cases hr : IsRows l
  · simp only [↓vsd, vsn, gW, qd, qv, ev, pick, argE, zipE, ne_eq, eq_self, forall_const, implies_true, if_true, if_false, reduceIte, reduceCtorEq, Nat.reduceEqDiff, Nat.reduceAdd, Nat.reduceLT, ↓us_iIsTrueList, r_iIsTrueList, hr]
    refine m_call (iisTrue_ok v l hl _ (by first | exact h.ext hx1 | exact h.ext (dr hx1))) ?_
    rintro _ w2 hx2 rfl
    have hx2 : Ext w1 w2 := by first | exact hx2 | exact ud hx2 | exact ud (ud hx2)
    simp only [↓vsd, vsn, gW, qd, qv, ev, pick, argE, zipE, ne_eq, eq_self, forall_const, implies_true, if_true, if_false, reduceIte, reduceCtorEq, Nat.reduceEqDiff, Nat.reduceAdd, Nat.reduceLT, ↓us_iIsTrueList, r_iIsTrueList]
    exact ⟨hx1.trans hx2, by unfold trueV; simp only [hr, true_and, decide_true]⟩
  · simp only [↓vsd, vsn, gW, qd, qv, ev, pick, argE, zipE, ne_eq, eq_self, forall_const, implies_true, if_true, if_false, reduceIte, reduceCtorEq, Nat.reduceEqDiff, Nat.reduceAdd, Nat.reduceLT, ↓us_iIsTrueList, r_iIsTrueList, hr]
    exact ⟨hx1, by unfold trueV; simp only [hr, false_and, decide_false]⟩
theorem sIsTrueList_ok (v : Value) (l : List Bs) (hl : l.length ≤ 1000000000) (w : World) (h : Sq fS 1 w v l) : Fn 47 [v] w (fun r _ => r = trueV l) := by
  (refine callsV_of mix Try.func47 c_sIsTrueList ?_; simp only [↓vsd, vsn, gW, qd, qv, ev, pick, argE, zipE, ne_eq, eq_self, forall_const, implies_true, if_true, if_false, reduceIte, reduceCtorEq, Nat.reduceEqDiff, Nat.reduceAdd, Nat.reduceLT, ↓us_sIsTrueList, r_sIsTrueList])
  refine m_call (sl6Rows_ok v l hl _ h) ?_
  rintro _ w1 hx1 rfl
  by_cases hr : IsRows l
  · simp only [↓vsd, vsn, gW, qd, qv, ev, pick, argE, zipE, ne_eq, eq_self, forall_const, implies_true, if_true, if_false, reduceIte, reduceCtorEq, Nat.reduceEqDiff, Nat.reduceAdd, Nat.reduceLT, ↓us_sIsTrueList, r_sIsTrueList, hr]
    refine m_call (sl7True_ok v l (by have := hr.2; omega) _ (by first | exact h.ext hx1 | exact h.ext (dr hx1))) ?_
    rintro _ w2 hx2 rfl
    have hx2 : Ext w1 w2 := by first | exact hx2 | exact ud hx2 | exact ud (ud hx2)
    simp only [↓vsd, vsn, gW, qd, qv, ev, pick, argE, zipE, ne_eq, eq_self, forall_const, implies_true, if_true, if_false, reduceIte, reduceCtorEq, Nat.reduceEqDiff, Nat.reduceAdd, Nat.reduceLT, ↓us_sIsTrueList, r_sIsTrueList]
    exact ⟨hx1.trans hx2, by unfold trueV; simp only [hr, true_and, decide_true]⟩
  · simp only [↓vsd, vsn, gW, qd, qv, ev, pick, argE, zipE, ne_eq, eq_self, forall_const, implies_true, if_true, if_false, reduceIte, reduceCtorEq, Nat.reduceEqDiff, Nat.reduceAdd, Nat.reduceLT, ↓us_sIsTrueList, r_sIsTrueList, hr]
    exact ⟨hx1, by unfold trueV; simp only [hr, false_and, decide_false]⟩
end Go.Proofs.Ytnincmnkdjlndaa
