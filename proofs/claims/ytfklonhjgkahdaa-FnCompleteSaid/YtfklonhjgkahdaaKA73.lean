/-
  Lists without repeats: the program's set and the reference's order; rows of two lists; repeats.
  Conditions: none.
-/
import Derived.Test.YtfklonhjgkahdaaKA53
import Derived.Test.YtfklonhjgkahdaaKA6
import Derived.Test.YtfklonhjgkahdaaKPl
import Derived.Test.YtfklonhjgkahdaaKVu
set_option linter.unusedSimpArgs false
set_option linter.unusedVariables false
set_option linter.defProp false
namespace Go.Proofs.Ytfklonhjgkahdaa
open Go Go.RowKit
section
variable (P : Program) (k : KT) (e : Env) (w : World)
abbrev b63_1 : X := (.cond (.t 15) (.seq (.reg [2] (.c (.q 2 [] (.mv (.c (.bool false)))) .nil)) .ret) .skip)
def t63_1 := b63_1
theorem u63_1 : vcK P t63_1 k e w = vcK P b63_1 k e w := rfl
abbrev b63_2 : X := (.reg [3, 7, 8, 9] (.c (.q 16 [] (.mv (.t 3))) (.c (.q 17 [] (.mv (.t 5))) (.c (.e none [] (.mup false .string (.t 16) (.t 17) (.c (.bool true)))) .nil))))
def t63_2 := b63_2
theorem u63_2 : vcK P t63_2 k e w = vcK P b63_2 k e w := rfl
abbrev b63_3 : X := (.seq (.seq (.reg [3, 5, 7, 8, 9, 15] (.c (.q 13 [] (.mv (.t 3))) (.c (.q 14 [] (.mv (.t 5))) (.c (.q 15 [] (.mlk false .string (.bool false) (.t 13) (.t 14))) .nil)))) t63_1) t63_2)
def t63_3 := b63_3
theorem u63_3 : vcK P t63_3 k e w = vcK P b63_3 k e w := rfl
abbrev b63_4 : X := (.reg [3, 7, 8, 9] (.c (.q 18 [] (.bin .add (.t 9) (.c (.int .i64 1)))) (.c (.q 9 [] (.mv (.t 18))) .nil)))
def t63_4 := b63_4
theorem u63_4 : vcK P t63_4 k e w = vcK P b63_4 k e w := rfl
abbrev b63_5 : X := (.seq (.blk 1 (.seq (.reg [3, 5, 7, 8, 9] (.c (.q 11 [] (.ia 1 (.t 7) (.t 9))) (.c (.q 12 [] (.ld (.t 11))) (.c (.q 5 [] (.mv (.t 12))) .nil)))) t63_3)) t63_4)
def t63_5 := b63_5
theorem u63_5 : vcK P t63_5 k e w = vcK P b63_5 k e w := rfl
abbrev b63_6 : X := (.seq (.cond (.t 10) .skip (.exit 0)) t63_5)
def t63_6 := b63_6
theorem u63_6 : vcK P t63_6 k e w = vcK P b63_6 k e w := rfl
abbrev b63_7 : X := (.seq (.reg [3, 7, 8, 9, 10] (.c (.q 10 [] (.bin .lss (.t 9) (.t 8))) .nil)) t63_6)
def t63_7 := b63_7
theorem u63_7 : vcK P t63_7 k e w = vcK P b63_7 k e w := rfl
abbrev b63_8 : X := (.blk 0 (.loop [9] [3, 7, 8] t63_7))
def t63_8 := b63_8
theorem u63_8 : vcK P t63_8 k e w = vcK P b63_8 k e w := rfl
abbrev b63_9 : X := (.seq (.reg [2] (.c (.q 2 [] (.mv (.c (.bool true)))) .nil)) .ret)
def t63_9 := b63_9
theorem u63_9 : vcK P t63_9 k e w = vcK P b63_9 k e w := rfl
abbrev b63_10 : X := (.seq (.seq (.reg [3, 7, 8, 9] (.c (.q 7 [] (.mv (.t 0))) (.c (.q 8 [] (.lens (.t 7))) (.c (.q 9 [] (.mv (.c (.int .i64 0)))) .nil)))) t63_8) t63_9)
def t63_10 := b63_10
theorem u63_10 : vcK P t63_10 k e w = vcK P b63_10 k e w := rfl
abbrev b63_11 : X := (.seq (.reg [0, 3] (.c (.e (some 6) [] .mkmap) (.c (.q 3 [] (.mv (.t 6))) .nil))) t63_10)
def t63_11 := b63_11
theorem u63_11 : vcK P t63_11 k e w = vcK P b63_11 k e w := rfl
abbrev b63_0 : X := (.seq (.reg [0] (.c (.q 2 [] (.mv (.c (.bool false)))) .nil)) t63_11)
def x_iisTrue := b63_0
theorem u63_0 : vcK P x_iisTrue k e w = vcK P b63_0 k e w := rfl
def r_iisTrue : List XO := [(.mv (.t 2))]
theorem c_iisTrue : convF Try.prog [38, 39, 41, 42, 49, 54, 55, 57, 58, 59, 73, 79, 81, 84, 87, 139] Try.f63 [([0], []), ([0, 3], []), ([3, 7, 8, 9], []), ([9], [3, 7, 8]), ([3, 7, 8, 9, 10], []), ([3, 5, 7, 8, 9], []), ([3, 5, 7, 8, 9, 15], []), ([2], []), ([3, 7, 8, 9], []), ([3, 7, 8, 9], []), ([2], [])] = some (x_iisTrue, r_iisTrue) := by kernel_rfl
def us_iisTrue :=  (aI (aI (aI @u63_0 (aI @u63_1 @u63_2)) (aI @u63_3 (aI @u63_4 @u63_5))) (aI (aI @u63_6 (aI @u63_7 @u63_8)) (aI @u63_9 (aI @u63_10 @u63_11))))
abbrev b69_1 : X := (.cond (.t 10) .skip (.exit 0))
def t69_1 := b69_1
theorem u69_1 : vcK P t69_1 k e w = vcK P b69_1 k e w := rfl
abbrev b69_2 : X := (.cond (.t 22) (.seq (.reg [2] (.c (.q 2 [] (.mv (.c (.bool false)))) .nil)) .ret) .skip)
def t69_2 := b69_2
theorem u69_2 : vcK P t69_2 k e w = vcK P b69_2 k e w := rfl
abbrev b69_3 : X := (.reg [3, 4] (.c (.q 11 [] (.mv (.t 4))) (.c (.q 12 [] (.bin .add (.t 11) (.c (.int .i64 1)))) (.c (.q 4 [] (.mv (.t 12))) .nil))))
def t69_3 := b69_3
theorem u69_3 : vcK P t69_3 k e w = vcK P b69_3 k e w := rfl
abbrev b69_4 : X := (.seq (.blk 1 (.seq (.drw [3, 4, 22] (.c (.q 13 [] (.mv (.t 3))) (.c (.q 14 [] (.mv (.t 4))) (.c (.q 15 [] (.ia 1 (.t 13) (.t 14))) (.c (.q 16 [] (.ld (.t 15))) (.c (.q 17 [] (.mv (.t 3))) (.c (.q 18 [] (.mv (.t 4))) (.c (.q 19 [] (.bin .sub (.t 18) (.c (.int .i64 1)))) (.c (.q 20 [] (.ia 1 (.t 17) (.t 19))) (.c (.q 21 [] (.ld (.t 20))) (.c (.q 22 [] (.bin .eql (.t 16) (.t 21))) .nil))))))))))) t69_2)) t69_3)
def t69_4 := b69_4
theorem u69_4 : vcK P t69_4 k e w = vcK P b69_4 k e w := rfl
abbrev b69_5 : X := (.seq (.seq (.reg [3, 4, 10] (.c (.q 7 [] (.mv (.t 4))) (.c (.q 8 [] (.mv (.t 3))) (.c (.q 9 [] (.lens (.t 8))) (.c (.q 10 [] (.bin .lss (.t 7) (.t 9))) .nil))))) t69_1) t69_4)
def t69_5 := b69_5
theorem u69_5 : vcK P t69_5 k e w = vcK P b69_5 k e w := rfl
abbrev b69_6 : X := (.blk 0 (.loop [4] [3] t69_5))
def t69_6 := b69_6
theorem u69_6 : vcK P t69_6 k e w = vcK P b69_6 k e w := rfl
abbrev b69_7 : X := (.seq (.reg [2] (.c (.q 2 [] (.mv (.c (.bool true)))) .nil)) .ret)
def t69_7 := b69_7
theorem u69_7 : vcK P t69_7 k e w = vcK P b69_7 k e w := rfl
abbrev b69_8 : X := (.seq (.seq (.reg [3, 4] (.c (.q 4 [] (.mv (.c (.int .i64 1)))) .nil)) t69_6) t69_7)
def t69_8 := b69_8
theorem u69_8 : vcK P t69_8 k e w = vcK P b69_8 k e w := rfl
abbrev b69_9 : X := (.seq (.reg [3] (.c (.q 5 [] (.mv (.t 0))) (.c (.e (some 6) [] (.call false 94 [(.t 5)])) (.c (.q 3 [] (.mv (.t 6))) .nil)))) t69_8)
def t69_9 := b69_9
theorem u69_9 : vcK P t69_9 k e w = vcK P b69_9 k e w := rfl
abbrev b69_0 : X := (.seq (.reg [0] (.c (.q 2 [] (.mv (.c (.bool false)))) .nil)) t69_9)
def x_sl7True := b69_0
theorem u69_0 : vcK P x_sl7True k e w = vcK P b69_0 k e w := rfl
def r_sl7True : List XO := [(.mv (.t 2))]
theorem c_sl7True : convF Try.prog [38, 39, 41, 42, 49, 54, 55, 57, 58, 59, 73, 79, 81, 84, 87, 139] Try.f69 [([0], []), ([3], []), ([3, 4], []), ([4], [3]), ([3, 4, 10], []), ([3, 4, 22], []), ([2], []), ([3, 4], []), ([2], [])] = some (x_sl7True, r_sl7True) := by kernel_rfl
def us_sl7True :=  (aI (aI (aI @u69_0 @u69_1) (aI @u69_2 (aI @u69_3 @u69_4))) (aI (aI @u69_5 @u69_6) (aI @u69_7 (aI @u69_8 @u69_9))))
end
theorem take_snocB {l : List Bs} {k : Nat} (h : k < l.length) : l.take (k + 1) = l.take k ++ [l.getD k []] := by
  rw [List.take_add_one, List.getElem?_eq_getElem h, List.getD_eq_getElem?_getD, List.getElem?_eq_getElem h]; rfl
theorem put1_new {L : List Bs} {x : Bs} (h : x ∉ L) : put1 L x = L ++ [x] := by unfold put1; rw [if_neg h]
theorem iisTrue_ok (v : Value) (l : List Bs) (hl : l.length ≤ 1000000000) (w : World) (h : Sq fS 1 w v l) : Fn 63 [v] w (fun r _ => r = .bool (decide l.Nodup)) := by
  (refine callsV_of mix Try.func63 c_iisTrue ?_; simp only [↓vsd, vsn, gW, qd, qv, ev, pick, argE, zipE, ne_eq, eq_self, forall_const, implies_true, if_true, if_false, reduceIte, reduceCtorEq, Nat.reduceEqDiff, Nat.reduceAdd, Nat.reduceLT, ↓us_iisTrue, r_iisTrue])
  refine m_mkset ?_
  rintro m w1 hmb hs1 hx1 hsz
  have hq1 := h.ext hx1
  simp only [↓vsd, vsn, gW, qd, qv, ev, pick, argE, zipE, ne_eq, eq_self, forall_const, implies_true, if_true, if_false, reduceIte, reduceCtorEq, Nat.reduceEqDiff, Nat.reduceAdd, Nat.reduceLT, ↓us_iisTrue, r_iisTrue, hq1.facts]
  refine m_upto l.length (fun k vs w' => vs = [.int .i64 k] ∧ SetAt w' m (l.take k) ∧ (l.take k).Nodup ∧ Ext w w') ⟨rfl, by rw [List.take_zero]; exact hs1, by rw [List.take_zero]; exact List.Pairwise.nil, hx1⟩ ?_
  rintro k vs w2 hk ⟨rfl, hs2, hnd, hx2⟩
  have hq2 := h.ext hx2
  by_cases hlt : k < l.length
  · have hltI : (k : Int) < l.length := by omega
    have hltJ : ¬ (l.length : Int) ≤ k := by omega
    have a2 := hq2.at1 [] hlt
    have hsn := take_snocB hlt
    generalize l.getD k [] = r at *
    have hlk := hs2.look r
    by_cases hin : r ∈ l.take k
    · simp only [↓vsd, vsn, gW, qd, qv, ev, pick, argE, zipE, ne_eq, eq_self, forall_const, implies_true, if_true, if_false, reduceIte, reduceCtorEq, Nat.reduceEqDiff, Nat.reduceAdd, Nat.reduceLT, ↓us_iisTrue, r_iisTrue, hltI, hltJ, hq2.facts, a2, hlk, hin]
      refine ⟨by omega, hx2, (decide_eq_false fun hh => ?_).symm⟩
      have h3 : (l.take (k + 1)).Nodup := (List.take_sublist _ _).nodup hh
      rw [hsn] at h3
      exact (List.nodup_append.1 h3).2.2 r hin r (by simp) rfl
    · simp only [↓vsd, vsn, gW, qd, qv, ev, pick, argE, zipE, ne_eq, eq_self, forall_const, implies_true, if_true, if_false, reduceIte, reduceCtorEq, Nat.reduceEqDiff, Nat.reduceAdd, Nat.reduceLT, ↓us_iisTrue, r_iisTrue, hltI, hltJ, hq2.facts, a2, hlk, hin]
      refine ⟨by omega, m_put hs2 ?_⟩
      rintro w3 hs3 hu3
      have hx3 : Ext w w3 := hu3.below hx2 (by omega)
      simp only [↓vsd, vsn, gW, qd, qv, ev, pick, argE, zipE, ne_eq, eq_self, forall_const, implies_true, if_true, if_false, reduceIte, reduceCtorEq, Nat.reduceEqDiff, Nat.reduceAdd, Nat.reduceLT, ↓us_iisTrue, r_iisTrue]
      refine ⟨inR_i64 (by omega), UpTo.next hlt ⟨rfl, by rw [hsn, ← put1_new hin]; exact hs3, ?_, hx3⟩⟩
      rw [hsn]
      exact List.nodup_append.2 ⟨hnd, by simp, fun a ha b hb e => hin (by rw [← List.mem_singleton.1 hb, ← e]; exact ha)⟩
  · obtain rfl : k = l.length := by omega
    have hltI : ¬ (l.length : Int) < l.length := by omega
    rw [List.take_length] at hnd
    simp only [↓vsd, vsn, gW, qd, qv, ev, pick, argE, zipE, ne_eq, eq_self, forall_const, implies_true, if_true, if_false, reduceIte, reduceCtorEq, Nat.reduceEqDiff, Nat.reduceAdd, Nat.reduceLT, ↓us_iisTrue, r_iisTrue, hltI]
    exact ⟨hx2, (decide_eq_true hnd).symm⟩
theorem sl7True_ok (v : Value) (l : List Bs) (hl : l.length ≤ 1000000) (w : World) (h : Sq fS 1 w v l) : Fn 69 [v] w (fun r _ => r = .bool (decide l.Nodup)) := by
  (refine callsV_of mix Try.func69 c_sl7True ?_; simp only [↓vsd, vsn, gW, qd, qv, ev, pick, argE, zipE, ne_eq, eq_self, forall_const, implies_true, if_true, if_false, reduceIte, reduceCtorEq, Nat.reduceEqDiff, Nat.reduceAdd, Nat.reduceLT, ↓us_sl7True, r_sl7True])
  refine m_call (sl6Sort_ok _ _ v (Nat.le_refl _) hl _ h) ?_
  rintro x w1 hx1 ho1
  have hsl : (srt l).length = l.length := srt_len l
  have hnd := sorted_nodup (l := l)
  rw [hsl] at hnd
  have hq1 := ho1.sq
  generalize srt l = s at *
  simp only [↓vsd, vsn, gW, qd, qv, ev, pick, argE, zipE, ne_eq, eq_self, forall_const, implies_true, if_true, if_false, reduceIte, reduceCtorEq, Nat.reduceEqDiff, Nat.reduceAdd, Nat.reduceLT, ↓us_sl7True, r_sl7True]
  refine m_upto s.length (fun k vs w' => vs = [.int .i64 (k + 1 : Nat)] ∧ (∀ q, q < k → q + 1 < s.length → s.getD (q + 1) [] ≠ s.getD q []) ∧ Ext w1 w') ⟨rfl, fun q h1 => by omega, Ext.refl _⟩ ?_
  rintro k vs w2 hk ⟨rfl, hup, hx2⟩
  have hq2 := hq1.ext hx2
  by_cases hlt : k + 1 < s.length
  · have hltI : ((k + 1 : Nat) : Int) < s.length := by omega
    have hltJ : ¬ (s.length : Int) ≤ (k + 1 : Nat) := by omega
    have a1 := hq2.at1 [] hlt
    have a2 := hq2.at1 [] (i := k) (by omega)
    have e1 : ((k + 1 : Nat) : Int) - 1 = (k : Nat) := by omega
    have e2 : ((k + 1 : Nat) : Int) + 1 = (k + 1 + 1 : Nat) := by omega
    by_cases he : s.getD (k + 1) [] = s.getD k []
    · simp only [↓vsd, vsn, gW, qd, qv, ev, pick, argE, zipE, ne_eq, eq_self, forall_const, implies_true, if_true, if_false, reduceIte, reduceCtorEq, Nat.reduceEqDiff, Nat.reduceAdd, Nat.reduceLT, ↓us_sl7True, r_sl7True, hq2.facts, hltI, hltJ, a1, a2, e1, he]
      refine ⟨by omega, inR_i64 (by omega), by omega, by first | exact hx1.trans hx2 | exact hx1.trans (dr hx2), (decide_eq_false fun hh => ?_).symm⟩
      exact (hnd.2 hh) k (by omega) he
    · simp only [↓vsd, vsn, gW, qd, qv, ev, pick, argE, zipE, ne_eq, eq_self, forall_const, implies_true, if_true, if_false, reduceIte, reduceCtorEq, Nat.reduceEqDiff, Nat.reduceAdd, Nat.reduceLT, ↓us_sl7True, r_sl7True, hq2.facts, hltI, hltJ, a1, a2, e1, he, e2]
      refine ⟨by omega, inR_i64 (by omega), by omega, inR_i64 (by omega), UpTo.next (by omega) ⟨rfl, fun q h1 h2 => ?_, by first | exact hx2 | exact dr hx2⟩⟩
      by_cases hqk : q = k
      · rw [hqk]; exact he
      · exact hup q (by omega) h2
  · have hltI : ¬ ((k + 1 : Nat) : Int) < s.length := by omega
    simp only [↓vsd, vsn, gW, qd, qv, ev, pick, argE, zipE, ne_eq, eq_self, forall_const, implies_true, if_true, if_false, reduceIte, reduceCtorEq, Nat.reduceEqDiff, Nat.reduceAdd, Nat.reduceLT, ↓us_sl7True, r_sl7True, hq2.facts, hltI]
    exact ⟨hx1.trans hx2, (decide_eq_true (hnd.1 fun q hq => hup q (by omega) (by omega))).symm⟩
end Go.Proofs.Ytfklonhjgkahdaa
