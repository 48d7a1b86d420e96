/-
  Lists without repeats: the program's set and the reference's order; rows of two lists; repeats.
  Conditions: none.
-/
import Derived.Test.YthopbkemkfjebaaGreatKA53
import Derived.Test.YthopbkemkfjebaaGreatKA6
import Derived.Test.YthopbkemkfjebaaGreatKPl
import Derived.Test.YthopbkemkfjebaaGreatKVu
set_option linter.unusedSimpArgs false
set_option linter.unusedVariables false
set_option linter.defProp false
namespace Go.Proofs.YthopbkemkfjebaaGreat
open Go Go.RowKit
section
variable (P : Program) (k : KT) (e : Env) (w : World)
abbrev b133_1 : X := (.cond (.t 15) (.seq (.reg [2] (.c (.q 2 [] (.mv (.c (.bool false)))) .nil)) .ret) .skip)
def t133_1 := b133_1
theorem u133_1 : vcK P t133_1 k e w = vcK P b133_1 k e w := rfl
abbrev b133_2 : X := (.reg [3, 7, 8, 9] (.c (.q 16 [] (.mv (.t 3))) (.c (.q 17 [] (.mv (.t 5))) (.c (.e none [] (.mup false .string (.t 16) (.t 17) (.c (.bool true)))) .nil))))
def t133_2 := b133_2
theorem u133_2 : vcK P t133_2 k e w = vcK P b133_2 k e w := rfl
abbrev b133_3 : X := (.seq (.seq (.reg [3, 5, 7, 8, 9, 15] (.c (.q 13 [] (.mv (.t 3))) (.c (.q 14 [] (.mv (.t 5))) (.c (.q 15 [] (.mlk false .string (.bool false) (.t 13) (.t 14))) .nil)))) t133_1) t133_2)
def t133_3 := b133_3
theorem u133_3 : vcK P t133_3 k e w = vcK P b133_3 k e w := rfl
abbrev b133_4 : X := (.reg [3, 7, 8, 9] (.c (.q 18 [] (.bin .add (.t 9) (.c (.int .i64 1)))) (.c (.q 9 [] (.mv (.t 18))) .nil)))
def t133_4 := b133_4
theorem u133_4 : vcK P t133_4 k e w = vcK P b133_4 k e w := rfl
abbrev b133_5 : X := (.seq (.blk 1 (.seq (.reg [3, 5, 7, 8, 9] (.c (.q 11 [] (.ia 1 (.t 7) (.t 9))) (.c (.q 12 [] (.ld (.t 11))) (.c (.q 5 [] (.mv (.t 12))) .nil)))) t133_3)) t133_4)
def t133_5 := b133_5
theorem u133_5 : vcK P t133_5 k e w = vcK P b133_5 k e w := rfl
abbrev b133_6 : X := (.seq (.cond (.t 10) .skip (.exit 0)) t133_5)
def t133_6 := b133_6
theorem u133_6 : vcK P t133_6 k e w = vcK P b133_6 k e w := rfl
abbrev b133_7 : X := (.seq (.reg [3, 7, 8, 9, 10] (.c (.q 10 [] (.bin .lss (.t 9) (.t 8))) .nil)) t133_6)
def t133_7 := b133_7
theorem u133_7 : vcK P t133_7 k e w = vcK P b133_7 k e w := rfl
abbrev b133_8 : X := (.blk 0 (.loop [9] [3, 7, 8] t133_7))
def t133_8 := b133_8
theorem u133_8 : vcK P t133_8 k e w = vcK P b133_8 k e w := rfl
abbrev b133_9 : X := (.seq (.reg [2] (.c (.q 2 [] (.mv (.c (.bool true)))) .nil)) .ret)
def t133_9 := b133_9
theorem u133_9 : vcK P t133_9 k e w = vcK P b133_9 k e w := rfl
abbrev b133_10 : X := (.seq (.seq (.reg [3, 7, 8, 9] (.c (.q 7 [] (.mv (.t 0))) (.c (.q 8 [] (.lens (.t 7))) (.c (.q 9 [] (.mv (.c (.int .i64 0)))) .nil)))) t133_8) t133_9)
def t133_10 := b133_10
theorem u133_10 : vcK P t133_10 k e w = vcK P b133_10 k e w := rfl
abbrev b133_11 : X := (.seq (.reg [0, 3] (.c (.e (some 6) [] .mkmap) (.c (.q 3 [] (.mv (.t 6))) .nil))) t133_10)
def t133_11 := b133_11
theorem u133_11 : vcK P t133_11 k e w = vcK P b133_11 k e w := rfl
abbrev b133_0 : X := (.seq (.reg [0] (.c (.q 2 [] (.mv (.c (.bool false)))) .nil)) t133_11)
def x_iisTrue := b133_0
theorem u133_0 : vcK P x_iisTrue k e w = vcK P b133_0 k e w := rfl
def r_iisTrue : List XO := [(.mv (.t 2))]
theorem c_iisTrue : convF Tryz.prog [56, 58, 59, 60, 61, 62, 72, 73, 77, 97, 98, 109, 110, 111, 112, 115, 128, 136] Tryz.f133 [([0], []), ([0, 3], []), ([3, 7, 8, 9], []), ([9], [3, 7, 8]), ([3, 7, 8, 9, 10], []), ([3, 5, 7, 8, 9], []), ([3, 5, 7, 8, 9, 15], []), ([2], []), ([3, 7, 8, 9], []), ([3, 7, 8, 9], []), ([2], [])] = some (x_iisTrue, r_iisTrue) := by kernel_rfl
def us_iisTrue :=  (aI (aI (aI @u133_0 (aI @u133_1 @u133_2)) (aI @u133_3 (aI @u133_4 @u133_5))) (aI (aI @u133_6 (aI @u133_7 @u133_8)) (aI @u133_9 (aI @u133_10 @u133_11))))
abbrev b68_1 : X := (.cond (.t 10) .skip (.exit 0))
def t68_1 := b68_1
theorem u68_1 : vcK P t68_1 k e w = vcK P b68_1 k e w := rfl
abbrev b68_2 : X := (.cond (.t 22) (.seq (.reg [2] (.c (.q 2 [] (.mv (.c (.bool false)))) .nil)) .ret) .skip)
def t68_2 := b68_2
theorem u68_2 : vcK P t68_2 k e w = vcK P b68_2 k e w := rfl
abbrev b68_3 : X := (.reg [3, 4] (.c (.q 11 [] (.mv (.t 4))) (.c (.q 12 [] (.bin .add (.t 11) (.c (.int .i64 1)))) (.c (.q 4 [] (.mv (.t 12))) .nil))))
def t68_3 := b68_3
theorem u68_3 : vcK P t68_3 k e w = vcK P b68_3 k e w := rfl
abbrev b68_4 : X := (.seq (.blk 1 (.seq (.drw [3, 4, 22] (.c (.q 13 [] (.mv (.t 3))) (.c (.q 14 [] (.mv (.t 4))) (.c (.q 15 [] (.ia 1 (.t 13) (.t 14))) (.c (.q 16 [] (.ld (.t 15))) (.c (.q 17 [] (.mv (.t 3))) (.c (.q 18 [] (.mv (.t 4))) (.c (.q 19 [] (.bin .sub (.t 18) (.c (.int .i64 1)))) (.c (.q 20 [] (.ia 1 (.t 17) (.t 19))) (.c (.q 21 [] (.ld (.t 20))) (.c (.q 22 [] (.bin .eql (.t 16) (.t 21))) .nil))))))))))) t68_2)) t68_3)
def t68_4 := b68_4
theorem u68_4 : vcK P t68_4 k e w = vcK P b68_4 k e w := rfl
abbrev b68_5 : X := (.seq (.seq (.reg [3, 4, 10] (.c (.q 7 [] (.mv (.t 4))) (.c (.q 8 [] (.mv (.t 3))) (.c (.q 9 [] (.lens (.t 8))) (.c (.q 10 [] (.bin .lss (.t 7) (.t 9))) .nil))))) t68_1) t68_4)
def t68_5 := b68_5
theorem u68_5 : vcK P t68_5 k e w = vcK P b68_5 k e w := rfl
abbrev b68_6 : X := (.blk 0 (.loop [4] [3] t68_5))
def t68_6 := b68_6
theorem u68_6 : vcK P t68_6 k e w = vcK P b68_6 k e w := rfl
abbrev b68_7 : X := (.seq (.reg [2] (.c (.q 2 [] (.mv (.c (.bool true)))) .nil)) .ret)
def t68_7 := b68_7
theorem u68_7 : vcK P t68_7 k e w = vcK P b68_7 k e w := rfl
abbrev b68_8 : X := (.seq (.seq (.reg [3, 4] (.c (.q 4 [] (.mv (.c (.int .i64 1)))) .nil)) t68_6) t68_7)
def t68_8 := b68_8
theorem u68_8 : vcK P t68_8 k e w = vcK P b68_8 k e w := rfl
abbrev b68_9 : X := (.seq (.reg [3] (.c (.q 5 [] (.mv (.t 0))) (.c (.e (some 6) [] (.call false 121 [(.t 5)])) (.c (.q 3 [] (.mv (.t 6))) .nil)))) t68_8)
def t68_9 := b68_9
theorem u68_9 : vcK P t68_9 k e w = vcK P b68_9 k e w := rfl
abbrev b68_0 : X := (.seq (.reg [0] (.c (.q 2 [] (.mv (.c (.bool false)))) .nil)) t68_9)
def x_sl7True := b68_0
theorem u68_0 : vcK P x_sl7True k e w = vcK P b68_0 k e w := rfl
def r_sl7True : List XO := [(.mv (.t 2))]
theorem c_sl7True : convF Tryz.prog [56, 58, 59, 60, 61, 62, 72, 73, 77, 97, 98, 109, 110, 111, 112, 115, 128, 136] Tryz.f68 [([0], []), ([3], []), ([3, 4], []), ([4], [3]), ([3, 4, 10], []), ([3, 4, 22], []), ([2], []), ([3, 4], []), ([2], [])] = some (x_sl7True, r_sl7True) := by kernel_rfl
def us_sl7True :=  (aI (aI (aI @u68_0 @u68_1) (aI @u68_2 (aI @u68_3 @u68_4))) (aI (aI @u68_5 @u68_6) (aI @u68_7 (aI @u68_8 @u68_9))))
end
theorem take_snocB {l : List Bs} {k : Nat} (h : k < l.length) : l.take (k + 1) = l.take k ++ [l.getD k []] := by
  rw [List.take_add_one, List.getElem?_eq_getElem h, List.getD_eq_getElem?_getD, List.getElem?_eq_getElem h]; rfl
theorem put1_new {L : List Bs} {x : Bs} (h : x ∉ L) : put1 L x = L ++ [x] := by unfold put1; rw [if_neg h]
theorem iisTrue_ok (v : Value) (l : List Bs) (hl : l.length ≤ 1000000000) (w : World) (h : Sq fS 1 w v l) : Fn 133 [v] w (fun r _ => r = .bool (decide l.Nodup)) := by
  (refine callsV_of mix Tryz.func133 c_iisTrue ?_; simp only [↓vsd, vsn, gW, qd, qv, ev, pick, argE, zipE, ne_eq, eq_self, forall_const, implies_true, if_true, if_false, reduceIte, reduceCtorEq, Nat.reduceEqDiff, Nat.reduceAdd, Nat.reduceLT, ↓us_iisTrue, r_iisTrue])
  refine m_mkset ?_
  rintro m w1 hmb hs1 hx1 hsz
  have hq1 := h.ext hx1
  simp only [↓vsd, vsn, gW, qd, qv, ev, pick, argE, zipE, ne_eq, eq_self, forall_const, implies_true, if_true, if_false, reduceIte, reduceCtorEq, Nat.reduceEqDiff, Nat.reduceAdd, Nat.reduceLT, ↓us_iisTrue, r_iisTrue, hq1.facts]
  refine m_upto l.length (fun k vs w' => vs = [.int .i64 k] ∧ SetAt w' m (l.take k) ∧ (l.take k).Nodup ∧ Ext w w') ⟨rfl, by rw [List.take_zero]; exact hs1, by rw [List.take_zero]; exact List.Pairwise.nil, hx1⟩ ?_
  rintro k vs w2 hk ⟨rfl, hs2, hnd, hx2⟩
  have hq2 := h.ext hx2
  by_cases hlt : k < l.length
  · have hltI : (k : Int) < l.length := by omega
    have hltJ : ¬ (l.length : Int) ≤ k := by omega
    have a2 := hq2.at1 [] hlt
    have hsn := take_snocB hlt
    generalize l.getD k [] = r at *
    have hlk := hs2.look r
    by_cases hin : r ∈ l.take k
    · simp only [↓vsd, vsn, gW, qd, qv, ev, pick, argE, zipE, ne_eq, eq_self, forall_const, implies_true, if_true, if_false, reduceIte, reduceCtorEq, Nat.reduceEqDiff, Nat.reduceAdd, Nat.reduceLT, ↓us_iisTrue, r_iisTrue, hltI, hltJ, hq2.facts, a2, hlk, hin]
      refine ⟨by omega, hx2, (decide_eq_false fun hh => ?_).symm⟩
      have h3 : (l.take (k + 1)).Nodup := (List.take_sublist _ _).nodup hh
      rw [hsn] at h3
      exact (List.nodup_append.1 h3).2.2 r hin r (by simp) rfl
    · simp only [↓vsd, vsn, gW, qd, qv, ev, pick, argE, zipE, ne_eq, eq_self, forall_const, implies_true, if_true, if_false, reduceIte, reduceCtorEq, Nat.reduceEqDiff, Nat.reduceAdd, Nat.reduceLT, ↓us_iisTrue, r_iisTrue, hltI, hltJ, hq2.facts, a2, hlk, hin]
      refine ⟨by omega, m_put hs2 ?_⟩
      rintro w3 hs3 hu3
      have hx3 : Ext w w3 := hu3.below hx2 (by omega)
      simp only [↓vsd, vsn, gW, qd, qv, ev, pick, argE, zipE, ne_eq, eq_self, forall_const, implies_true, if_true, if_false, reduceIte, reduceCtorEq, Nat.reduceEqDiff, Nat.reduceAdd, Nat.reduceLT, ↓us_iisTrue, r_iisTrue]
      refine ⟨inR_i64 (by omega), UpTo.next hlt ⟨rfl, by rw [hsn, ← put1_new hin]; exact hs3, ?_, hx3⟩⟩
      rw [hsn]
      exact List.nodup_append.2 ⟨hnd, by simp, fun a ha b hb e => hin (by rw [← List.mem_singleton.1 hb, ← e]; exact ha)⟩
  · obtain rfl : k = l.length := by omega
    have hltI : ¬ (l.length : Int) < l.length := by omega
    rw [List.take_length] at hnd
    simp only [↓vsd, vsn, gW, qd, qv, ev, pick, argE, zipE, ne_eq, eq_self, forall_const, implies_true, if_true, if_false, reduceIte, reduceCtorEq, Nat.reduceEqDiff, Nat.reduceAdd, Nat.reduceLT, ↓us_iisTrue, r_iisTrue, hltI]
    exact ⟨hx2, (decide_eq_true hnd).symm⟩
theorem sl7True_ok (v : Value) (l : List Bs) (hl : l.length ≤ 1000000) (w : World) (h : Sq fS 1 w v l) : Fn 68 [v] w (fun r _ => r = .bool (decide l.Nodup)) := by
  (refine callsV_of mix Tryz.func68 c_sl7True ?_; simp only [↓vsd, vsn, gW, qd, qv, ev, pick, argE, zipE, ne_eq, eq_self, forall_const, implies_true, if_true, if_false, reduceIte, reduceCtorEq, Nat.reduceEqDiff, Nat.reduceAdd, Nat.reduceLT, ↓us_sl7True, r_sl7True])
  refine m_call (sl6Sort_ok _ _ v (Nat.le_refl _) hl _ h) ?_
  rintro x w1 hx1 ho1
  have hsl : (srt l).length = l.length := srt_len l
  have hnd := sorted_nodup (l := l)
  rw [hsl] at hnd
  have hq1 := ho1.sq
  generalize srt l = s at *
  simp only [↓vsd, vsn, gW, qd, qv, ev, pick, argE, zipE, ne_eq, eq_self, forall_const, implies_true, if_true, if_false, reduceIte, reduceCtorEq, Nat.reduceEqDiff, Nat.reduceAdd, Nat.reduceLT, ↓us_sl7True, r_sl7True]
  refine m_upto s.length (fun k vs w' => vs = [.int .i64 (k + 1 : Nat)] ∧ (∀ q, q < k → q + 1 < s.length → s.getD (q + 1) [] ≠ s.getD q []) ∧ Ext w1 w') ⟨rfl, fun q h1 => by omega, Ext.refl _⟩ ?_
  rintro k vs w2 hk ⟨rfl, hup, hx2⟩
  have hq2 := hq1.ext hx2
  by_cases hlt : k + 1 < s.length
  · have hltI : ((k + 1 : Nat) : Int) < s.length := by omega
    have hltJ : ¬ (s.length : Int) ≤ (k + 1 : Nat) := by omega
    have a1 := hq2.at1 [] hlt
    have a2 := hq2.at1 [] (i := k) (by omega)
    have e1 : ((k + 1 : Nat) : Int) - 1 = (k : Nat) := by omega
    have e2 : ((k + 1 : Nat) : Int) + 1 = (k + 1 + 1 : Nat) := by omega
    by_cases he : s.getD (k + 1) [] = s.getD k []
    · simp only [↓vsd, vsn, gW, qd, qv, ev, pick, argE, zipE, ne_eq, eq_self, forall_const, implies_true, if_true, if_false, reduceIte, reduceCtorEq, Nat.reduceEqDiff, Nat.reduceAdd, Nat.reduceLT, ↓us_sl7True, r_sl7True, hq2.facts, hltI, hltJ, a1, a2, e1, he]
      refine ⟨by omega, inR_i64 (by omega), by omega, by first | exact hx1.trans hx2 | exact hx1.trans (dr hx2), (decide_eq_false fun hh => ?_).symm⟩
      exact (hnd.2 hh) k (by omega) he
    · simp only [↓vsd, vsn, gW, qd, qv, ev, pick, argE, zipE, ne_eq, eq_self, forall_const, implies_true, if_true, if_false, reduceIte, reduceCtorEq, Nat.reduceEqDiff, Nat.reduceAdd, Nat.reduceLT, ↓us_sl7True, r_sl7True, hq2.facts, hltI, hltJ, a1, a2, e1, he, e2]
      refine ⟨by omega, inR_i64 (by omega), by omega, inR_i64 (by omega), UpTo.next (by omega) ⟨rfl, fun q h1 h2 => ?_, by first | exact hx2 | exact dr hx2⟩⟩
      by_cases hqk : q = k
      · rw [hqk]; exact he
      · exact hup q (by omega) h2
  · have hltI : ¬ ((k + 1 : Nat) : Int) < s.length := by omega
    simp only [↓vsd, vsn, gW, qd, qv, ev, pick, argE, zipE, ne_eq, eq_self, forall_const, implies_true, if_true, if_false, reduceIte, reduceCtorEq, Nat.reduceEqDiff, Nat.reduceAdd, Nat.reduceLT, ↓us_sl7True, r_sl7True, hq2.facts, hltI]
    exact ⟨hx1.trans hx2, (decide_eq_true (hnd.1 fun q hq => hup q (by omega) (by omega))).symm⟩
end Go.Proofs.YthopbkemkfjebaaGreat
