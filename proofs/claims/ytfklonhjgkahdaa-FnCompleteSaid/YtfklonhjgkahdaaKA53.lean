/-
  Sorted lists of texts: the reference's merge, the library's sort, the search in a sorted list.
  Conditions: none.
-/
import Derived.Test.YtfklonhjgkahdaaKA25
import Derived.Test.YtfklonhjgkahdaaKD10
import Derived.Test.YtfklonhjgkahdaaKPs
import Derived.Sort.OwnSorted
import Derived.Test.YtfklonhjgkahdaaProg
set_option linter.unusedSimpArgs false
set_option linter.unusedVariables false
set_option linter.defProp false
namespace Go.Proofs.Ytfklonhjgkahdaa
open Go Go.RowKit
section
variable (P : Program) (k : KT) (e : Env) (w : World)
abbrev b94_1 : X := (.cond (.t 11) (.seq (.reg [2] (.c (.q 12 [] (.mv (.t 3))) (.c (.q 2 [] (.mv (.t 12))) .nil))) .ret) .skip)
def t94_1 := b94_1
theorem u94_1 : vcK P t94_1 k e w = vcK P b94_1 k e w := rfl
abbrev b94_2 : X := (.cond (.t 32) .skip (.exit 0))
def t94_2 := b94_2
theorem u94_2 : vcK P t94_2 k e w = vcK P b94_2 k e w := rfl
abbrev b94_3 : X := (.reg [4, 5, 6] (.c (.q 46 [] (.mv (.t 5))) (.c (.q 47 [] (.ssl 1 (.t 46) (some (.c (.int .i64 1))) none)) (.c (.q 5 [] (.mv (.t 47))) .nil))))
def t94_3 := b94_3
theorem u94_3 : vcK P t94_3 k e w = vcK P b94_3 k e w := rfl
abbrev b94_4 : X := (.reg [4, 5, 6] (.c (.q 54 [] (.mv (.t 4))) (.c (.q 55 [] (.ssl 1 (.t 54) (some (.c (.int .i64 1))) none)) (.c (.q 4 [] (.mv (.t 55))) .nil))))
def t94_4 := b94_4
theorem u94_4 : vcK P t94_4 k e w = vcK P b94_4 k e w := rfl
abbrev b94_5 : X := (.cond (.t 39) (.seq (.reg [4, 5, 6] (.c (.q 40 [] (.mv (.t 6))) (.c (.q 41 [] (.mv (.t 5))) (.c (.q 42 [] (.ia 1 (.t 41) (.c (.int .i64 0)))) (.c (.q 43 [] (.ld (.t 42))) (.c (.e (some 44) [] (.bsl 9 1 [(.t 43)])) (.c (.e (some 45) [] (.app 24 9 1 16 [(S [])] 24 (.t 40) (.t 44))) (.c (.q 6 [] (.mv (.t 45))) .nil)))))))) t94_3) (.seq (.reg [4, 5, 6] (.c (.q 48 [] (.mv (.t 6))) (.c (.q 49 [] (.mv (.t 4))) (.c (.q 50 [] (.ia 1 (.t 49) (.c (.int .i64 0)))) (.c (.q 51 [] (.ld (.t 50))) (.c (.e (some 52) [] (.bsl 9 1 [(.t 51)])) (.c (.e (some 53) [] (.app 24 9 1 16 [(S [])] 24 (.t 48) (.t 52))) (.c (.q 6 [] (.mv (.t 53))) .nil)))))))) t94_4))
def t94_5 := b94_5
theorem u94_5 : vcK P t94_5 k e w = vcK P b94_5 k e w := rfl
abbrev b94_6 : X := (.blk 1 (.seq (.drw [4, 5, 6, 39] (.c (.q 33 [] (.mv (.t 5))) (.c (.q 34 [] (.ia 1 (.t 33) (.c (.int .i64 0)))) (.c (.q 35 [] (.ld (.t 34))) (.c (.q 36 [] (.mv (.t 4))) (.c (.q 37 [] (.ia 1 (.t 36) (.c (.int .i64 0)))) (.c (.q 38 [] (.ld (.t 37))) (.c (.q 39 [] (.bin .lss (.t 35) (.t 38))) .nil)))))))) t94_5))
def t94_6 := b94_6
theorem u94_6 : vcK P t94_6 k e w = vcK P b94_6 k e w := rfl
abbrev b94_7 : X := (.seq (.seq (.reg [4, 5, 6, 32] (.c (.q 25 [] (.mv (.t 4))) (.c (.q 26 [] (.lens (.t 25))) (.c (.q 27 [] (.bin .gtr (.t 26) (.c (.int .i64 0)))) (.c (.q 28 [] (.mv (.t 27))) (.c (.q 29 [(28, true)] (.mv (.t 5))) (.c (.q 30 [(28, true)] (.lens (.t 29))) (.c (.q 31 [(28, true)] (.bin .gtr (.t 30) (.c (.int .i64 0)))) (.c (.q 32 [] (.pick (.t 28) (.t 31) (.c (.bool false)))) .nil))))))))) t94_2) t94_6)
def t94_7 := b94_7
theorem u94_7 : vcK P t94_7 k e w = vcK P b94_7 k e w := rfl
abbrev b94_8 : X := (.seq (.reg [2] (.c (.q 56 [] (.mv (.t 6))) (.c (.q 57 [] (.mv (.t 4))) (.c (.e (some 58) [] (.app 24 9 1 16 [(S [])] 24 (.t 56) (.t 57))) (.c (.q 59 [] (.mv (.t 5))) (.c (.e (some 60) [] (.app 24 9 1 16 [(S [])] 24 (.t 58) (.t 59))) (.c (.q 2 [] (.mv (.t 60))) .nil))))))) .ret)
def t94_8 := b94_8
theorem u94_8 : vcK P t94_8 k e w = vcK P b94_8 k e w := rfl
abbrev b94_9 : X := (.seq (.blk 0 (.loop [4, 5, 6] [] t94_7)) t94_8)
def t94_9 := b94_9
theorem u94_9 : vcK P t94_9 k e w = vcK P b94_9 k e w := rfl
abbrev b94_10 : X := (.seq (.reg [4, 5, 6] (.c (.q 6 [] (.mv (.c (.slice none 0 0)))) .nil)) t94_9)
def t94_10 := b94_10
theorem u94_10 : vcK P t94_10 k e w = vcK P b94_10 k e w := rfl
abbrev b94_11 : X := (.seq (.drw [4, 5] (.c (.q 13 [] (.mv (.t 3))) (.c (.q 14 [] (.mv (.t 3))) (.c (.q 15 [] (.lens (.t 14))) (.c (.q 16 [] (.bin .quo (.t 15) (.c (.int .i64 2)))) (.c (.q 17 [] (.ssl 1 (.t 13) none (some (.t 16)))) (.c (.q 19 [] (.mv (.t 3))) (.c (.q 20 [] (.mv (.t 3))) (.c (.q 21 [] (.lens (.t 20))) (.c (.q 22 [] (.bin .quo (.t 21) (.c (.int .i64 2)))) (.c (.q 23 [] (.ssl 1 (.t 19) (some (.t 22)) none)) (.c (.e (some 18) [] (.call false 94 [(.t 17)])) (.c (.e (some 24) [] (.call false 94 [(.t 23)])) (.c (.q 4 [] (.mv (.t 18))) (.c (.q 5 [] (.mv (.t 24))) .nil))))))))))))))) t94_10)
def t94_11 := b94_11
theorem u94_11 : vcK P t94_11 k e w = vcK P b94_11 k e w := rfl
abbrev b94_12 : X := (.seq (.seq (.reg [3, 11] (.c (.q 9 [] (.mv (.t 3))) (.c (.q 10 [] (.lens (.t 9))) (.c (.q 11 [] (.bin .lss (.t 10) (.c (.int .i64 2)))) .nil)))) t94_1) t94_11)
def t94_12 := b94_12
theorem u94_12 : vcK P t94_12 k e w = vcK P b94_12 k e w := rfl
abbrev b94_13 : X := (.seq (.reg [3] (.c (.q 7 [] (.mv (.t 0))) (.c (.e (some 8) [] (.call false 78 [(.t 7)])) (.c (.q 3 [] (.mv (.t 8))) .nil)))) t94_12)
def t94_13 := b94_13
theorem u94_13 : vcK P t94_13 k e w = vcK P b94_13 k e w := rfl
abbrev b94_0 : X := (.seq (.reg [0] (.c (.q 2 [] (.mv (.c (.slice none 0 0)))) .nil)) t94_13)
def x_sl6Sort := b94_0
theorem u94_0 : vcK P x_sl6Sort k e w = vcK P b94_0 k e w := rfl
def r_sl6Sort : List XO := [(.mv (.t 2))]
theorem c_sl6Sort : convF Try.prog [38, 39, 41, 42, 49, 54, 55, 57, 58, 59, 73, 79, 81, 84, 87, 139] Try.f94 [([0], []), ([3], []), ([3, 11], []), ([2], []), ([4, 5], []), ([4, 5, 6], []), ([4, 5, 6], []), ([4, 5, 6, 32], []), ([4, 5, 6, 39], []), ([4, 5, 6], []), ([4, 5, 6], []), ([4, 5, 6], []), ([4, 5, 6], []), ([2], [])] = some (x_sl6Sort, r_sl6Sort) := by kernel_rfl
def us_sl6Sort :=  (aI (aI (aI @u94_0 (aI @u94_1 @u94_2)) (aI (aI @u94_3 @u94_4) (aI @u94_5 @u94_6))) (aI (aI @u94_7 (aI @u94_8 @u94_9)) (aI (aI @u94_10 @u94_11) (aI @u94_12 @u94_13))))
end
theorem head_cons {l : List Bs} (h : 0 < l.length) : l = l.getD 0 [] :: l.drop 1 := by
  cases l with
  | nil => simp at h
  | cons a l => rfl
/-- A list of texts as the reference sorts it. -/
theorem sl6Sort_ok : ∀ (n : Nat) (l : List Bs) (v : Value), l.length ≤ n → n ≤ 1000000 → ∀ w, Sq fS 1 w v l → Fn 94 [v] w (fun r w' => Own fS 1 9 w.heap.size w' r (srt l)) := by
  intro n
  induction n with
  | zero =>
    intro l v hl hn w h
    (refine callsV_of mix Try.func94 c_sl6Sort ?_; simp only [↓vsd, vsn, gW, qd, qv, ev, pick, argE, zipE, ne_eq, eq_self, forall_const, implies_true, if_true, if_false, reduceIte, reduceCtorEq, Nat.reduceEqDiff, Nat.reduceAdd, Nat.reduceLT, ↓us_sl6Sort, r_sl6Sort])
    refine m_call (sl1OwnS_ok v l (by omega) _ h) ?_
    rintro x w1 hx1 ho1
    have h2 : (l.length : Int) < 2 := by omega
    simp only [↓vsd, vsn, gW, qd, qv, ev, pick, argE, zipE, ne_eq, eq_self, forall_const, implies_true, if_true, if_false, reduceIte, reduceCtorEq, Nat.reduceEqDiff, Nat.reduceAdd, Nat.reduceLT, ↓us_sl6Sort, r_sl6Sort, ho1.sq.facts, h2]
    exact ⟨hx1, ho1.to (srt_small (by omega))⟩
  | succ n ih =>
    intro l v hl hn w h
    (refine callsV_of mix Try.func94 c_sl6Sort ?_; simp only [↓vsd, vsn, gW, qd, qv, ev, pick, argE, zipE, ne_eq, eq_self, forall_const, implies_true, if_true, if_false, reduceIte, reduceCtorEq, Nat.reduceEqDiff, Nat.reduceAdd, Nat.reduceLT, ↓us_sl6Sort, r_sl6Sort])
    refine m_call (sl1OwnS_ok v l (by omega) _ h) ?_
    rintro x w1 hx1 ho1
    by_cases h2 : (l.length : Int) < 2
    · simp only [↓vsd, vsn, gW, qd, qv, ev, pick, argE, zipE, ne_eq, eq_self, forall_const, implies_true, if_true, if_false, reduceIte, reduceCtorEq, Nat.reduceEqDiff, Nat.reduceAdd, Nat.reduceLT, ↓us_sl6Sort, r_sl6Sort, ho1.sq.facts, h2]
      exact ⟨hx1, ho1.to (srt_small (by omega))⟩
    · have hd : ((l.length : Nat) : Int).tdiv 2 = ((l.length / 2 : Nat) : Int) := rfl
      obtain ⟨hh1, hh2, hh3⟩ := ho1.head .i64 (l.length / 2) (by omega)
      obtain ⟨ht1, ht2⟩ := ho1.sq.tail .i64 (l.length / 2) (by omega)
      simp only [↓vsd, vsn, gW, qd, qv, ev, pick, argE, zipE, ne_eq, eq_self, forall_const, implies_true, if_true, if_false, reduceIte, reduceCtorEq, Nat.reduceEqDiff, Nat.reduceAdd, Nat.reduceLT, ↓us_sl6Sort, r_sl6Sort, ho1.sq.facts, h2, hd, hh1, ht1]
      have hI2 : inR .i64 ((l.length / 2 : Nat) : Int) := inR_i64 (by omega)
      have hxd : Ext w1 w1.drew := dr (Ext.refl _)
      refine ⟨⟨by decide, hI2⟩, ⟨by decide, hI2⟩, m_call (ih _ _ (by rw [List.length_take]; omega) (by omega) _ (hh2.sq.ext hxd)) ?_⟩
      rintro xa w2 hx2 hoa
      simp only [↓vsd, vsn, gW, qd, qv, ev, pick, argE, zipE, ne_eq, eq_self, forall_const, implies_true, if_true, if_false, reduceIte, reduceCtorEq, Nat.reduceEqDiff, Nat.reduceAdd, Nat.reduceLT, ↓us_sl6Sort, r_sl6Sort]
      refine m_call (ih _ _ (by rw [List.length_drop]; omega) (by omega) _ ((ht2.ext hxd).ext hx2)) ?_
      rintro xb w3 hx3 hob
      simp only [↓vsd, vsn, gW, qd, qv, ev, pick, argE, zipE, ne_eq, eq_self, forall_const, implies_true, if_true, if_false, reduceIte, reduceCtorEq, Nat.reduceEqDiff, Nat.reduceAdd, Nat.reduceLT, ↓us_sl6Sort, r_sl6Sort]
      have hx13 : Ext w1 w3 := (ud hx2).trans hx3
      refine m_upto l.length (fun k vs w' => ∃ ua ub x La Lb A, vs = [ua, ub, x] ∧ Sq fS 1 w3 ua La ∧ Sq fS 1 w3 ub Lb ∧ Own fS 1 9 w3.heap.size w' x A ∧ Ext w3 w' ∧ Mrg l A La Lb ∧ A.length = k) ⟨xa, xb, _, _, _, [], rfl, (hoa.ext hx3).sq, hob.sq, Own.nil fS_len, Ext.refl _, ⟨srt_sorted _, srt_sorted _, List.Pairwise.nil, by simp, ?_⟩, rfl⟩ ?_
      · rw [List.nil_append]
        refine ((srt_perm _).append (srt_perm _)).trans ?_
        rw [List.take_append_drop]
      · rintro k vs w4 hk ⟨ua, ub, x4, La, Lb, A, rfl, hqa, hqb, hoA, hx4, hM, rfl⟩
        have hqa4 := hqa.ext hx4
        have hqb4 := hqb.ext hx4
        have hpl := hM.len
        by_cases hc : 0 < La.length ∧ 0 < Lb.length
        · have ha0 := hqa4.at0 [] hc.1
          have hb0 := hqb4.at0 [] hc.2
          have eA := head_cons hc.1
          have eB := head_cons hc.2
          obtain ⟨ta1, ta2⟩ := hqa.tail .i64 1 (by omega)
          obtain ⟨tb1, tb2⟩ := hqb.tail .i64 1 (by omega)
          rw [Int.natCast_one] at ta1 ta2 tb1 tb2
          generalize La.getD 0 [] = a at *
          generalize Lb.getD 0 [] = b at *
          have hcA : 0 < (La.length : Int) := by omega
          have hcB : 0 < (Lb.length : Int) := by omega
          have hlt : A.length < l.length := by rw [← hpl]; omega
          by_cases hb : Op.bytesLess b a = true
          · have hba : b ≤ a := List.le_of_lt (by rw [less_lt] at hb; simpa using hb)
            simp only [↓vsd, vsn, gW, qd, qv, ev, pick, argE, zipE, ne_eq, eq_self, forall_const, implies_true, if_true, if_false, reduceIte, reduceCtorEq, Nat.reduceEqDiff, Nat.reduceAdd, Nat.reduceLT, ↓us_sl6Sort, r_sl6Sort, hqa4.facts, hqb4.facts, ha0, hb0, hcA, hcB, hb, ta1, tb1]
            refine ⟨by omega, by omega, by omega, m_bsl (one_el rfl) ?_⟩
            rintro b5 w5 hb5 hblk5 hx5 hs5
            have hx5 : Ext w4 w5 := by first | exact hx5 | exact ud hx5 | exact ud (ud hx5)
            simp only [↓vsd, vsn, gW, qd, qv, ev, pick, argE, zipE, ne_eq, eq_self, forall_const, implies_true, if_true, if_false, reduceIte, reduceCtorEq, Nat.reduceEqDiff, Nat.reduceAdd, Nat.reduceLT, ↓us_sl6Sort, r_sl6Sort]
            refine m_app (hoA.ext hx5) (Sq.one fS_len hblk5 rfl) fS_one (by decide) (by simp; omega) (by decide) (Nat.le_trans hx4.size hx5.size) ?_
            rintro x6 w6 ho6 hg6
            have hx6 := (hoA.ext hx5).grown (hx4.trans hx5) (Nat.le_refl _) hg6
            simp only [↓vsd, vsn, gW, qd, qv, ev, pick, argE, zipE, ne_eq, eq_self, forall_const, implies_true, if_true, if_false, reduceIte, reduceCtorEq, Nat.reduceEqDiff, Nat.reduceAdd, Nat.reduceLT, ↓us_sl6Sort, r_sl6Sort, hqb4.facts, tb1]
            exact UpTo.next hlt ⟨ua, _, x6, La, _, _, rfl, hqa, tb2, ho6, hx6, eA ▸ (Mrg.right (eA ▸ eB ▸ hM) hba), by simp⟩
          · have hab : a ≤ b := by rw [less_lt] at hb; exact List.not_lt.1 (by simpa using hb)
            simp only [↓vsd, vsn, gW, qd, qv, ev, pick, argE, zipE, ne_eq, eq_self, forall_const, implies_true, if_true, if_false, reduceIte, reduceCtorEq, Nat.reduceEqDiff, Nat.reduceAdd, Nat.reduceLT, ↓us_sl6Sort, r_sl6Sort, hqa4.facts, hqb4.facts, ha0, hb0, hcA, hcB, hb, ta1, tb1]
            refine ⟨by omega, by omega, by omega, m_bsl (one_el rfl) ?_⟩
            rintro b5 w5 hb5 hblk5 hx5 hs5
            have hx5 : Ext w4 w5 := by first | exact hx5 | exact ud hx5 | exact ud (ud hx5)
            simp only [↓vsd, vsn, gW, qd, qv, ev, pick, argE, zipE, ne_eq, eq_self, forall_const, implies_true, if_true, if_false, reduceIte, reduceCtorEq, Nat.reduceEqDiff, Nat.reduceAdd, Nat.reduceLT, ↓us_sl6Sort, r_sl6Sort]
            refine m_app (hoA.ext hx5) (Sq.one fS_len hblk5 rfl) fS_one (by decide) (by simp; omega) (by decide) (Nat.le_trans hx4.size hx5.size) ?_
            rintro x6 w6 ho6 hg6
            have hx6 := (hoA.ext hx5).grown (hx4.trans hx5) (Nat.le_refl _) hg6
            simp only [↓vsd, vsn, gW, qd, qv, ev, pick, argE, zipE, ne_eq, eq_self, forall_const, implies_true, if_true, if_false, reduceIte, reduceCtorEq, Nat.reduceEqDiff, Nat.reduceAdd, Nat.reduceLT, ↓us_sl6Sort, r_sl6Sort, hqa4.facts, ta1]
            exact UpTo.next hlt ⟨_, ub, x6, _, Lb, _, rfl, ta2, hqb, ho6, hx6, eB ▸ (Mrg.left (eA ▸ eB ▸ hM) hab), by simp⟩
        · have h0 : La = [] ∨ Lb = [] := by
            rcases Nat.eq_zero_or_pos La.length with h | h
            · exact .inl (List.length_eq_zero_iff.1 h)
            · rcases Nat.eq_zero_or_pos Lb.length with h' | h'
              · exact .inr (List.length_eq_zero_iff.1 h')
              · exact absurd ⟨h, h'⟩ hc
          have hcI : ¬ (0 < (La.length : Int) ∧ 0 < (Lb.length : Int)) := by omega
          simp only [↓vsd, vsn, gW, qd, qv, ev, pick, argE, zipE, ne_eq, eq_self, forall_const, implies_true, if_true, if_false, reduceIte, reduceCtorEq, Nat.reduceEqDiff, Nat.reduceAdd, Nat.reduceLT, ↓us_sl6Sort, r_sl6Sort, hqa4.facts, hqb4.facts, hcI]
          refine m_app hoA hqa4 fS_one (by decide) (by omega) (by decide) hx4.size ?_
          rintro x5 w5 ho5 hg5
          have hx5 := hoA.grown hx4 (Nat.le_refl _) hg5
          simp only [↓vsd, vsn, gW, qd, qv, ev, pick, argE, zipE, ne_eq, eq_self, forall_const, implies_true, if_true, if_false, reduceIte, reduceCtorEq, Nat.reduceEqDiff, Nat.reduceAdd, Nat.reduceLT, ↓us_sl6Sort, r_sl6Sort]
          refine m_app ho5 (hqb.ext hx5) fS_one (by decide) (by rw [List.length_append]; omega) (by decide) hx5.size ?_
          rintro x6 w6 ho6 hg6
          have hx6 := ho5.grown hx5 (Nat.le_refl _) hg6
          simp only [↓vsd, vsn, gW, qd, qv, ev, pick, argE, zipE, ne_eq, eq_self, forall_const, implies_true, if_true, if_false, reduceIte, reduceCtorEq, Nat.reduceEqDiff, Nat.reduceAdd, Nat.reduceLT, ↓us_sl6Sort, r_sl6Sort]
          exact ⟨(hx1.trans hx13).trans hx6, (ho6.mono (hx1.trans hx13).size).to (hM.done h0)⟩
end Go.Proofs.Ytfklonhjgkahdaa
