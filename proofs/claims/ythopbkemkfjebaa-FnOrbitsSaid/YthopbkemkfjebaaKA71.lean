/-
  Closed lists of rows and the test of a group, of both sides.
  Conditions: none.
-/
import Derived.Test.YthopbkemkfjebaaKA54
import Derived.Test.YthopbkemkfjebaaKPz
set_option linter.unusedSimpArgs false
set_option linter.unusedVariables false
set_option linter.defProp false
namespace Go.Proofs.Ythopbkemkfjebaa
open Go Go.RowKit
section
variable (P : Program) (k : KT) (e : Env) (w : World)
abbrev b14_1 : X := (.cond (.t 11) (.seq (.reg [2, 3] (.c (.q 2 [] (.mv (.c (.slice none 0 0)))) (.c (.q 3 [] (.mv (.c (.bool false)))) .nil))) .ret) .skip)
def t14_1 := b14_1
theorem u14_1 : vcK P t14_1 k e w = vcK P b14_1 k e w := rfl
abbrev b14_2 : X := (.seq (.reg [2, 3] (.c (.q 12 [] (.mv (.t 0))) (.c (.q 13 [] (.ia 1 (.t 12) (.c (.int .i64 0)))) (.c (.q 14 [] (.ld (.t 13))) (.c (.q 15 [] (.len (.t 14))) (.c (.q 16 [] (.mv (.t 0))) (.c (.e (some 17) [] (.call false 65 [(.t 15), (.t 16), (.c (.int .i64 800))])) (.c (.q 18 [] (.ext 0 (.t 17))) (.c (.q 19 [] (.ext 1 (.t 17))) (.c (.q 2 [] (.mv (.t 18))) (.c (.q 3 [] (.mv (.t 19))) .nil))))))))))) .ret)
def t14_2 := b14_2
theorem u14_2 : vcK P t14_2 k e w = vcK P b14_2 k e w := rfl
abbrev b14_3 : X := (.seq (.seq (.reg [0, 11] (.c (.q 4 [] (.mv (.t 0))) (.c (.q 5 [] (.lens (.t 4))) (.c (.q 6 [] (.bin .eql (.t 5) (.c (.int .i64 0)))) (.c (.q 7 [] (.mv (.t 6))) (.c (.q 8 [(7, false)] (.mv (.t 0))) (.c (.e (some 9) [(7, false)] (.call false 64 [(.t 8)])) (.c (.q 10 [(7, false)] (.not (.t 9))) (.c (.q 11 [] (.pick (.t 7) (.c (.bool true)) (.t 10))) .nil))))))))) t14_1) t14_2)
def t14_3 := b14_3
theorem u14_3 : vcK P t14_3 k e w = vcK P b14_3 k e w := rfl
abbrev b14_0 : X := (.seq (.reg [0] (.c (.q 2 [] (.mv (.c (.slice none 0 0)))) (.c (.q 3 [] (.mv (.c (.bool false)))) .nil))) t14_3)
def x_iCloseRows := b14_0
theorem u14_0 : vcK P x_iCloseRows k e w = vcK P b14_0 k e w := rfl
def r_iCloseRows : List XO := [(.mv (.t 2)), (.mv (.t 3))]
theorem c_iCloseRows : convF Try.prog [54, 55, 58, 69, 70, 71, 72, 73, 84, 89, 94, 95, 113, 114, 115, 130, 134, 143, 146, 161] Try.f14 [([0], []), ([0, 11], []), ([2, 3], []), ([2, 3], [])] = some (x_iCloseRows, r_iCloseRows) := by kernel_rfl
def us_iCloseRows :=  (aI (aI @u14_0 @u14_1) (aI @u14_2 @u14_3))
end
def RowN (n : Nat) (l : List Bs) : Prop := ∀ x ∈ l, IsRow x ∧ x.length = n
def stgL (l : List Bs) : Nat := (l.getD 0 []).length
theorem IsRows.n {l : List Bs} (h : IsRows l) : RowN (stgL l) l := h.1
theorem IsRows.stage {l : List Bs} (h : IsRows l) (hl : 0 < l.length) : 3 ≤ stgL l ∧ stgL l ≤ 8 := (h.1 _ (getD_mem [] hl)).1.1
def CloseOk (l : List Bs) : Prop := 0 < l.length ∧ IsRows l ∧ GenOk l (roundsL (stgL l)) 800
instance (l : List Bs) : Decidable (CloseOk l) := by unfold CloseOk GenOk; infer_instance
def closeL (l : List Bs) : List Bs := if 0 < l.length ∧ IsRows l then genV l (roundsL (stgL l)) 800 else []
theorem closeOk_of {l : List Bs} (h1 : 0 < l.length) (h2 : IsRows l) : decide (CloseOk l) = decide (GenOk l (roundsL (stgL l)) 800) := decide_eq_decide.2 ⟨fun h => h.2.2, fun h => ⟨h1, h2, h⟩⟩
theorem closeOk_no {l : List Bs} (h : ¬ (0 < l.length ∧ IsRows l)) : decide (CloseOk l) = false := decide_eq_false fun hh => h ⟨hh.1, hh.2.1⟩
theorem iCloseRows_ok (v : Value) (l : List Bs) (hl : l.length ≤ 1000000000) (w : World) (h : Sq fS 1 w v l) : Fn 14 [v] w (fun r w' => ∃ x, r = .tuple ⟨[x, .bool (decide (CloseOk l))]⟩ ∧ Own fS 1 9 w.heap.size w' x (closeL l)) := by
  (refine callsV_of mix Try.func14 c_iCloseRows ?_; simp only [↓vsd, vsn, gW, qd, qv, ev, pick, argE, zipE, ne_eq, eq_self, forall_const, implies_true, if_true, if_false, reduceIte, reduceCtorEq, Nat.reduceEqDiff, Nat.reduceAdd, Nat.reduceLT, ↓us_iCloseRows, r_iCloseRows])
  by_cases h0 : 0 < l.length
  · have h0I : ¬ (l.length : Int) = 0 := by omega
    simp only [↓vsd, vsn, gW, qd, qv, ev, pick, argE, zipE, ne_eq, eq_self, forall_const, implies_true, if_true, if_false, reduceIte, reduceCtorEq, Nat.reduceEqDiff, Nat.reduceAdd, Nat.reduceLT, ↓us_iCloseRows, r_iCloseRows, h.facts, h0I]
    refine m_call (iGoodRows_ok v l hl _ h) ?_
    rintro _ w1 hx1 rfl
    by_cases hr : IsRows l
    · have hq1 := h.ext hx1
      have a1 := hq1.at0 [] h0
      have hs := hr.stage h0
      have h8 := hr.2
      simp only [↓vsd, vsn, gW, qd, qv, ev, pick, argE, zipE, ne_eq, eq_self, forall_const, implies_true, if_true, if_false, reduceIte, reduceCtorEq, Nat.reduceEqDiff, Nat.reduceAdd, Nat.reduceLT, ↓us_iCloseRows, r_iCloseRows, hr, hq1.facts, a1]
      refine ⟨by omega, m_call (igenerated_ok (stgL l) hs v l 800 hr.n (by omega) (by omega) _ hq1) ?_⟩
      rintro _ w2 hx2 ⟨x, rfl, ho⟩
      simp only [↓vsd, vsn, gW, qd, qv, ev, pick, argE, zipE, ne_eq, eq_self, forall_const, implies_true, if_true, if_false, reduceIte, reduceCtorEq, Nat.reduceEqDiff, Nat.reduceAdd, Nat.reduceLT, ↓us_iCloseRows, r_iCloseRows]
      exact ⟨hx1.trans hx2, x, by rw [closeOk_of h0 hr], by rw [closeL, if_pos ⟨h0, hr⟩]; exact ho.mono hx1.size⟩
    · simp only [↓vsd, vsn, gW, qd, qv, ev, pick, argE, zipE, ne_eq, eq_self, forall_const, implies_true, if_true, if_false, reduceIte, reduceCtorEq, Nat.reduceEqDiff, Nat.reduceAdd, Nat.reduceLT, ↓us_iCloseRows, r_iCloseRows, hr]
      exact ⟨hx1, _, by rw [closeOk_no (fun hh => hr hh.2)], by rw [closeL, if_neg (fun hh => hr hh.2)]; exact Own.nil fS_len⟩
  · have h0I : (l.length : Int) = 0 := by omega
    simp only [↓vsd, vsn, gW, qd, qv, ev, pick, argE, zipE, ne_eq, eq_self, forall_const, implies_true, if_true, if_false, reduceIte, reduceCtorEq, Nat.reduceEqDiff, Nat.reduceAdd, Nat.reduceLT, ↓us_iCloseRows, r_iCloseRows, h.facts, h0I]
    exact ⟨Ext.refl _, _, by rw [closeOk_no (fun hh => h0 hh.1)], by rw [closeL, if_neg (fun hh => h0 hh.1)]; exact Own.nil fS_len⟩
end Go.Proofs.Ythopbkemkfjebaa
