/-
  Coursing orders: the places; CourseOf and RowOfCourse; the laws' calls.
  Conditions: none.
-/
import Derived.Test.YthopbkemkfjebaaGreatKVb
import Derived.Test.YthopbkemkfjebaaGreatKVf
set_option linter.unusedSimpArgs false
set_option linter.unusedVariables false
set_option linter.defProp false
namespace Go.Proofs.YthopbkemkfjebaaGreat
open Go
/-- The first k bells of l are bells of the stage and distinct. -/
def RowUp (l : List UInt8) (k : Nat) : Prop := ∀ i < k, 49 ≤ (l.getD i 0).toNat ∧ (l.getD i 0).toNat < 49 + l.length ∧ ∀ j < i, l.getD j 0 ≠ l.getD i 0
instance (l : List UInt8) (k : Nat) : Decidable (RowUp l k) := by unfold RowUp; infer_instance
def IsRow (l : List UInt8) : Prop := (3 ≤ l.length ∧ l.length ≤ 8) ∧ RowUp l l.length
instance (l : List UInt8) : Decidable (IsRow l) := by unfold IsRow; infer_instance
theorem RowUp.zero (l : List UInt8) : RowUp l 0 := fun i hi => absurd hi (Nat.not_lt_zero i)
theorem RowUp.succ {l : List UInt8} {k : Nat} (h : RowUp l k) (h1 : 49 ≤ (l.getD k 0).toNat) (h2 : (l.getD k 0).toNat < 49 + l.length) (h3 : ∀ j < k, l.getD j 0 ≠ l.getD k 0) : RowUp l (k + 1) := by
  intro i hi
  by_cases he : i = k
  · subst he; exact ⟨h1, h2, h3⟩
  · exact h i (by omega)
end Go.Proofs.YthopbkemkfjebaaGreat
namespace Go.Proofs.YthopbkemkfjebaaGreat
open Go Go.RowKit
section
variable (P : Program) (k : KT) (e : Env) (w : World)
abbrev b75_1 : X := (.seq (.reg [6] (.c (.q 7 [] (.mv (.t 1))) (.c (.q 8 [] (.mv (.t 0))) (.c (.q 9 [] (.bin .leq (.t 7) (.t 8))) (.c (.q 10 [] (.mv (.t 9))) (.c (.q 11 [(10, true)] (.mv (.t 0))) (.c (.q 12 [(10, true)] (.mv (.t 2))) (.c (.q 13 [(10, true)] (.bin .leq (.t 11) (.t 12))) (.c (.q 14 [] (.pick (.t 10) (.t 13) (.c (.bool false)))) (.c (.q 6 [] (.mv (.t 14))) .nil)))))))))) .ret)
def t75_1 := b75_1
theorem u75_1 : vcK P t75_1 k e w = vcK P b75_1 k e w := rfl
abbrev b75_0 : X := (.seq (.reg [0, 1, 2] (.c (.q 6 [] (.mv (.c (.bool false)))) .nil)) t75_1)
def x_iwithin := b75_0
theorem u75_0 : vcK P x_iwithin k e w = vcK P b75_0 k e w := rfl
def r_iwithin : List XO := [(.mv (.t 6))]
theorem c_iwithin : convF Tryz.prog [56, 58, 59, 60, 61, 62, 72, 73, 77, 97, 98, 109, 110, 111, 112, 115, 128, 136] Tryz.f75 [([0, 1, 2], []), ([6], [])] = some (x_iwithin, r_iwithin) := by kernel_rfl
def us_iwithin :=  (aI @u75_0 @u75_1)
abbrev b67_1 : X := (.seq (.reg [6] (.c (.q 7 [] (.mv (.t 0))) (.c (.q 8 [] (.mv (.t 1))) (.c (.q 9 [] (.bin .geq (.t 7) (.t 8))) (.c (.q 10 [] (.mv (.t 9))) (.c (.q 11 [(10, true)] (.mv (.t 0))) (.c (.q 12 [(10, true)] (.mv (.t 2))) (.c (.q 13 [(10, true)] (.bin .leq (.t 11) (.t 12))) (.c (.q 14 [] (.pick (.t 10) (.t 13) (.c (.bool false)))) (.c (.q 6 [] (.mv (.t 14))) .nil)))))))))) .ret)
def t67_1 := b67_1
theorem u67_1 : vcK P t67_1 k e w = vcK P b67_1 k e w := rfl
abbrev b67_0 : X := (.seq (.reg [0, 1, 2] (.c (.q 6 [] (.mv (.c (.bool false)))) .nil)) t67_1)
def x_sl1In := b67_0
theorem u67_0 : vcK P x_sl1In k e w = vcK P b67_0 k e w := rfl
def r_sl1In : List XO := [(.mv (.t 6))]
theorem c_sl1In : convF Tryz.prog [56, 58, 59, 60, 61, 62, 72, 73, 77, 97, 98, 109, 110, 111, 112, 115, 128, 136] Tryz.f67 [([0, 1, 2], []), ([6], [])] = some (x_sl1In, r_sl1In) := by kernel_rfl
def us_sl1In :=  (aI @u67_0 @u67_1)
abbrev b149_1 : X := (.seq (.reg [2] (.c (.q 3 [] (.mv (.t 0))) (.c (.q 4 [] (.bin .leq (.c (.int .i64 3)) (.t 3))) (.c (.q 5 [] (.mv (.t 4))) (.c (.q 6 [(5, true)] (.mv (.t 0))) (.c (.q 7 [(5, true)] (.bin .leq (.t 6) (.c (.int .i64 8)))) (.c (.q 8 [] (.pick (.t 5) (.t 7) (.c (.bool false)))) (.c (.q 2 [] (.mv (.t 8))) .nil)))))))) .ret)
def t149_1 := b149_1
theorem u149_1 : vcK P t149_1 k e w = vcK P b149_1 k e w := rfl
abbrev b149_0 : X := (.seq (.reg [0] (.c (.q 2 [] (.mv (.c (.bool false)))) .nil)) t149_1)
def x_iisStage := b149_0
theorem u149_0 : vcK P x_iisStage k e w = vcK P b149_0 k e w := rfl
def r_iisStage : List XO := [(.mv (.t 2))]
theorem c_iisStage : convF Tryz.prog [56, 58, 59, 60, 61, 62, 72, 73, 77, 97, 98, 109, 110, 111, 112, 115, 128, 136] Tryz.f149 [([0], []), ([2], [])] = some (x_iisStage, r_iisStage) := by kernel_rfl
def us_iisStage :=  (aI @u149_0 @u149_1)
end
theorem iwithin_ok (n lo hi : Int) (w : World) : Fn 75 [.int .i64 n, .int .i64 lo, .int .i64 hi] w (fun v _ => v = .bool (decide (lo ≤ n) && decide (n ≤ hi))) := by
  (refine callsV_of mix Tryz.func75 c_iwithin ?_; simp only [↓vsd, vsn, gW, qd, qv, ev, pick, argE, zipE, ne_eq, eq_self, forall_const, implies_true, if_true, if_false, reduceIte, reduceCtorEq, Nat.reduceEqDiff, Nat.reduceAdd, Nat.reduceLT, ↓us_iwithin, r_iwithin])
  exact Ext.refl _
theorem sl1In_ok (n lo hi : Int) (w : World) : Fn 67 [.int .i64 n, .int .i64 lo, .int .i64 hi] w (fun v _ => v = .bool (decide (lo ≤ n) && decide (n ≤ hi))) := by
  (refine callsV_of mix Tryz.func67 c_sl1In ?_; simp only [↓vsd, vsn, gW, qd, qv, ev, pick, argE, zipE, ne_eq, eq_self, forall_const, implies_true, if_true, if_false, reduceIte, reduceCtorEq, Nat.reduceEqDiff, Nat.reduceAdd, Nat.reduceLT, ↓us_sl1In, r_sl1In])
  exact Ext.refl _
theorem iisStage_ok (n : Int) (w : World) : Fn 149 [.int .i64 n] w (fun v _ => v = .bool (decide (3 ≤ n) && decide (n ≤ 8))) := by
  (refine callsV_of mix Tryz.func149 c_iisStage ?_; simp only [↓vsd, vsn, gW, qd, qv, ev, pick, argE, zipE, ne_eq, eq_self, forall_const, implies_true, if_true, if_false, reduceIte, reduceCtorEq, Nat.reduceEqDiff, Nat.reduceAdd, Nat.reduceLT, ↓us_iisStage, r_iisStage])
  exact Ext.refl _
end Go.Proofs.YthopbkemkfjebaaGreat
namespace Go.Proofs.YthopbkemkfjebaaGreat
open Go Go.RowKit
theorem sub_one (l : List UInt8) (i : Nat) (h : i < l.length) : (l.take (i + 1)).drop i = [l.getD i 0] := by
  rw [List.take_add_one, List.drop_append, List.getD_eq_getElem?_getD, List.getElem?_eq_getElem h]
  simp [Nat.min_eq_left (Nat.le_of_lt h)]
theorem take_map_succ {α β : Type} (f : α → β) (d : α) (l : List α) (k : Nat) (h : k < l.length) : (l.take (k + 1)).map f = (l.take k).map f ++ [f (l.getD k d)] := by
  rw [List.take_add_one, List.getElem?_eq_getElem h, List.getD_eq_getElem?_getD, List.getElem?_eq_getElem h, List.map_append]
  rfl
end Go.Proofs.YthopbkemkfjebaaGreat
