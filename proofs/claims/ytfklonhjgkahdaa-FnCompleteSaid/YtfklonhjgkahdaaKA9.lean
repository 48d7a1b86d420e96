/-
  Rows by rank; the rows that fit a pattern; the call of the law FnExactRowsThatFit.
  Conditions: none.
-/
import Derived.Test.YtfklonhjgkahdaaKA4
import Derived.Test.YtfklonhjgkahdaaKA6
import Derived.Test.YtfklonhjgkahdaaKPd
set_option linter.unusedSimpArgs false
set_option linter.unusedVariables false
set_option linter.defProp false
namespace Go.Proofs.Ytfklonhjgkahdaa
open Go Go.RowKit
def PatB (c : UInt8) : Prop := c.toNat = 63 ∨ c.toNat = 42 ∨ (49 ≤ c.toNat ∧ c.toNat ≤ 56)
instance (c : UInt8) : Decidable (PatB c) := by unfold PatB; infer_instance
def PatUp (l : List UInt8) (k : Nat) : Prop := ∀ i < k, PatB (l.getD i 0)
instance (l : List UInt8) (k : Nat) : Decidable (PatUp l k) := by unfold PatUp; infer_instance
theorem PatUp.succ {l : List UInt8} {k : Nat} (h : PatUp l k) (h1 : PatB (l.getD k 0)) : PatUp l (k + 1) := fun i hi => by
  by_cases he : i = k
  · subst he; exact h1
  · exact h i (by omega)
end Go.Proofs.Ytfklonhjgkahdaa
namespace Go.Proofs.Ytfklonhjgkahdaa
open Go Go.RowKit
/-- From place 1 to place k - 1 each byte is the one ahead of it and d. -/
def RunBy (l : List UInt8) (d : Int) (k : Nat) : Prop := ∀ i < k, 1 ≤ i → ((l.getD i 0).toNat : Int) - (l.getD (i - 1) 0).toNat = d
instance (l : List UInt8) (d : Int) (k : Nat) : Decidable (RunBy l d k) := by unfold RunBy; infer_instance
theorem RunBy.succ {l : List UInt8} {d : Int} {k : Nat} (h : RunBy l d k) (h1 : 1 ≤ k → ((l.getD k 0).toNat : Int) - (l.getD (k - 1) 0).toNat = d) : RunBy l d (k + 1) := fun i hi h2 => by
  by_cases he : i = k
  · subst he; exact h1 h2
  · exact h i (by omega) h2
end Go.Proofs.Ytfklonhjgkahdaa
namespace Go.Proofs.Ytfklonhjgkahdaa
open Go Go.RowKit
section
variable (P : Program) (k : KT) (e : Env) (w : World)
abbrev b44_1 : X := (.seq (.reg [2] (.c (.q 3 [] (.mv (.t 0))) (.c (.q 4 [] (.sub (.s [49, 50, 51, 52, 53, 54, 55, 56]) none (some (.t 3)))) (.c (.q 2 [] (.mv (.t 4))) .nil)))) .ret)
def t44_1 := b44_1
theorem u44_1 : vcK P t44_1 k e w = vcK P b44_1 k e w := rfl
abbrev b44_0 : X := (.seq (.reg [0] (.c (.q 2 [] (.mv (.s []))) .nil)) t44_1)
def x_irounds := b44_0
theorem u44_0 : vcK P x_irounds k e w = vcK P b44_0 k e w := rfl
def r_irounds : List XO := [(.mv (.t 2))]
theorem c_irounds : convF Try.prog [38, 39, 41, 42, 49, 54, 55, 57, 58, 59, 73, 79, 81, 84, 87, 139] Try.f44 [([0], []), ([2], [])] = some (x_irounds, r_irounds) := by kernel_rfl
def us_irounds :=  (aI @u44_0 @u44_1)
abbrev b68_1 : X := (.seq (.reg [2] (.c (.q 3 [] (.mv (.t 0))) (.c (.q 4 [] (.sub (.s [49, 50, 51, 52, 53, 54, 55, 56]) none (some (.t 3)))) (.c (.q 2 [] (.mv (.t 4))) .nil)))) .ret)
def t68_1 := b68_1
theorem u68_1 : vcK P t68_1 k e w = vcK P b68_1 k e w := rfl
abbrev b68_0 : X := (.seq (.reg [0] (.c (.q 2 [] (.mv (.s []))) .nil)) t68_1)
def x_sl1Rounds := b68_0
theorem u68_0 : vcK P x_sl1Rounds k e w = vcK P b68_0 k e w := rfl
def r_sl1Rounds : List XO := [(.mv (.t 2))]
theorem c_sl1Rounds : convF Try.prog [38, 39, 41, 42, 49, 54, 55, 57, 58, 59, 73, 79, 81, 84, 87, 139] Try.f68 [([0], []), ([2], [])] = some (x_sl1Rounds, r_sl1Rounds) := by kernel_rfl
def us_sl1Rounds :=  (aI @u68_0 @u68_1)
end
theorem roundsS : ∀ n < 9, ([49, 50, 51, 52, 53, 54, 55, 56] : List UInt8).take n = roundsL n := by decide
theorem irounds_ok (n : Nat) (hn : n < 9) (w : World) : Fn 44 [.int .i64 n] w (fun v _ => v = S (roundsL n)) := by
  (refine callsV_of mix Try.func44 c_irounds ?_; simp only [↓vsd, vsn, gW, qd, qv, ev, pick, argE, zipE, ne_eq, eq_self, forall_const, implies_true, if_true, if_false, reduceIte, reduceCtorEq, Nat.reduceEqDiff, Nat.reduceAdd, Nat.reduceLT, ↓us_irounds, r_irounds])
  exact ⟨by omega, Ext.refl _, by rw [roundsS n hn]⟩
theorem sl1Rounds_ok (n : Nat) (hn : n < 9) (w : World) : Fn 68 [.int .i64 n] w (fun v _ => v = S (roundsL n)) := by
  (refine callsV_of mix Try.func68 c_sl1Rounds ?_; simp only [↓vsd, vsn, gW, qd, qv, ev, pick, argE, zipE, ne_eq, eq_self, forall_const, implies_true, if_true, if_false, reduceIte, reduceCtorEq, Nat.reduceEqDiff, Nat.reduceAdd, Nat.reduceLT, ↓us_sl1Rounds, r_sl1Rounds])
  exact ⟨by omega, Ext.refl _, by rw [roundsS n hn]⟩
theorem Own.mono {α : Type} {f : α → List Value} {z E B B' : Nat} {w : World} {v : Value} {l : List α} (h : Own f z E B w v l) (hB : B' ≤ B) : Own f z E B' w v l :=
  ⟨h.1, h.2.imp id fun ⟨g, cap, cur, e, hg, hr⟩ => ⟨g, cap, cur, e, Nat.le_trans hB hg, hr⟩⟩
end Go.Proofs.Ytfklonhjgkahdaa
