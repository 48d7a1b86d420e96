/-
  Rows by rank; the rows that fit a pattern; the call of the law FnExactRowsThatFit.
  Conditions: none.
-/
import Derived.Test.YtfklonhjgkahdaaA3
import Derived.Test.YtfklonhjgkahdaaA6
import Derived.Test.YtfklonhjgkahdaaPd
set_option linter.unusedSimpArgs false
set_option linter.unusedVariables false
set_option linter.defProp false
namespace Go.Proofs.Ytfklonhjgkahdaa
open Go Go.RowKit
section
variable (P : Program) (k : KT) (e : Env) (w : World)
abbrev b44_1 : X := (.seq (.reg [2] (.c (.q 3 [] (.mv (.t 0))) (.c (.q 4 [] (.sub (.s [49, 50, 51, 52, 53, 54, 55, 56]) none (some (.t 3)))) (.c (.q 2 [] (.mv (.t 4))) .nil)))) .ret)
def t44_1 := b44_1
theorem u44_1 : vcK P t44_1 k e w = vcK P b44_1 k e w := rfl
abbrev b44_0 : X := (.seq (.reg [0] (.c (.q 2 [] (.mv (.s []))) .nil)) t44_1)
def x_irounds := b44_0
theorem u44_0 : vcK P x_irounds k e w = vcK P b44_0 k e w := rfl
def r_irounds : List XO := [(.mv (.t 2))]
theorem c_irounds : convF Try.prog [38, 39, 41, 42, 49, 54, 55, 57, 58, 59, 79, 81, 84, 87, 139] Try.f44 [([0], []), ([2], [])] = some (x_irounds, r_irounds) := by kernel_rfl
def us_irounds :=  (aI @u44_0 @u44_1)
abbrev b68_1 : X := (.seq (.reg [2] (.c (.q 3 [] (.mv (.t 0))) (.c (.q 4 [] (.sub (.s [49, 50, 51, 52, 53, 54, 55, 56]) none (some (.t 3)))) (.c (.q 2 [] (.mv (.t 4))) .nil)))) .ret)
def t68_1 := b68_1
theorem u68_1 : vcK P t68_1 k e w = vcK P b68_1 k e w := rfl
abbrev b68_0 : X := (.seq (.reg [0] (.c (.q 2 [] (.mv (.s []))) .nil)) t68_1)
def x_sl1Rounds := b68_0
theorem u68_0 : vcK P x_sl1Rounds k e w = vcK P b68_0 k e w := rfl
def r_sl1Rounds : List XO := [(.mv (.t 2))]
theorem c_sl1Rounds : convF Try.prog [38, 39, 41, 42, 49, 54, 55, 57, 58, 59, 79, 81, 84, 87, 139] Try.f68 [([0], []), ([2], [])] = some (x_sl1Rounds, r_sl1Rounds) := by kernel_rfl
def us_sl1Rounds :=  (aI @u68_0 @u68_1)
end

theorem roundsS : ∀ n < 9, ([49, 50, 51, 52, 53, 54, 55, 56] : List UInt8).take n = roundsL n := by decide
theorem irounds_ok (n : Nat) (hn : n < 9) (w : World) : Fn 44 [.int .i64 n] w (fun v _ => v = S (roundsL n)) := by
  (refine callsV_of mix Try.func44 c_irounds ?_; simp only [↓vsd, vsn, gW, qd, qv, ev, pick, argE, zipE, ne_eq, eq_self, forall_const, implies_true, if_true, if_false, reduceIte, reduceCtorEq, Nat.reduceEqDiff, Nat.reduceAdd, Nat.reduceLT, ↓us_irounds, r_irounds])
  exact ⟨by omega, Ext.refl _, by rw [roundsS n hn]⟩
theorem sl1Rounds_ok (n : Nat) (hn : n < 9) (w : World) : Fn 68 [.int .i64 n] w (fun v _ => v = S (roundsL n)) := by
  (refine callsV_of mix Try.func68 c_sl1Rounds ?_; simp only [↓vsd, vsn, gW, qd, qv, ev, pick, argE, zipE, ne_eq, eq_self, forall_const, implies_true, if_true, if_false, reduceIte, reduceCtorEq, Nat.reduceEqDiff, Nat.reduceAdd, Nat.reduceLT, ↓us_sl1Rounds, r_sl1Rounds])
  exact ⟨by omega, Ext.refl _, by rw [roundsS n hn]⟩
theorem factL_mul (k : Nat) : ((factL (k + 1) : Nat) : Int) * ((k + 2 : Nat) : Int) = (factL (k + 1 + 1) : Nat) := by
  rw [← Int.natCast_mul, Nat.mul_comm]; rfl
theorem Own.mono {α : Type} {f : α → List Value} {z E B B' : Nat} {w : World} {v : Value} {l : List α} (h : Own f z E B w v l) (hB : B' ≤ B) : Own f z E B' w v l :=
  ⟨h.1, h.2.imp id fun ⟨g, cap, cur, e, hg, hr⟩ => ⟨g, cap, cur, e, Nat.le_trans hB hg, hr⟩⟩
/-- The rows of stage n that fit a pattern, those below rank k. -/
def fitRows (p : List UInt8) (n k : Nat) : List (List UInt8) := ((List.range k).map (rowGo n (roundsL n))).filter (fitsL p)
theorem fitRows_len (p : List UInt8) (n k : Nat) : (fitRows p n k).length ≤ k := by
  unfold fitRows
  refine Nat.le_trans (List.length_filter_le _ _) ?_
  simp
theorem fitRows_succ (p : List UInt8) (n k : Nat) : fitRows p n (k + 1) = fitRows p n k ++ if fitsL p (rowGo n (roundsL n) k) then [rowGo n (roundsL n) k] else [] := by
  unfold fitRows
  rw [List.range_succ, List.map_append, List.filter_append]
  simp only [List.map_cons, List.map_nil, List.filter_cons, List.filter_nil]
/-- What RowsThatFit answers. -/
def fitAll (p : List UInt8) (n : Int) : List (List UInt8) := if IsPat p ∧ 3 ≤ n ∧ n ≤ 6 then fitRows p n.toNat (factL n.toNat) else []
theorem fitAll_len (p : List UInt8) (n : Int) : (fitAll p n).length ≤ 40320 := by
  unfold fitAll
  split
  · have := fitRows_len p n.toNat (factL n.toNat)
    have := factL_le n.toNat (by omega)
    omega
  · simp
end Go.Proofs.Ytfklonhjgkahdaa
