/-
  Rows by rank; the rows that fit a pattern; the call of the law FnExactRowsThatFit.
  Conditions: none.
-/
import Derived.Test.YtnhealghpfjdcaaA3
import Derived.Test.YtnhealghpfjdcaaA6
import Derived.Test.YtnhealghpfjdcaaPd
set_option linter.unusedSimpArgs false
set_option linter.unusedVariables false
set_option linter.defProp false
namespace Go.Proofs.Ytnhealghpfjdcaa
open Go Go.RowKit
section
variable (P : Program) (k : KT) (e : Env) (w : World)
abbrev b111_1 : X := (.seq (.reg [2] (.c (.q 3 [] (.mv (.t 0))) (.c (.q 4 [] (.sub (.s [49, 50, 51, 52, 53, 54, 55, 56]) none (some (.t 3)))) (.c (.q 2 [] (.mv (.t 4))) .nil)))) .ret)
def t111_1 := b111_1
theorem u111_1 : vcK P t111_1 k e w = vcK P b111_1 k e w := rfl
abbrev b111_0 : X := (.seq (.reg [0] (.c (.q 2 [] (.mv (.s []))) .nil)) t111_1)
def x_irounds := b111_0
theorem u111_0 : vcK P x_irounds k e w = vcK P b111_0 k e w := rfl
def r_irounds : List XO := [(.mv (.t 2))]
theorem c_irounds : convF Try.prog [89, 116, 117, 121, 143, 161, 162, 163, 166, 168, 234] Try.f111 [([0], []), ([2], [])] = some (x_irounds, r_irounds) := by kernel_rfl
def us_irounds := aI @u111_0 @u111_1
abbrev b147_1 : X := (.seq (.reg [2] (.c (.q 3 [] (.mv (.t 0))) (.c (.q 4 [] (.sub (.s [49, 50, 51, 52, 53, 54, 55, 56]) none (some (.t 3)))) (.c (.q 2 [] (.mv (.t 4))) .nil)))) .ret)
def t147_1 := b147_1
theorem u147_1 : vcK P t147_1 k e w = vcK P b147_1 k e w := rfl
abbrev b147_0 : X := (.seq (.reg [0] (.c (.q 2 [] (.mv (.s []))) .nil)) t147_1)
def x_sl1Rounds := b147_0
theorem u147_0 : vcK P x_sl1Rounds k e w = vcK P b147_0 k e w := rfl
def r_sl1Rounds : List XO := [(.mv (.t 2))]
theorem c_sl1Rounds : convF Try.prog [89, 116, 117, 121, 143, 161, 162, 163, 166, 168, 234] Try.f147 [([0], []), ([2], [])] = some (x_sl1Rounds, r_sl1Rounds) := by kernel_rfl
def us_sl1Rounds := aI @u147_0 @u147_1
abbrev b189_1 : X := (.cond (.t 5) .skip (.exit 0))
def t189_1 := b189_1
theorem u189_1 : vcK P t189_1 k e w = vcK P b189_1 k e w := rfl
abbrev b189_2 : X := (.reg [0, 3] (.c (.q 6 [] (.mv (.t 0))) (.c (.q 7 [] (.bin .sub (.t 6) (.c (.int .i64 1)))) (.c (.q 0 [] (.mv (.t 7))) .nil))))
def t189_2 := b189_2
theorem u189_2 : vcK P t189_2 k e w = vcK P b189_2 k e w := rfl
abbrev b189_3 : X := (.seq (.blk 1 (.reg [0, 3] (.c (.q 8 [] (.mv (.t 3))) (.c (.q 9 [] (.mv (.t 0))) (.c (.q 10 [] (.bin .mul (.t 8) (.t 9))) (.c (.q 3 [] (.mv (.t 10))) .nil)))))) t189_2)
def t189_3 := b189_3
theorem u189_3 : vcK P t189_3 k e w = vcK P b189_3 k e w := rfl
abbrev b189_4 : X := (.seq (.seq (.reg [0, 3, 5] (.c (.q 4 [] (.mv (.t 0))) (.c (.q 5 [] (.bin .gtr (.t 4) (.c (.int .i64 1)))) .nil))) t189_1) t189_3)
def t189_4 := b189_4
theorem u189_4 : vcK P t189_4 k e w = vcK P b189_4 k e w := rfl
abbrev b189_5 : X := (.seq (.reg [2] (.c (.q 11 [] (.mv (.t 3))) (.c (.q 2 [] (.mv (.t 11))) .nil))) .ret)
def t189_5 := b189_5
theorem u189_5 : vcK P t189_5 k e w = vcK P b189_5 k e w := rfl
abbrev b189_6 : X := (.seq (.blk 0 (.loop [0, 3] [] t189_4)) t189_5)
def t189_6 := b189_6
theorem u189_6 : vcK P t189_6 k e w = vcK P b189_6 k e w := rfl
abbrev b189_7 : X := (.seq (.reg [0, 3] (.c (.q 3 [] (.mv (.c (.int .i64 1)))) .nil)) t189_6)
def t189_7 := b189_7
theorem u189_7 : vcK P t189_7 k e w = vcK P b189_7 k e w := rfl
abbrev b189_0 : X := (.seq (.reg [0] (.c (.q 2 [] (.mv (.c (.int .i64 0)))) .nil)) t189_7)
def x_sl1Fact := b189_0
theorem u189_0 : vcK P x_sl1Fact k e w = vcK P b189_0 k e w := rfl
def r_sl1Fact : List XO := [(.mv (.t 2))]
theorem c_sl1Fact : convF Try.prog [89, 116, 117, 121, 143, 161, 162, 163, 166, 168, 234] Try.f189 [([0], []), ([0, 3], []), ([0, 3], []), ([0, 3, 5], []), ([0, 3], []), ([0, 3], []), ([2], [])] = some (x_sl1Fact, r_sl1Fact) := by kernel_rfl
def us_sl1Fact := aI @u189_0 (aI @u189_1 (aI @u189_2 (aI @u189_3 (aI @u189_4 (aI @u189_5 (aI @u189_6 @u189_7))))))
end

theorem roundsS : ∀ n < 9, ([49, 50, 51, 52, 53, 54, 55, 56] : List UInt8).take n = roundsL n := by decide
theorem irounds_ok (n : Nat) (hn : n < 9) (w : World) : Fn 111 [.int .i64 n] w (fun v _ => v = S (roundsL n)) := by
  (refine callsV_of mix Try.func111 c_irounds ?_; simp only [↓vsd, vsn, gW, qd, qv, ev, pick, argE, zipE, ne_eq, eq_self, forall_const, implies_true, if_true, if_false, reduceIte, reduceCtorEq, Nat.reduceEqDiff, Nat.reduceAdd, Nat.reduceLT, ↓us_irounds, r_irounds])
  exact ⟨by omega, Ext.refl _, by rw [roundsS n hn]⟩
theorem sl1Rounds_ok (n : Nat) (hn : n < 9) (w : World) : Fn 147 [.int .i64 n] w (fun v _ => v = S (roundsL n)) := by
  (refine callsV_of mix Try.func147 c_sl1Rounds ?_; simp only [↓vsd, vsn, gW, qd, qv, ev, pick, argE, zipE, ne_eq, eq_self, forall_const, implies_true, if_true, if_false, reduceIte, reduceCtorEq, Nat.reduceEqDiff, Nat.reduceAdd, Nat.reduceLT, ↓us_sl1Rounds, r_sl1Rounds])
  exact ⟨by omega, Ext.refl _, by rw [roundsS n hn]⟩
theorem factL_mul (k : Nat) : ((factL (k + 1) : Nat) : Int) * ((k + 2 : Nat) : Int) = (factL (k + 1 + 1) : Nat) := by
  rw [← Int.natCast_mul, Nat.mul_comm]; rfl
theorem sl1Fact_ok (n : Nat) (hn : n < 9) (w : World) : Fn 189 [.int .i64 n] w (fun v _ => v = .int .i64 (factL n : Nat)) := by
  (refine callsV_of mix Try.func189 c_sl1Fact ?_; simp only [↓vsd, vsn, gW, qd, qv, ev, pick, argE, zipE, ne_eq, eq_self, forall_const, implies_true, if_true, if_false, reduceIte, reduceCtorEq, Nat.reduceEqDiff, Nat.reduceAdd, Nat.reduceLT, ↓us_sl1Fact, r_sl1Fact])
  refine m_upto (n - 1) (fun k vs w' => ∃ m j : Nat, m + k = n ∧ j * factL m = factL n ∧ vs = [.int .i64 m, .int .i64 j] ∧ Ext w w') ⟨n, 1, rfl, Nat.one_mul _, rfl, Ext.refl _⟩ ?_
  rintro k vs w1 hk ⟨m, j, hm, hj, rfl, hx⟩
  simp only [↓vsd, vsn, gW, qd, qv, ev, pick, argE, zipE, ne_eq, eq_self, forall_const, implies_true, if_true, if_false, reduceIte, reduceCtorEq, Nat.reduceEqDiff, Nat.reduceAdd, Nat.reduceLT, ↓us_sl1Fact, r_sl1Fact]
  have hf := (factL_le n hn).2
  refine ⟨fun hle => ?_, fun hgt => ⟨hx, ?_⟩⟩
  · obtain ⟨i, rfl⟩ : ∃ i, m = i + 1 := ⟨m - 1, by omega⟩
    have h2 : j * (i + 1) * factL i = factL n := by rw [Nat.mul_assoc]; exact hj
    have h3 : j * (i + 1) ≤ factL n := by rw [← h2]; exact Nat.le_mul_of_pos_right _ (factL_pos i)
    rw [show (j : Int) * ((i + 1 : Nat) : Int) = (j * (i + 1) : Nat) by rw [Int.natCast_mul]]
    exact ⟨inR_i64 (by omega), inR_i64 (by omega), UpTo.next (by omega) ⟨i, j * (i + 1), by omega, h2, by rw [Int.natCast_add, Int.natCast_one, Int.add_sub_cancel], hx⟩⟩
  · have : factL m = 1 := by
      rcases Nat.lt_or_ge m 1 with h | h
      · obtain rfl : m = 0 := by omega
        rfl
      · obtain rfl : m = 1 := by omega
        rfl
    rw [this, Nat.mul_one] at hj
    rw [hj]
theorem Own.mono {α : Type} {f : α → List Value} {z E B B' : Nat} {w : World} {v : Value} {l : List α} (h : Own f z E B w v l) (hB : B' ≤ B) : Own f z E B' w v l :=
  ⟨h.1, h.2.imp id fun ⟨g, cap, cur, e, hg, hr⟩ => ⟨g, cap, cur, e, Nat.le_trans hB hg, hr⟩⟩
/-- The rows of stage n that fit a pattern, those below rank k. -/
def fitRows (p : List UInt8) (n k : Nat) : List (List UInt8) := ((List.range k).map (rowGo n (roundsL n))).filter (fitsL p)
theorem fitRows_len (p : List UInt8) (n k : Nat) : (fitRows p n k).length ≤ k := by
  unfold fitRows
  refine Nat.le_trans (List.length_filter_le _ _) ?_
  simp
theorem fitRows_succ (p : List UInt8) (n k : Nat) : fitRows p n (k + 1) = fitRows p n k ++ if fitsL p (rowGo n (roundsL n) k) then [rowGo n (roundsL n) k] else [] := by
  unfold fitRows
  rw [List.range_succ, List.map_append, List.filter_append]
  simp only [List.map_cons, List.map_nil, List.filter_cons, List.filter_nil]
/-- What RowsThatFit answers. -/
def fitAll (p : List UInt8) (n : Int) : List (List UInt8) := if IsPat p ∧ 3 ≤ n ∧ n ≤ 6 then fitRows p n.toNat (factL n.toNat) else []
theorem fitAll_len (p : List UInt8) (n : Int) : (fitAll p n).length ≤ 40320 := by
  unfold fitAll
  split
  · have := fitRows_len p n.toNat (factL n.toNat)
    have := factL_le n.toNat (by omega)
    omega
  · simp
end Go.Proofs.Ytnhealghpfjdcaa
