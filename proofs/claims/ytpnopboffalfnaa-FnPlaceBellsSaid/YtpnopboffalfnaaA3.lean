/-
  RunsIn and FitsRow: what program and reference compute; the calls of the laws FnExactRunsIn and FnExactFitsRow.
  Conditions: none.
-/
import Derived.Test.YtpnopboffalfnaaA2
set_option linter.unusedSimpArgs false
set_option linter.unusedVariables false
set_option linter.defProp false
namespace Go.Proofs.Ytpnopboffalfnaa
open Go Go.RowKit
section
variable (P : Program) (k : KT) (e : Env) (w : World)
abbrev b315_1 : X := (.cond (.t 6) (.seq (.reg [4] (.c (.q 7 [] (.mv (.t 1))) (.c (.q 8 [] (.bin .eql (.t 7) (.s []))) (.c (.q 4 [] (.mv (.t 8))) .nil)))) .ret) .skip)
def t315_1 := b315_1
theorem u315_1 : vcK P t315_1 k e w = vcK P b315_1 k e w := rfl
abbrev b315_2 : X := (.cond (.t 11) (.seq (.reg [4] (.c (.q 12 [] (.mv (.t 0))) (.c (.q 13 [] (.sub (.t 12) (some (.c (.int .i64 1))) none)) (.c (.q 14 [] (.mv (.t 1))) (.c (.e (some 15) [] (.call false 315 [(.t 13), (.t 14)])) (.c (.q 16 [] (.mv (.t 15))) (.c (.q 17 [(16, false)] (.mv (.t 1))) (.c (.q 18 [(16, false)] (.bin .neq (.t 17) (.s []))) (.c (.q 19 [(16, false)] (.mv (.t 18))) (.c (.q 20 [(19, true), (16, false)] (.mv (.t 0))) (.c (.q 21 [(19, true), (16, false)] (.mv (.t 1))) (.c (.q 22 [(19, true), (16, false)] (.sub (.t 21) (some (.c (.int .i64 1))) none)) (.c (.e (some 23) [(19, true), (16, false)] (.call false 315 [(.t 20), (.t 22)])) (.c (.q 24 [(16, false)] (.pick (.t 19) (.t 23) (.c (.bool false)))) (.c (.q 25 [] (.pick (.t 16) (.c (.bool true)) (.t 24))) (.c (.q 4 [] (.mv (.t 25))) .nil)))))))))))))))) .ret) .skip)
def t315_2 := b315_2
theorem u315_2 : vcK P t315_2 k e w = vcK P b315_2 k e w := rfl
abbrev b315_3 : X := (.seq (.drw [4] (.c (.q 26 [] (.mv (.t 1))) (.c (.q 27 [] (.bin .neq (.t 26) (.s []))) (.c (.q 28 [] (.mv (.t 27))) (.c (.q 29 [(28, true)] (.mv (.t 0))) (.c (.q 30 [(28, true)] (.idx (.t 29) (.c (.int .i64 0)))) (.c (.q 31 [(28, true)] (.bin .eql (.t 30) (.c (.int .u8 63)))) (.c (.q 32 [(28, true)] (.mv (.t 31))) (.c (.q 33 [(32, false), (28, true)] (.mv (.t 0))) (.c (.q 34 [(32, false), (28, true)] (.idx (.t 33) (.c (.int .i64 0)))) (.c (.q 35 [(32, false), (28, true)] (.mv (.t 1))) (.c (.q 36 [(32, false), (28, true)] (.idx (.t 35) (.c (.int .i64 0)))) (.c (.q 37 [(32, false), (28, true)] (.bin .eql (.t 34) (.t 36))) (.c (.q 38 [(28, true)] (.pick (.t 32) (.c (.bool true)) (.t 37))) (.c (.q 39 [] (.pick (.t 28) (.t 38) (.c (.bool false)))) (.c (.q 40 [] (.mv (.t 39))) (.c (.q 41 [(40, true)] (.mv (.t 0))) (.c (.q 42 [(40, true)] (.sub (.t 41) (some (.c (.int .i64 1))) none)) (.c (.q 43 [(40, true)] (.mv (.t 1))) (.c (.q 44 [(40, true)] (.sub (.t 43) (some (.c (.int .i64 1))) none)) (.c (.e (some 45) [(40, true)] (.call false 315 [(.t 42), (.t 44)])) (.c (.q 46 [] (.pick (.t 40) (.t 45) (.c (.bool false)))) (.c (.q 4 [] (.mv (.t 46))) .nil))))))))))))))))))))))) .ret)
def t315_3 := b315_3
theorem u315_3 : vcK P t315_3 k e w = vcK P b315_3 k e w := rfl
abbrev b315_4 : X := (.seq (.seq (.reg [0, 1, 11] (.c (.q 9 [] (.mv (.t 0))) (.c (.q 10 [] (.idx (.t 9) (.c (.int .i64 0)))) (.c (.q 11 [] (.bin .eql (.t 10) (.c (.int .u8 42)))) .nil)))) t315_2) t315_3)
def t315_4 := b315_4
theorem u315_4 : vcK P t315_4 k e w = vcK P b315_4 k e w := rfl
abbrev b315_5 : X := (.seq (.seq (.reg [0, 1, 6] (.c (.q 5 [] (.mv (.t 0))) (.c (.q 6 [] (.bin .eql (.t 5) (.s []))) .nil))) t315_1) t315_4)
def t315_5 := b315_5
theorem u315_5 : vcK P t315_5 k e w = vcK P b315_5 k e w := rfl
abbrev b315_0 : X := (.seq (.reg [0, 1] (.c (.q 4 [] (.mv (.c (.bool false)))) .nil)) t315_5)
def x_ifits := b315_0
theorem u315_0 : vcK P x_ifits k e w = vcK P b315_0 k e w := rfl
def r_ifits : List XO := [(.mv (.t 4))]
theorem c_ifits : convF Try.prog [169, 170, 207, 208, 210, 227, 232, 233, 255, 259, 268, 269, 270, 280, 281, 296, 299, 306, 307, 309] Try.f315 [([0, 1], []), ([0, 1, 6], []), ([4], []), ([0, 1, 11], []), ([4], []), ([4], [])] = some (x_ifits, r_ifits) := by kernel_rfl
def us_ifits := aI @u315_0 (aI @u315_1 (aI @u315_2 (aI @u315_3 (aI @u315_4 @u315_5))))
abbrev b314_1 : X := (.cond (.t 10) (.seq (.reg [4] (.c (.q 14 [] (.mv (.t 0))) (.c (.q 15 [] (.sub (.t 14) (some (.c (.int .i64 1))) none)) (.c (.q 16 [] (.mv (.t 1))) (.c (.e (some 17) [] (.call false 314 [(.t 15), (.t 16)])) (.c (.q 18 [] (.mv (.t 17))) (.c (.q 19 [(18, false)] (.mv (.t 1))) (.c (.q 20 [(18, false)] (.bin .neq (.t 19) (.s []))) (.c (.q 21 [(18, false)] (.mv (.t 20))) (.c (.q 22 [(21, true), (18, false)] (.mv (.t 0))) (.c (.q 23 [(21, true), (18, false)] (.mv (.t 1))) (.c (.q 24 [(21, true), (18, false)] (.sub (.t 23) (some (.c (.int .i64 1))) none)) (.c (.e (some 25) [(21, true), (18, false)] (.call false 314 [(.t 22), (.t 24)])) (.c (.q 26 [(18, false)] (.pick (.t 21) (.t 25) (.c (.bool false)))) (.c (.q 27 [] (.pick (.t 18) (.c (.bool true)) (.t 26))) (.c (.q 4 [] (.mv (.t 27))) .nil)))))))))))))))) .ret) .skip)
def t314_1 := b314_1
theorem u314_1 : vcK P t314_1 k e w = vcK P b314_1 k e w := rfl
abbrev b314_2 : X := (.cond (.t 5) (.seq (.reg [4] (.c (.q 8 [] (.mv (.t 1))) (.c (.q 9 [] (.bin .eql (.t 8) (.s []))) (.c (.q 4 [] (.mv (.t 9))) .nil)))) .ret) (.seq (.reg [0, 1, 10] (.c (.q 11 [] (.mv (.t 0))) (.c (.q 12 [] (.idx (.t 11) (.c (.int .i64 0)))) (.c (.q 13 [] (.bin .eql (.t 12) (.c (.int .u8 42)))) (.c (.q 10 [] (.mv (.t 13))) .nil))))) t314_1))
def t314_2 := b314_2
theorem u314_2 : vcK P t314_2 k e w = vcK P b314_2 k e w := rfl
abbrev b314_3 : X := (.seq (.drw [4] (.c (.q 28 [] (.mv (.t 1))) (.c (.q 29 [] (.bin .neq (.t 28) (.s []))) (.c (.q 30 [] (.mv (.t 29))) (.c (.q 31 [(30, true)] (.mv (.t 0))) (.c (.q 32 [(30, true)] (.idx (.t 31) (.c (.int .i64 0)))) (.c (.q 33 [(30, true)] (.bin .eql (.t 32) (.c (.int .u8 63)))) (.c (.q 34 [(30, true)] (.mv (.t 33))) (.c (.q 35 [(34, false), (30, true)] (.mv (.t 0))) (.c (.q 36 [(34, false), (30, true)] (.idx (.t 35) (.c (.int .i64 0)))) (.c (.q 37 [(34, false), (30, true)] (.mv (.t 1))) (.c (.q 38 [(34, false), (30, true)] (.idx (.t 37) (.c (.int .i64 0)))) (.c (.q 39 [(34, false), (30, true)] (.bin .eql (.t 36) (.t 38))) (.c (.q 40 [(30, true)] (.pick (.t 34) (.c (.bool true)) (.t 39))) (.c (.q 41 [] (.pick (.t 30) (.t 40) (.c (.bool false)))) (.c (.q 42 [] (.mv (.t 41))) (.c (.q 43 [(42, true)] (.mv (.t 0))) (.c (.q 44 [(42, true)] (.sub (.t 43) (some (.c (.int .i64 1))) none)) (.c (.q 45 [(42, true)] (.mv (.t 1))) (.c (.q 46 [(42, true)] (.sub (.t 45) (some (.c (.int .i64 1))) none)) (.c (.e (some 47) [(42, true)] (.call false 314 [(.t 44), (.t 46)])) (.c (.q 48 [] (.pick (.t 42) (.t 47) (.c (.bool false)))) (.c (.q 4 [] (.mv (.t 48))) .nil))))))))))))))))))))))) .ret)
def t314_3 := b314_3
theorem u314_3 : vcK P t314_3 k e w = vcK P b314_3 k e w := rfl
abbrev b314_4 : X := (.seq (.blk 0 (.seq (.reg [0, 1, 5] (.c (.q 6 [] (.mv (.t 0))) (.c (.q 7 [] (.bin .eql (.t 6) (.s []))) (.c (.q 5 [] (.mv (.t 7))) .nil)))) t314_2)) t314_3)
def t314_4 := b314_4
theorem u314_4 : vcK P t314_4 k e w = vcK P b314_4 k e w := rfl
abbrev b314_0 : X := (.seq (.reg [0, 1] (.c (.q 4 [] (.mv (.c (.bool false)))) .nil)) t314_4)
def x_sl16Fits := b314_0
theorem u314_0 : vcK P x_sl16Fits k e w = vcK P b314_0 k e w := rfl
def r_sl16Fits : List XO := [(.mv (.t 4))]
theorem c_sl16Fits : convF Try.prog [169, 170, 207, 208, 210, 227, 232, 233, 255, 259, 268, 269, 270, 280, 281, 296, 299, 306, 307, 309] Try.f314 [([0, 1], []), ([0, 1, 5], []), ([4], []), ([0, 1, 10], []), ([4], []), ([4], [])] = some (x_sl16Fits, r_sl16Fits) := by kernel_rfl
def us_sl16Fits := aI @u314_0 (aI @u314_1 (aI @u314_2 (aI @u314_3 @u314_4)))
end

/-- How many numbers below k have p. -/
def cnt (p : Nat → Bool) : Nat → Nat
  | 0 => 0
  | k + 1 => cnt p k + if p k then 1 else 0
theorem cnt_le (p : Nat → Bool) (k : Nat) : cnt p k ≤ k := by
  induction k with
  | zero => exact Nat.le_refl _
  | succ k ih => unfold cnt; split <;> omega
theorem cnt_t {p : Nat → Bool} {k : Nat} (h : p k = true) : ((cnt p (k + 1) : Nat) : Int) = (cnt p k : Nat) + 1 := by simp [cnt, h]
theorem cnt_f {p : Nat → Bool} {k : Nat} (h : p k = false) : cnt p (k + 1) = cnt p k := by simp [cnt, h]
/-- From place 1 to place k - 1 each byte is the one ahead of it and d. -/
def RunBy (l : List UInt8) (d : Int) (k : Nat) : Prop := ∀ i < k, 1 ≤ i → ((l.getD i 0).toNat : Int) - (l.getD (i - 1) 0).toNat = d
instance (l : List UInt8) (d : Int) (k : Nat) : Decidable (RunBy l d k) := by unfold RunBy; infer_instance
theorem RunBy.succ {l : List UInt8} {d : Int} {k : Nat} (h : RunBy l d k) (h1 : 1 ≤ k → ((l.getD k 0).toNat : Int) - (l.getD (k - 1) 0).toNat = d) : RunBy l d (k + 1) := fun i hi h2 => by
  by_cases he : i = k
  · subst he; exact h1 h2
  · exact h i (by omega) h2
theorem RunBy_succ {l : List UInt8} {d : Int} {k : Nat} : RunBy l d (k + 1) ↔ RunBy l d k ∧ (1 ≤ k → ((l.getD k 0).toNat : Int) - (l.getD (k - 1) 0).toNat = d) :=
  ⟨fun h => ⟨fun i hi h1 => h i (by omega) h1, fun h1 => h k (by omega) h1⟩, fun h => h.1.succ h.2⟩
/-- The run of n bells from place i on. -/
def RunAt (l : List UInt8) (n i : Nat) : Bool := decide (RunBy ((l.take (i + n)).drop i) 1 n) || decide (RunBy ((l.take (i + n)).drop i) (-1) n)
theorem sub_len (l : List UInt8) (i n : Nat) (h : i + n ≤ l.length) : ((l.take (i + n)).drop i).length = n := by simp; omega
def runsOf (l : List UInt8) (n : Int) : Value := if IsRow l ∧ 2 ≤ n ∧ n ≤ l.length then .tuple ⟨[.int .i64 (cnt (RunAt l n.toNat) (l.length + 1 - n.toNat)), .bool true]⟩ else .tuple ⟨[.int .i64 0, .bool false]⟩
/-- The pattern p fits the bells r. -/
def fitsL : List UInt8 → List UInt8 → Bool
  | [], r => decide (r = [])
  | c :: p, [] => decide ((c.toNat : Int) = 42) && fitsL p []
  | c :: p, d :: r => if (c.toNat : Int) = 42 then fitsL p (d :: r) || fitsL (c :: p) r else (decide ((c.toNat : Int) = 63) || decide ((c.toNat : Int) = (d.toNat : Int))) && fitsL p r
termination_by p r => p.length + r.length
theorem ifits_ok (n : Nat) : ∀ (p r : List UInt8), p.length + r.length ≤ n → ∀ w, Fn 315 [S p, S r] w (fun v _ => v = .bool (fitsL p r)) := by
  induction n with
  | zero =>
    intro p r h w
    obtain rfl : p = [] := List.length_eq_zero_iff.1 (by omega)
    obtain rfl : r = [] := List.length_eq_zero_iff.1 (by omega)
    (refine callsV_of mix Try.func315 c_ifits ?_; simp only [↓vsd, vsn, gW, qd, qv, ev, pick, argE, zipE, ne_eq, eq_self, forall_const, implies_true, if_true, if_false, reduceIte, reduceCtorEq, Nat.reduceEqDiff, Nat.reduceAdd, Nat.reduceLT, ↓us_ifits, r_ifits])
    exact ⟨Ext.refl _, by simp [fitsL]⟩
  | succ n ih =>
    intro p r h w
    cases p with
    | nil =>
      (refine callsV_of mix Try.func315 c_ifits ?_; simp only [↓vsd, vsn, gW, qd, qv, ev, pick, argE, zipE, ne_eq, eq_self, forall_const, implies_true, if_true, if_false, reduceIte, reduceCtorEq, Nat.reduceEqDiff, Nat.reduceAdd, Nat.reduceLT, ↓us_ifits, r_ifits])
      exact ⟨Ext.refl _, by simp [fitsL]⟩
    | cons c p =>
      simp only [List.length_cons] at h
      (refine callsV_of mix Try.func315 c_ifits ?_; simp only [↓vsd, vsn, gW, qd, qv, ev, pick, argE, zipE, ne_eq, eq_self, forall_const, implies_true, if_true, if_false, reduceIte, reduceCtorEq, Nat.reduceEqDiff, Nat.reduceAdd, Nat.reduceLT, ↓us_ifits, r_ifits])
      cases r with
      | nil =>
        simp only [↓vsd, vsn, gW, qd, qv, ev, pick, argE, zipE, ne_eq, eq_self, forall_const, implies_true, if_true, if_false, reduceIte, reduceCtorEq, Nat.reduceEqDiff, Nat.reduceAdd, Nat.reduceLT, ↓us_ifits, r_ifits, List.drop_succ_cons, List.drop_zero, List.getD_cons_zero, fitsL]
        ((repeat' (first | (with_reducible refine And.intro ?_ ?_) | intro _)) <;> (try first | omega | ((with_reducible refine inR_i64 ?_) <;> omega) | ((with_reducible refine inR_u8 ?_) <;> omega) | with_reducible assumption | exact Ext.refl _))
        · refine m_call (ih p [] (by simp; omega) _) ?_
          rintro _ w1 hx1 rfl
          simp only [↓vsd, vsn, gW, qd, qv, ev, pick, argE, zipE, ne_eq, eq_self, forall_const, implies_true, if_true, if_false, reduceIte, reduceCtorEq, Nat.reduceEqDiff, Nat.reduceAdd, Nat.reduceLT, ↓us_ifits, r_ifits]
          rename_i h1
          exact ⟨hx1, by simp [h1]⟩
        · rename_i h1
          simp [h1]
      | cons d r =>
        simp only [List.length_cons] at h
        simp only [↓vsd, vsn, gW, qd, qv, ev, pick, argE, zipE, ne_eq, eq_self, forall_const, implies_true, if_true, if_false, reduceIte, reduceCtorEq, Nat.reduceEqDiff, Nat.reduceAdd, Nat.reduceLT, ↓us_ifits, r_ifits, List.drop_succ_cons, List.drop_zero, List.getD_cons_zero, fitsL]
        ((repeat' (first | (with_reducible refine And.intro ?_ ?_) | intro _)) <;> (try first | omega | ((with_reducible refine inR_i64 ?_) <;> omega) | ((with_reducible refine inR_u8 ?_) <;> omega) | with_reducible assumption | exact Ext.refl _))
        · refine m_call (ih p (d :: r) (by simp; omega) _) ?_
          rintro _ w1 hx1 rfl
          simp only [↓vsd, vsn, gW, qd, qv, ev, pick, argE, zipE, ne_eq, eq_self, forall_const, implies_true, if_true, if_false, reduceIte, reduceCtorEq, Nat.reduceEqDiff, Nat.reduceAdd, Nat.reduceLT, ↓us_ifits, r_ifits, List.drop_succ_cons, List.drop_zero]
          ((repeat' (first | (with_reducible refine And.intro ?_ ?_) | intro _)) <;> (try first | omega | ((with_reducible refine inR_i64 ?_) <;> omega) | ((with_reducible refine inR_u8 ?_) <;> omega) | with_reducible assumption | exact Ext.refl _))
          · refine m_call (ih (c :: p) r (by simp; omega) _) ?_
            rintro _ w2 hx2 rfl
            simp only [↓vsd, vsn, gW, qd, qv, ev, pick, argE, zipE, ne_eq, eq_self, forall_const, implies_true, if_true, if_false, reduceIte, reduceCtorEq, Nat.reduceEqDiff, Nat.reduceAdd, Nat.reduceLT, ↓us_ifits, r_ifits]
            rename_i h1 h2
            exact ⟨hx1.trans hx2, by simp [h1, h2]⟩
          · rename_i h1 h2
            simp [h1, h2]
        · refine m_call (ih p r (by omega) _) ?_
          rintro _ w1 hx1 rfl
          simp only [↓vsd, vsn, gW, qd, qv, ev, pick, argE, zipE, ne_eq, eq_self, forall_const, implies_true, if_true, if_false, reduceIte, reduceCtorEq, Nat.reduceEqDiff, Nat.reduceAdd, Nat.reduceLT, ↓us_ifits, r_ifits]
          rename_i h1 h2
          exact ⟨ud hx1, by simp [h1, h2]⟩
        · rename_i h1 h2
          simp [h1, h2]
theorem sl16Fits_ok (n : Nat) : ∀ (p r : List UInt8), p.length + r.length ≤ n → ∀ w, Fn 314 [S p, S r] w (fun v _ => v = .bool (fitsL p r)) := by
  induction n with
  | zero =>
    intro p r h w
    obtain rfl : p = [] := List.length_eq_zero_iff.1 (by omega)
    obtain rfl : r = [] := List.length_eq_zero_iff.1 (by omega)
    (refine callsV_of mix Try.func314 c_sl16Fits ?_; simp only [↓vsd, vsn, gW, qd, qv, ev, pick, argE, zipE, ne_eq, eq_self, forall_const, implies_true, if_true, if_false, reduceIte, reduceCtorEq, Nat.reduceEqDiff, Nat.reduceAdd, Nat.reduceLT, ↓us_sl16Fits, r_sl16Fits])
    exact ⟨Ext.refl _, by simp [fitsL]⟩
  | succ n ih =>
    intro p r h w
    cases p with
    | nil =>
      (refine callsV_of mix Try.func314 c_sl16Fits ?_; simp only [↓vsd, vsn, gW, qd, qv, ev, pick, argE, zipE, ne_eq, eq_self, forall_const, implies_true, if_true, if_false, reduceIte, reduceCtorEq, Nat.reduceEqDiff, Nat.reduceAdd, Nat.reduceLT, ↓us_sl16Fits, r_sl16Fits])
      exact ⟨Ext.refl _, by simp [fitsL]⟩
    | cons c p =>
      simp only [List.length_cons] at h
      (refine callsV_of mix Try.func314 c_sl16Fits ?_; simp only [↓vsd, vsn, gW, qd, qv, ev, pick, argE, zipE, ne_eq, eq_self, forall_const, implies_true, if_true, if_false, reduceIte, reduceCtorEq, Nat.reduceEqDiff, Nat.reduceAdd, Nat.reduceLT, ↓us_sl16Fits, r_sl16Fits])
      cases r with
      | nil =>
        simp only [↓vsd, vsn, gW, qd, qv, ev, pick, argE, zipE, ne_eq, eq_self, forall_const, implies_true, if_true, if_false, reduceIte, reduceCtorEq, Nat.reduceEqDiff, Nat.reduceAdd, Nat.reduceLT, ↓us_sl16Fits, r_sl16Fits, List.drop_succ_cons, List.drop_zero, List.getD_cons_zero, fitsL]
        ((repeat' (first | (with_reducible refine And.intro ?_ ?_) | intro _)) <;> (try first | omega | ((with_reducible refine inR_i64 ?_) <;> omega) | ((with_reducible refine inR_u8 ?_) <;> omega) | with_reducible assumption | exact Ext.refl _))
        · refine m_call (ih p [] (by simp; omega) _) ?_
          rintro _ w1 hx1 rfl
          simp only [↓vsd, vsn, gW, qd, qv, ev, pick, argE, zipE, ne_eq, eq_self, forall_const, implies_true, if_true, if_false, reduceIte, reduceCtorEq, Nat.reduceEqDiff, Nat.reduceAdd, Nat.reduceLT, ↓us_sl16Fits, r_sl16Fits]
          rename_i h1
          exact ⟨hx1, by simp [h1]⟩
        · rename_i h1
          simp [h1]
      | cons d r =>
        simp only [List.length_cons] at h
        simp only [↓vsd, vsn, gW, qd, qv, ev, pick, argE, zipE, ne_eq, eq_self, forall_const, implies_true, if_true, if_false, reduceIte, reduceCtorEq, Nat.reduceEqDiff, Nat.reduceAdd, Nat.reduceLT, ↓us_sl16Fits, r_sl16Fits, List.drop_succ_cons, List.drop_zero, List.getD_cons_zero, fitsL]
        ((repeat' (first | (with_reducible refine And.intro ?_ ?_) | intro _)) <;> (try first | omega | ((with_reducible refine inR_i64 ?_) <;> omega) | ((with_reducible refine inR_u8 ?_) <;> omega) | with_reducible assumption | exact Ext.refl _))
        · refine m_call (ih p (d :: r) (by simp; omega) _) ?_
          rintro _ w1 hx1 rfl
          simp only [↓vsd, vsn, gW, qd, qv, ev, pick, argE, zipE, ne_eq, eq_self, forall_const, implies_true, if_true, if_false, reduceIte, reduceCtorEq, Nat.reduceEqDiff, Nat.reduceAdd, Nat.reduceLT, ↓us_sl16Fits, r_sl16Fits, List.drop_succ_cons, List.drop_zero]
          ((repeat' (first | (with_reducible refine And.intro ?_ ?_) | intro _)) <;> (try first | omega | ((with_reducible refine inR_i64 ?_) <;> omega) | ((with_reducible refine inR_u8 ?_) <;> omega) | with_reducible assumption | exact Ext.refl _))
          · refine m_call (ih (c :: p) r (by simp; omega) _) ?_
            rintro _ w2 hx2 rfl
            simp only [↓vsd, vsn, gW, qd, qv, ev, pick, argE, zipE, ne_eq, eq_self, forall_const, implies_true, if_true, if_false, reduceIte, reduceCtorEq, Nat.reduceEqDiff, Nat.reduceAdd, Nat.reduceLT, ↓us_sl16Fits, r_sl16Fits]
            rename_i h1 h2
            exact ⟨hx1.trans hx2, by simp [h1, h2]⟩
          · rename_i h1 h2
            simp [h1, h2]
        · refine m_call (ih p r (by omega) _) ?_
          rintro _ w1 hx1 rfl
          simp only [↓vsd, vsn, gW, qd, qv, ev, pick, argE, zipE, ne_eq, eq_self, forall_const, implies_true, if_true, if_false, reduceIte, reduceCtorEq, Nat.reduceEqDiff, Nat.reduceAdd, Nat.reduceLT, ↓us_sl16Fits, r_sl16Fits]
          rename_i h1 h2
          exact ⟨ud hx1, by simp [h1, h2]⟩
        · rename_i h1 h2
          simp [h1, h2]
def fitsV (p r : List UInt8) : Value := if IsPat p ∧ IsRow r then .tuple ⟨[.bool (fitsL p r), .bool true]⟩ else .tuple ⟨[.bool false, .bool false]⟩
end Go.Proofs.Ytpnopboffalfnaa
