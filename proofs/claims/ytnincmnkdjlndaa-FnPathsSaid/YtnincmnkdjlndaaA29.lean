/-
  The place of a bell in a row.
  Conditions: none.
-/
import Derived.Test.YtnincmnkdjlndaaA10
set_option linter.unusedSimpArgs false
set_option linter.unusedVariables false
set_option linter.defProp false
namespace Go.Proofs.Ytnincmnkdjlndaa
open Go Go.RowKit
section
variable (P : Program) (k : KT) (e : Env) (w : World)
abbrev b256_1 : X := (.cond (.t 17) (.seq (.reg [4] (.c (.q 18 [] (.mv (.t 5))) (.c (.q 19 [] (.bin .add (.t 18) (.c (.int .i64 1)))) (.c (.q 4 [] (.mv (.t 19))) .nil)))) .ret) .skip)
def t256_1 := b256_1
theorem u256_1 : vcK P t256_1 k e w = vcK P b256_1 k e w := rfl
abbrev b256_2 : X := (.seq (.reg [0, 1, 5, 7, 8, 17] (.c (.q 11 [] (.mv (.t 0))) (.c (.q 12 [] (.mv (.t 5))) (.c (.q 13 [] (.idx (.t 11) (.t 12))) (.c (.q 14 [] (.bin .sub (.t 13) (.c (.int .u8 48)))) (.c (.q 15 [] (.cvi .i64 (.t 14))) (.c (.q 16 [] (.mv (.t 1))) (.c (.q 17 [] (.bin .eql (.t 15) (.t 16))) .nil)))))))) t256_1)
def t256_2 := b256_2
theorem u256_2 : vcK P t256_2 k e w = vcK P b256_2 k e w := rfl
abbrev b256_3 : X := (.reg [0, 1, 7, 8] (.c (.q 20 [] (.bin .add (.t 8) (.c (.int .i64 1)))) (.c (.q 8 [] (.mv (.t 20))) .nil)))
def t256_3 := b256_3
theorem u256_3 : vcK P t256_3 k e w = vcK P b256_3 k e w := rfl
abbrev b256_4 : X := (.seq (.blk 1 (.seq (.reg [0, 1, 5, 7, 8] (.c (.q 10 [] (.mv (.t 8))) (.c (.q 5 [] (.mv (.t 10))) .nil))) t256_2)) t256_3)
def t256_4 := b256_4
theorem u256_4 : vcK P t256_4 k e w = vcK P b256_4 k e w := rfl
abbrev b256_5 : X := (.seq (.cond (.t 9) .skip (.exit 0)) t256_4)
def t256_5 := b256_5
theorem u256_5 : vcK P t256_5 k e w = vcK P b256_5 k e w := rfl
abbrev b256_6 : X := (.seq (.reg [0, 1, 7, 8, 9] (.c (.q 9 [] (.bin .lss (.t 8) (.t 7))) .nil)) t256_5)
def t256_6 := b256_6
theorem u256_6 : vcK P t256_6 k e w = vcK P b256_6 k e w := rfl
abbrev b256_7 : X := (.blk 0 (.loop [8] [0, 1, 7] t256_6))
def t256_7 := b256_7
theorem u256_7 : vcK P t256_7 k e w = vcK P b256_7 k e w := rfl
abbrev b256_8 : X := (.seq (.reg [4] (.c (.q 4 [] (.mv (.c (.int .i64 0)))) .nil)) .ret)
def t256_8 := b256_8
theorem u256_8 : vcK P t256_8 k e w = vcK P b256_8 k e w := rfl
abbrev b256_9 : X := (.seq (.seq (.reg [0, 1, 7, 8] (.c (.q 6 [] (.mv (.t 0))) (.c (.q 7 [] (.len (.t 6))) (.c (.q 8 [] (.mv (.c (.int .i64 0)))) .nil)))) t256_7) t256_8)
def t256_9 := b256_9
theorem u256_9 : vcK P t256_9 k e w = vcK P b256_9 k e w := rfl
abbrev b256_0 : X := (.seq (.reg [0, 1] (.c (.q 4 [] (.mv (.c (.int .i64 0)))) .nil)) t256_9)
def x_iplaceOf := b256_0
theorem u256_0 : vcK P x_iplaceOf k e w = vcK P b256_0 k e w := rfl
def r_iplaceOf : List XO := [(.mv (.t 4))]
theorem c_iplaceOf : convF Try.prog [147, 148, 152, 160, 162, 163, 170, 178, 206, 208, 210, 224, 233, 235, 236, 251, 264, 265, 268, 270, 287, 322] Try.f256 [([0, 1], []), ([0, 1, 7, 8], []), ([8], [0, 1, 7]), ([0, 1, 7, 8, 9], []), ([0, 1, 5, 7, 8], []), ([0, 1, 5, 7, 8, 17], []), ([4], []), ([0, 1, 7, 8], []), ([4], [])] = some (x_iplaceOf, r_iplaceOf) := by kernel_rfl
def us_iplaceOf :=  (aI (aI (aI @u256_0 @u256_1) (aI @u256_2 (aI @u256_3 @u256_4))) (aI (aI @u256_5 @u256_6) (aI @u256_7 (aI @u256_8 @u256_9))))
end

/-- p is the place of bell b in r, 0 if there is none. -/
def PlaceIs (r : List UInt8) (b : Int) (p : Nat) : Prop := (p = 0 ∧ ∀ i < r.length, ((r.getD i 0).toNat : Int) - 48 ≠ b) ∨ (1 ≤ p ∧ p ≤ r.length ∧ ((r.getD (p - 1) 0).toNat : Int) - 48 = b ∧ ∀ i < p - 1, ((r.getD i 0).toNat : Int) - 48 ≠ b)
theorem iplaceOf_ok (r : List UInt8) (b : Int) (hl : r.length ≤ 1000000) (hr : ∀ c ∈ r, 48 ≤ c.toNat) (w : World) : Fn 256 [S r, .int .i64 b] w (fun v _ => ∃ p : Nat, v = .int .i64 p ∧ PlaceIs r b p) := by
  (refine callsV_of mix Try.func256 c_iplaceOf ?_; simp only [↓vsd, vsn, gW, qd, qv, ev, pick, argE, zipE, ne_eq, eq_self, forall_const, implies_true, if_true, if_false, reduceIte, reduceCtorEq, Nat.reduceEqDiff, Nat.reduceAdd, Nat.reduceLT, ↓us_iplaceOf, r_iplaceOf])
  refine m_upto r.length (fun k vs w' => vs = [.int .i64 k] ∧ (∀ i < k, ((r.getD i 0).toNat : Int) - 48 ≠ b) ∧ Ext w w') ⟨rfl, by simp, Ext.refl _⟩ ?_
  rintro k vs w1 hk ⟨rfl, hall, hx⟩
  by_cases hlt : k < r.length
  · have hltI : (k : Int) < r.length := by omega
    have hltJ : ¬ (r.length : Int) ≤ k := by omega
    have h48 := hr _ (getD_mem 0 hlt)
    have hb := (r.getD k 0).toNat_lt
    simp only [↓vsd, vsn, gW, qd, qv, ev, pick, argE, zipE, ne_eq, eq_self, forall_const, implies_true, if_true, if_false, reduceIte, reduceCtorEq, Nat.reduceEqDiff, Nat.reduceAdd, Nat.reduceLT, ↓us_iplaceOf, r_iplaceOf, hltI, hltJ]
    refine ⟨by omega, inR_u8 (by omega), inR_i64 (by omega), fun he => ⟨inR_i64 (by omega), hx, k + 1, rfl, .inr ⟨by omega, by omega, by rw [Nat.add_sub_cancel]; exact he, by rw [Nat.add_sub_cancel]; exact hall⟩⟩, fun hne => ⟨inR_i64 (by omega), UpTo.next hlt ⟨rfl, fun i hi => ?_, hx⟩⟩⟩
    rcases Nat.lt_succ_iff_lt_or_eq.1 hi with h | rfl
    · exact hall i h
    · exact hne
  · obtain rfl : k = r.length := by omega
    have hltI : ¬ (r.length : Int) < r.length := by omega
    simp only [↓vsd, vsn, gW, qd, qv, ev, pick, argE, zipE, ne_eq, eq_self, forall_const, implies_true, if_true, if_false, reduceIte, reduceCtorEq, Nat.reduceEqDiff, Nat.reduceAdd, Nat.reduceLT, ↓us_iplaceOf, r_iplaceOf, hltI]
    exact ⟨hx, 0, rfl, .inl ⟨rfl, hall⟩⟩
theorem PlaceIs.uniq {r : List UInt8} {b : Int} {p q : Nat} (h : PlaceIs r b p) (h' : PlaceIs r b q) : p = q := by
  rcases h with ⟨rfl, h1⟩ | ⟨h1, h2, h3, h4⟩ <;> rcases h' with ⟨rfl, g1⟩ | ⟨g1, g2, g3, g4⟩
  · rfl
  · exact absurd g3 (h1 _ (by omega))
  · exact absurd h3 (g1 _ (by omega))
  · rcases Nat.lt_trichotomy p q with h | h | h
    · exact absurd h3 (g4 _ (by omega))
    · exact h
    · exact absurd g3 (h4 _ (by omega))
/-- The place of a bell, found from the front. -/
def plcL (r : List UInt8) (b : Int) : Nat := if ∃ i, i < r.length ∧ ((r.getD i 0).toNat : Int) - 48 = b then r.findIdx (fun c => decide ((c.toNat : Int) - 48 = b)) + 1 else 0
theorem plcL_is (r : List UInt8) (b : Int) : PlaceIs r b (plcL r b) := by
  unfold plcL
  by_cases h : ∃ i, i < r.length ∧ ((r.getD i 0).toNat : Int) - 48 = b
  · rw [if_pos h]
    obtain ⟨i, hi, he⟩ := h
    have hlt : r.findIdx (fun c => decide ((c.toNat : Int) - 48 = b)) < r.length := by
      rw [List.findIdx_lt_length]
      refine ⟨r[i], List.getElem_mem hi, ?_⟩
      rw [List.getD_eq_getElem?_getD, List.getElem?_eq_getElem hi] at he
      exact decide_eq_true he
    refine .inr ⟨by omega, by omega, ?_, fun j hj => ?_⟩
    · have := List.findIdx_getElem (w := hlt)
      rw [Nat.add_sub_cancel, List.getD_eq_getElem?_getD, List.getElem?_eq_getElem hlt]
      exact of_decide_eq_true this
    · rw [Nat.add_sub_cancel] at hj
      have := List.not_of_lt_findIdx hj
      rw [List.getD_eq_getElem?_getD, List.getElem?_eq_getElem (by omega)]
      simpa using this
  · rw [if_neg h]
    exact .inl ⟨rfl, fun i hi he => h ⟨i, hi, he⟩⟩
end Go.Proofs.Ytnincmnkdjlndaa
