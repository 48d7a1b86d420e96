/-
  Changes: rows, places, swaps and mirrors, of both sides.
  Conditions: none.
-/
import Derived.Test.YtnincmnkdjlndaaA10
import Derived.Test.YtnincmnkdjlndaaPq
import Derived.Test.YtnincmnkdjlndaaVw
set_option linter.unusedSimpArgs false
set_option linter.unusedVariables false
set_option linter.defProp false
namespace Go.Proofs.Ytnincmnkdjlndaa
open Go Go.RowKit
section
variable (P : Program) (k : KT) (e : Env) (w : World)
abbrev b89_1 : X := (.cond (.t 15) (.seq (.reg [4, 5] (.c (.q 4 [] (.mv (.s []))) (.c (.q 5 [] (.mv (.c (.bool false)))) .nil))) .ret) .skip)
def t89_1 := b89_1
theorem u89_1 : vcK P t89_1 k e w = vcK P b89_1 k e w := rfl
abbrev b89_2 : X := (.seq (.reg [4, 5] (.c (.q 16 [] (.mv (.t 0))) (.c (.q 17 [] (.mv (.t 1))) (.c (.e (some 18) [] (.call false 214 [(.t 16), (.t 17)])) (.c (.q 4 [] (.mv (.t 18))) (.c (.q 5 [] (.mv (.c (.bool true)))) .nil)))))) .ret)
def t89_2 := b89_2
theorem u89_2 : vcK P t89_2 k e w = vcK P b89_2 k e w := rfl
abbrev b89_3 : X := (.seq (.seq (.reg [0, 1, 15] (.c (.q 6 [] (.mv (.t 0))) (.c (.e (some 7) [] (.call false 141 [(.t 6)])) (.c (.q 8 [] (.not (.t 7))) (.c (.q 9 [] (.mv (.t 8))) (.c (.q 10 [(9, false)] (.mv (.t 0))) (.c (.q 11 [(9, false)] (.len (.t 10))) (.c (.q 12 [(9, false)] (.mv (.t 1))) (.c (.e (some 13) [(9, false)] (.call false 41 [(.t 11), (.t 12)])) (.c (.q 14 [(9, false)] (.not (.t 13))) (.c (.q 15 [] (.pick (.t 9) (.c (.bool true)) (.t 14))) .nil))))))))))) t89_1) t89_2)
def t89_3 := b89_3
theorem u89_3 : vcK P t89_3 k e w = vcK P b89_3 k e w := rfl
abbrev b89_0 : X := (.seq (.reg [0, 1] (.c (.q 4 [] (.mv (.s []))) (.c (.q 5 [] (.mv (.c (.bool false)))) .nil))) t89_3)
def x_iApply := b89_0
theorem u89_0 : vcK P x_iApply k e w = vcK P b89_0 k e w := rfl
def r_iApply : List XO := [(.mv (.t 4)), (.mv (.t 5))]
theorem c_iApply : convF Try.prog [147, 148, 152, 160, 162, 163, 170, 178, 206, 208, 210, 224, 233, 235, 236, 251, 264, 265, 268, 270, 287, 322] Try.f89 [([0, 1], []), ([0, 1, 15], []), ([4, 5], []), ([4, 5], [])] = some (x_iApply, r_iApply) := by kernel_rfl
def us_iApply :=  (aI (aI @u89_0 @u89_1) (aI @u89_2 @u89_3))
abbrev b212_1 : X := (.cond (.t 12) .skip (.exit 0))
def t212_1 := b212_1
theorem u212_1 : vcK P t212_1 k e w = vcK P b212_1 k e w := rfl
abbrev b212_2 : X := (.reg [0, 1, 6, 7, 8] (.c (.q 58 [] (.mv (.t 8))) (.c (.q 59 [] (.bin .add (.t 58) (.c (.int .i64 1)))) (.c (.q 8 [] (.mv (.t 59))) .nil))))
def t212_2 := b212_2
theorem u212_2 : vcK P t212_2 k e w = vcK P b212_2 k e w := rfl
abbrev b212_3 : X := (.cond (.t 32) (.seq (.reg [0, 1, 6, 7, 8] (.c (.q 7 [] (.mv (.c (.bool true)))) .nil)) t212_2) (.seq (.reg [4, 5] (.c (.q 4 [] (.mv (.s []))) (.c (.q 5 [] (.mv (.c (.bool false)))) .nil))) .ret))
def t212_3 := b212_3
theorem u212_3 : vcK P t212_3 k e w = vcK P b212_3 k e w := rfl
abbrev b212_4 : X := (.cond (.t 15) (.reg [0, 1, 6, 7, 8] (.c (.q 23 [] (.mv (.t 6))) (.c (.q 24 [] (.mv (.t 0))) (.c (.q 25 [] (.len (.t 24))) (.c (.e (some 26) [] (.call false 142 [(.t 25)])) (.c (.q 27 [] (.mv (.t 8))) (.c (.q 28 [] (.mv (.t 8))) (.c (.q 29 [] (.bin .add (.t 28) (.c (.int .i64 1)))) (.c (.q 30 [] (.sub (.t 26) (some (.t 27)) (some (.t 29)))) (.c (.q 31 [] (.bin .add (.t 23) (.t 30))) (.c (.q 6 [] (.mv (.t 31))) .nil))))))))))) (.seq (.drw [0, 1, 6, 8, 32] (.c (.q 33 [] (.mv (.t 8))) (.c (.q 34 [] (.bin .add (.t 33) (.c (.int .i64 1)))) (.c (.q 35 [] (.mv (.t 0))) (.c (.q 36 [] (.len (.t 35))) (.c (.q 37 [] (.bin .lss (.t 34) (.t 36))) (.c (.q 38 [] (.mv (.t 37))) (.c (.q 39 [(38, true)] (.mv (.t 0))) (.c (.q 40 [(38, true)] (.mv (.t 8))) (.c (.q 41 [(38, true)] (.idx (.t 39) (.t 40))) (.c (.q 42 [(38, true)] (.mv (.t 1))) (.c (.q 43 [(38, true)] (.mv (.t 8))) (.c (.q 44 [(38, true)] (.bin .add (.t 43) (.c (.int .i64 1)))) (.c (.q 45 [(38, true)] (.idx (.t 42) (.t 44))) (.c (.q 46 [(38, true)] (.bin .eql (.t 41) (.t 45))) (.c (.q 47 [] (.pick (.t 38) (.t 46) (.c (.bool false)))) (.c (.q 48 [] (.mv (.t 47))) (.c (.q 49 [(48, true)] (.mv (.t 0))) (.c (.q 50 [(48, true)] (.mv (.t 8))) (.c (.q 51 [(48, true)] (.bin .add (.t 50) (.c (.int .i64 1)))) (.c (.q 52 [(48, true)] (.idx (.t 49) (.t 51))) (.c (.q 53 [(48, true)] (.mv (.t 1))) (.c (.q 54 [(48, true)] (.mv (.t 8))) (.c (.q 55 [(48, true)] (.idx (.t 53) (.t 54))) (.c (.q 56 [(48, true)] (.bin .eql (.t 52) (.t 55))) (.c (.q 57 [] (.pick (.t 48) (.t 56) (.c (.bool false)))) (.c (.q 32 [] (.mv (.t 57))) .nil))))))))))))))))))))))))))) t212_3))
def t212_4 := b212_4
theorem u212_4 : vcK P t212_4 k e w = vcK P b212_4 k e w := rfl
abbrev b212_5 : X := (.reg [0, 1, 6, 7, 8] (.c (.q 13 [] (.mv (.t 8))) (.c (.q 14 [] (.bin .add (.t 13) (.c (.int .i64 1)))) (.c (.q 8 [] (.mv (.t 14))) .nil))))
def t212_5 := b212_5
theorem u212_5 : vcK P t212_5 k e w = vcK P b212_5 k e w := rfl
abbrev b212_6 : X := (.seq (.blk 1 (.blk 2 (.seq (.drw [0, 1, 6, 7, 8, 15] (.c (.q 16 [] (.mv (.t 0))) (.c (.q 17 [] (.mv (.t 8))) (.c (.q 18 [] (.idx (.t 16) (.t 17))) (.c (.q 19 [] (.mv (.t 1))) (.c (.q 20 [] (.mv (.t 8))) (.c (.q 21 [] (.idx (.t 19) (.t 20))) (.c (.q 22 [] (.bin .eql (.t 18) (.t 21))) (.c (.q 15 [] (.mv (.t 22))) .nil))))))))) t212_4))) t212_5)
def t212_6 := b212_6
theorem u212_6 : vcK P t212_6 k e w = vcK P b212_6 k e w := rfl
abbrev b212_7 : X := (.seq (.seq (.reg [0, 1, 6, 7, 8, 12] (.c (.q 9 [] (.mv (.t 8))) (.c (.q 10 [] (.mv (.t 0))) (.c (.q 11 [] (.len (.t 10))) (.c (.q 12 [] (.bin .lss (.t 9) (.t 11))) .nil))))) t212_1) t212_6)
def t212_7 := b212_7
theorem u212_7 : vcK P t212_7 k e w = vcK P b212_7 k e w := rfl
abbrev b212_8 : X := (.blk 0 (.loop [6, 7, 8] [0, 1] t212_7))
def t212_8 := b212_8
theorem u212_8 : vcK P t212_8 k e w = vcK P b212_8 k e w := rfl
abbrev b212_9 : X := (.cond (.t 61) (.reg [6, 7] (.c (.q 6 [] (.mv (.s [45]))) .nil)) .skip)
def t212_9 := b212_9
theorem u212_9 : vcK P t212_9 k e w = vcK P b212_9 k e w := rfl
abbrev b212_10 : X := (.seq (.reg [4, 5] (.c (.q 62 [] (.mv (.t 6))) (.c (.q 63 [] (.mv (.t 7))) (.c (.q 4 [] (.mv (.t 62))) (.c (.q 5 [] (.mv (.t 63))) .nil))))) .ret)
def t212_10 := b212_10
theorem u212_10 : vcK P t212_10 k e w = vcK P b212_10 k e w := rfl
abbrev b212_11 : X := (.seq (.seq (.reg [6, 7, 61] (.c (.q 60 [] (.mv (.t 6))) (.c (.q 61 [] (.bin .eql (.t 60) (.s []))) .nil))) t212_9) t212_10)
def t212_11 := b212_11
theorem u212_11 : vcK P t212_11 k e w = vcK P b212_11 k e w := rfl
abbrev b212_12 : X := (.seq (.seq (.reg [0, 1, 6, 7, 8] (.c (.q 8 [] (.mv (.c (.int .i64 0)))) .nil)) t212_8) t212_11)
def t212_12 := b212_12
theorem u212_12 : vcK P t212_12 k e w = vcK P b212_12 k e w := rfl
abbrev b212_13 : X := (.seq (.reg [0, 1, 6, 7] (.c (.q 6 [] (.mv (.s []))) (.c (.q 7 [] (.mv (.c (.bool false)))) .nil))) t212_12)
def t212_13 := b212_13
theorem u212_13 : vcK P t212_13 k e w = vcK P b212_13 k e w := rfl
abbrev b212_0 : X := (.seq (.reg [0, 1] (.c (.q 4 [] (.mv (.s []))) (.c (.q 5 [] (.mv (.c (.bool false)))) .nil))) t212_13)
def x_ibetween := b212_0
theorem u212_0 : vcK P x_ibetween k e w = vcK P b212_0 k e w := rfl
def r_ibetween : List XO := [(.mv (.t 4)), (.mv (.t 5))]
theorem c_ibetween : convF Try.prog [147, 148, 152, 160, 162, 163, 170, 178, 206, 208, 210, 224, 233, 235, 236, 251, 264, 265, 268, 270, 287, 322] Try.f212 [([0, 1], []), ([0, 1, 6, 7], []), ([0, 1, 6, 7, 8], []), ([6, 7, 8], [0, 1]), ([0, 1, 6, 7, 8, 12], []), ([0, 1, 6, 7, 8, 15], []), ([0, 1, 6, 7, 8], []), ([0, 1, 6, 8, 32], []), ([0, 1, 6, 7, 8], []), ([0, 1, 6, 7, 8], []), ([4, 5], []), ([0, 1, 6, 7, 8], []), ([6, 7, 61], []), ([6, 7], []), ([4, 5], [])] = some (x_ibetween, r_ibetween) := by kernel_rfl
def us_ibetween :=  (aI (aI (aI @u212_0 (aI @u212_1 @u212_2)) (aI (aI @u212_3 @u212_4) (aI @u212_5 @u212_6))) (aI (aI @u212_7 (aI @u212_8 @u212_9)) (aI (aI @u212_10 @u212_11) (aI @u212_12 @u212_13))))
abbrev b87_1 : X := (.cond (.t 17) (.seq (.reg [4, 5] (.c (.q 4 [] (.mv (.s []))) (.c (.q 5 [] (.mv (.c (.bool false)))) .nil))) .ret) .skip)
def t87_1 := b87_1
theorem u87_1 : vcK P t87_1 k e w = vcK P b87_1 k e w := rfl
abbrev b87_2 : X := (.cond (.t 25) (.seq (.reg [4, 5] (.c (.q 4 [] (.mv (.s []))) (.c (.q 5 [] (.mv (.c (.bool false)))) .nil))) .ret) .skip)
def t87_2 := b87_2
theorem u87_2 : vcK P t87_2 k e w = vcK P b87_2 k e w := rfl
abbrev b87_3 : X := (.seq (.reg [4, 5] (.c (.q 26 [] (.mv (.t 6))) (.c (.q 4 [] (.mv (.t 26))) (.c (.q 5 [] (.mv (.c (.bool true)))) .nil)))) .ret)
def t87_3 := b87_3
theorem u87_3 : vcK P t87_3 k e w = vcK P b87_3 k e w := rfl
abbrev b87_4 : X := (.seq (.seq (.reg [6, 25] (.c (.q 24 [] (.mv (.t 7))) (.c (.q 25 [] (.not (.t 24))) .nil))) t87_2) t87_3)
def t87_4 := b87_4
theorem u87_4 : vcK P t87_4 k e w = vcK P b87_4 k e w := rfl
abbrev b87_5 : X := (.seq (.reg [6, 7] (.c (.q 19 [] (.mv (.t 0))) (.c (.q 20 [] (.mv (.t 1))) (.c (.e (some 21) [] (.call false 212 [(.t 19), (.t 20)])) (.c (.q 18 [] (.mv (.t 21))) (.c (.q 22 [] (.ext 0 (.t 18))) (.c (.q 23 [] (.ext 1 (.t 18))) (.c (.q 6 [] (.mv (.t 22))) (.c (.q 7 [] (.mv (.t 23))) .nil))))))))) t87_4)
def t87_5 := b87_5
theorem u87_5 : vcK P t87_5 k e w = vcK P b87_5 k e w := rfl
abbrev b87_6 : X := (.seq (.seq (.reg [0, 1, 17] (.c (.q 8 [] (.mv (.t 0))) (.c (.e (some 9) [] (.call false 141 [(.t 8)])) (.c (.q 10 [] (.not (.t 9))) (.c (.q 11 [] (.mv (.t 10))) (.c (.q 12 [(11, false)] (.mv (.t 0))) (.c (.q 13 [(11, false)] (.len (.t 12))) (.c (.q 14 [(11, false)] (.mv (.t 1))) (.c (.e (some 15) [(11, false)] (.call false 143 [(.t 13), (.t 14)])) (.c (.q 16 [(11, false)] (.not (.t 15))) (.c (.q 17 [] (.pick (.t 11) (.c (.bool true)) (.t 16))) .nil))))))))))) t87_1) t87_5)
def t87_6 := b87_6
theorem u87_6 : vcK P t87_6 k e w = vcK P b87_6 k e w := rfl
abbrev b87_0 : X := (.seq (.reg [0, 1] (.c (.q 4 [] (.mv (.s []))) (.c (.q 5 [] (.mv (.c (.bool false)))) .nil))) t87_6)
def x_iBetweenRows := b87_0
theorem u87_0 : vcK P x_iBetweenRows k e w = vcK P b87_0 k e w := rfl
def r_iBetweenRows : List XO := [(.mv (.t 4)), (.mv (.t 5))]
theorem c_iBetweenRows : convF Try.prog [147, 148, 152, 160, 162, 163, 170, 178, 206, 208, 210, 224, 233, 235, 236, 251, 264, 265, 268, 270, 287, 322] Try.f87 [([0, 1], []), ([0, 1, 17], []), ([4, 5], []), ([6, 7], []), ([6, 25], []), ([4, 5], []), ([4, 5], [])] = some (x_iBetweenRows, r_iBetweenRows) := by kernel_rfl
def us_iBetweenRows :=  (aI (aI @u87_0 (aI @u87_1 @u87_2)) (aI (aI @u87_3 @u87_4) (aI @u87_5 @u87_6)))
end

theorem iplacesOf_okx (c : List UInt8) (hc : c.length ≤ 1048576) (hd : c = [45] ∨ DigUp c c.length) (w : World) : Fn 353 [S c] w (fun v w' => Own fI 1 3 w.heap.size w' v (plC c)) := by
  (refine callsV_of mix Try.func353 c_iplacesOf ?_; simp only [↓vsd, vsn, gW, qd, qv, ev, pick, argE, zipE, ne_eq, eq_self, forall_const, implies_true, if_true, if_false, reduceIte, reduceCtorEq, Nat.reduceEqDiff, Nat.reduceAdd, Nat.reduceLT, ↓us_iplacesOf, r_iplacesOf])
  refine ⟨fun he => m_bsl (fun _ h => by cases h) ?_, fun hne => m_call (iplaces_ok c hc _) ?_⟩
  · rintro b w1 hb hblk hx1 hs1
    simp only [↓vsd, vsn, gW, qd, qv, ev, pick, argE, zipE, ne_eq, eq_self, forall_const, implies_true, if_true, if_false, reduceIte, reduceCtorEq, Nat.reduceEqDiff, Nat.reduceAdd, Nat.reduceLT, ↓us_iplacesOf, r_iplacesOf]
    exact ⟨hx1, (Own.empty fI_len hblk (by omega)).to (by rw [plC, if_pos he])⟩
  · rintro _ w1 hx1 ⟨x, rfl, hox⟩
    simp only [↓vsd, vsn, gW, qd, qv, ev, pick, argE, zipE, ne_eq, eq_self, forall_const, implies_true, if_true, if_false, reduceIte, reduceCtorEq, Nat.reduceEqDiff, Nat.reduceAdd, Nat.reduceLT, ↓us_iplacesOf, r_iplacesOf]
    have hd := hd.resolve_left hne
    exact ⟨hx1, (hox hd).to (by rw [plC, if_neg hne]; rfl)⟩
/-- The row of a change, if it is one. -/
def chgV (n : Int) (c : List UInt8) : Value := if IsChange n c then .tuple ⟨[S (chgL n.toNat c), .bool true]⟩ else .tuple ⟨[S [], .bool false]⟩
/-- The row under a change, if both are good. -/
def aplV (r c : List UInt8) : Value := if IsRow r ∧ IsChange r.length c then .tuple ⟨[S (applyL r c), .bool true]⟩ else .tuple ⟨[S [], .bool false]⟩
theorem iApply_ok (r c : List UInt8) (hc : c.length ≤ 1048576) (w : World) : Fn 89 [S r, S c] w (fun v _ => v = aplV r c) := by
  (refine callsV_of mix Try.func89 c_iApply ?_; simp only [↓vsd, vsn, gW, qd, qv, ev, pick, argE, zipE, ne_eq, eq_self, forall_const, implies_true, if_true, if_false, reduceIte, reduceCtorEq, Nat.reduceEqDiff, Nat.reduceAdd, Nat.reduceLT, ↓us_iApply, r_iApply])
  refine m_call (iGoodRow_ok r _) ?_
  rintro _ w1 hx1 rfl
  by_cases hr : IsRow r
  · simp only [↓vsd, vsn, gW, qd, qv, ev, pick, argE, zipE, ne_eq, eq_self, forall_const, implies_true, if_true, if_false, reduceIte, reduceCtorEq, Nat.reduceEqDiff, Nat.reduceAdd, Nat.reduceLT, ↓us_iApply, r_iApply, hr]
    refine m_call (iGoodChange_ok r.length c hc _) ?_
    rintro _ w2 hx2 rfl
    by_cases h : IsChange r.length c
    · simp only [↓vsd, vsn, gW, qd, qv, ev, pick, argE, zipE, ne_eq, eq_self, forall_const, implies_true, if_true, if_false, reduceIte, reduceCtorEq, Nat.reduceEqDiff, Nat.reduceAdd, Nat.reduceLT, ↓us_iApply, r_iApply, h]
      refine m_call (iapply_ok r c hr hc h.dig _) ?_
      rintro _ w3 hx3 rfl
      simp only [↓vsd, vsn, gW, qd, qv, ev, pick, argE, zipE, ne_eq, eq_self, forall_const, implies_true, if_true, if_false, reduceIte, reduceCtorEq, Nat.reduceEqDiff, Nat.reduceAdd, Nat.reduceLT, ↓us_iApply, r_iApply]
      exact ⟨(hx1.trans hx2).trans hx3, by rw [aplV, if_pos ⟨hr, h⟩]⟩
    · simp only [↓vsd, vsn, gW, qd, qv, ev, pick, argE, zipE, ne_eq, eq_self, forall_const, implies_true, if_true, if_false, reduceIte, reduceCtorEq, Nat.reduceEqDiff, Nat.reduceAdd, Nat.reduceLT, ↓us_iApply, r_iApply, h]
      exact ⟨hx1.trans hx2, by rw [aplV, if_neg (fun hh => h hh.2)]⟩
  · simp only [↓vsd, vsn, gW, qd, qv, ev, pick, argE, zipE, ne_eq, eq_self, forall_const, implies_true, if_true, if_false, reduceIte, reduceCtorEq, Nat.reduceEqDiff, Nat.reduceAdd, Nat.reduceLT, ↓us_iApply, r_iApply, hr]
    exact ⟨hx1, by rw [aplV, if_neg (fun hh => hr hh.1)]⟩
/-- What between answers. -/
def btwV : Option (List UInt8 × Bool) → Value
  | none => .tuple ⟨[S [], .bool false]⟩
  | some (c, s) => .tuple ⟨[S (if c = [] then [45] else c), .bool s]⟩
theorem ibetween_ok (a b : List UInt8) (ha : IsRow a) (hl : a.length = b.length) (w : World) : Fn 212 [S a, S b] w (fun r _ => r = btwV (btw a b (a.length + 1) 0 [] false)) := by
  have h8 := ha.1
  (refine callsV_of mix Try.func212 c_ibetween ?_; simp only [↓vsd, vsn, gW, qd, qv, ev, pick, argE, zipE, ne_eq, eq_self, forall_const, implies_true, if_true, if_false, reduceIte, reduceCtorEq, Nat.reduceEqDiff, Nat.reduceAdd, Nat.reduceLT, ↓us_ibetween, r_ibetween])
  refine m_loop (fun m us w' => ∃ (i : Nat) (c : List UInt8) (s : Bool), a.length + 1 ≤ m + i ∧ i ≤ a.length ∧ us = [S c, .bool s, .int .i64 i] ∧ c.length ≤ i ∧ btw a b m i c s = btw a b (a.length + 1) 0 [] false ∧ Ext w w') (a.length + 1) ⟨0, [], false, Nat.le_refl _, Nat.zero_le _, rfl, Nat.le_refl _, rfl, Ext.refl _⟩ ?_
  rintro m us w1 ⟨i, c, s, hmi, hi, rfl, hcl, hb, hx⟩
  obtain ⟨f, rfl⟩ : ∃ f, m = f + 1 := ⟨m - 1, by omega⟩
  by_cases hlt : i < a.length
  · have hltI : (i : Int) < a.length := by omega
    simp only [↓vsd, vsn, gW, qd, qv, ev, pick, argE, zipE, ne_eq, eq_self, forall_const, implies_true, if_true, if_false, reduceIte, reduceCtorEq, Nat.reduceEqDiff, Nat.reduceAdd, Nat.reduceLT, ↓us_ibetween, r_ibetween, hltI]
    rw [btw, if_pos hlt] at hb
    refine ⟨by omega, by omega, fun he => ?_, fun hne => ?_⟩
    · rw [if_pos (UInt8.toNat_inj.1 (by omega))] at hb
      refine m_call (irounds_ok a.length (by omega) _) ?_
      rintro _ w2 hx2 rfl
      have hso := sub_one (roundsL a.length) i (by rw [roundsL_len]; exact hlt)
      have hrl := roundsL_len a.length
      simp only [↓vsd, vsn, gW, qd, qv, ev, pick, argE, zipE, ne_eq, eq_self, forall_const, implies_true, if_true, if_false, reduceIte, reduceCtorEq, Nat.reduceEqDiff, Nat.reduceAdd, Nat.reduceLT, ↓us_ibetween, r_ibetween, hrl]
      rw [hso, roundsL_get _ _ hlt]
      exact ⟨inR_i64 (by omega), by omega, by simp only [List.length_cons, List.length_nil]; omega, inR_i64 (by omega), f, by omega, i + 1, _, s, by omega, by omega, ⟨rfl, rfl, rfl⟩, by rw [List.length_append]; simp; omega, hb, hx.trans (ud hx2)⟩
    · rw [if_neg (fun e => hne (by rw [e]))] at hb
      by_cases h2 : i + 1 < a.length ∧ a.getD i 0 = b.getD (i + 1) 0 ∧ a.getD (i + 1) 0 = b.getD i 0
      · rw [if_pos h2] at hb
        have h3 := h2.1
        exact ⟨inR_i64 (by omega), fun _ => by omega, fun _ => inR_i64 (by omega), fun _ => by omega, fun _ => inR_i64 (by omega), fun _ => by omega, fun _ => by omega, fun _ => ⟨inR_i64 (by omega), inR_i64 (by omega), f, by omega, i + 2, c, true, by omega, by omega, ⟨rfl, rfl, rfl⟩, by omega, hb, by first | exact hx | exact dr hx⟩, fun hno => absurd ⟨⟨by omega, by rw [h2.2.1]⟩, by rw [h2.2.2]⟩ hno⟩
      · rw [if_neg h2] at hb
        exact ⟨inR_i64 (by omega), fun _ => by omega, fun _ => inR_i64 (by omega), fun _ => by omega, fun _ => inR_i64 (by omega), fun _ => by omega, fun _ => by omega, fun hh => absurd ⟨by have := hh.1.1; omega, UInt8.toNat_inj.1 (by have := hh.1.2; omega), UInt8.toNat_inj.1 (by have := hh.2; omega)⟩ h2, fun _ => ⟨by first | exact hx | exact dr hx, by rw [← hb]; rfl⟩⟩
  · obtain rfl : i = a.length := by omega
    have hltI : ¬ (a.length : Int) < a.length := by omega
    simp only [↓vsd, vsn, gW, qd, qv, ev, pick, argE, zipE, ne_eq, eq_self, forall_const, implies_true, if_true, if_false, reduceIte, reduceCtorEq, Nat.reduceEqDiff, Nat.reduceAdd, Nat.reduceLT, ↓us_ibetween, r_ibetween, hltI]
    rw [btw, if_neg (by omega)] at hb
    rw [← hb]
    exact ⟨fun he => ⟨hx, by rw [btwV, if_pos he]⟩, fun hne => ⟨hx, by rw [btwV, if_neg hne]⟩⟩
theorem iBetweenRows_ok (a b c : List UInt8) (ha : IsRow a) (hb : IsRow b) (hl : a.length = b.length) (h : btwV (btw a b (a.length + 1) 0 [] false) = .tuple ⟨[S c, .bool true]⟩) (w : World) : Fn 87 [S a, S b] w (fun r _ => r = .tuple ⟨[S c, .bool true]⟩) := by
  (refine callsV_of mix Try.func87 c_iBetweenRows ?_; simp only [↓vsd, vsn, gW, qd, qv, ev, pick, argE, zipE, ne_eq, eq_self, forall_const, implies_true, if_true, if_false, reduceIte, reduceCtorEq, Nat.reduceEqDiff, Nat.reduceAdd, Nat.reduceLT, ↓us_iBetweenRows, r_iBetweenRows])
  refine m_call (iGoodRow_ok a _) ?_
  rintro _ w1 hx1 rfl
  simp only [↓vsd, vsn, gW, qd, qv, ev, pick, argE, zipE, ne_eq, eq_self, forall_const, implies_true, if_true, if_false, reduceIte, reduceCtorEq, Nat.reduceEqDiff, Nat.reduceAdd, Nat.reduceLT, ↓us_iBetweenRows, r_iBetweenRows, ha]
  refine m_call (iisRowOf_ok a.length b _) ?_
  rintro _ w2 hx2 rfl
  have hlI : (b.length : Int) = a.length := by omega
  simp only [↓vsd, vsn, gW, qd, qv, ev, pick, argE, zipE, ne_eq, eq_self, forall_const, implies_true, if_true, if_false, reduceIte, reduceCtorEq, Nat.reduceEqDiff, Nat.reduceAdd, Nat.reduceLT, ↓us_iBetweenRows, r_iBetweenRows, hb, hlI]
  refine m_call (ibetween_ok a b ha hl _) ?_
  rintro r w3 hx3 hr
  rw [h] at hr
  subst hr
  simp only [↓vsd, vsn, gW, qd, qv, ev, pick, argE, zipE, ne_eq, eq_self, forall_const, implies_true, if_true, if_false, reduceIte, reduceCtorEq, Nat.reduceEqDiff, Nat.reduceAdd, Nat.reduceLT, ↓us_iBetweenRows, r_iBetweenRows]
  exact (hx1.trans hx2).trans hx3
/-- The mirrored digit of a place. -/
def mD (n : Nat) (x : Int) : UInt8 := UInt8.ofNat (49 + (n - x.toNat))
def outM (n : Nat) (l : List Int) : List UInt8 := (l.map (mD n)).reverse
theorem outM_snoc (n : Nat) (l : List Int) (i : Nat) (h : i < l.length) : outM n (l.take (i + 1)) = mD n (l.getD i 0) :: outM n (l.take i) := by
  rw [outM, List.take_add_one, List.getElem?_eq_getElem h, List.getD_eq_getElem?_getD, List.getElem?_eq_getElem h, List.map_append, List.reverse_append]
  rfl
theorem mir_out {n : Nat} {c : List UInt8} (h : IsChange n c) : (if outM n (plC c) = [] then [45] else outM n (plC c)) = mirC n c := by
  have hm := by_mask (P := fun n bs => (if outM n (plC (chgOfB bs)) = [] then [45] else outM n (plC (chgOfB bs))) = mirC n (chgOfB bs)) (by decide +kernel) h
  rw [← change_mask h] at hm
  exact hm
def mirV (n : Int) (c : List UInt8) : Value := if IsChange n c then .tuple ⟨[S (mirC n.toNat c), .bool true]⟩ else .tuple ⟨[S [], .bool false]⟩
end Go.Proofs.Ytnincmnkdjlndaa
