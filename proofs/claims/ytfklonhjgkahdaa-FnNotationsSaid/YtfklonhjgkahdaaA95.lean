/-
  Place notation: the program's reader.
  Conditions: none.
-/
import Derived.Test.YtfklonhjgkahdaaA96
set_option linter.unusedSimpArgs false
set_option linter.unusedVariables false
set_option linter.defProp false
namespace Go.Proofs.Ytfklonhjgkahdaa
open Go Go.RowKit
section
variable (P : Program) (k : KT) (e : Env) (w : World)
abbrev b83_1 : X := (.seq (.drw [2] (.c (.q 3 [] (.mv (.t 0))) (.c (.q 4 [] (.nil (.t 3))) (.c (.q 5 [] (.fa 2 (.t 4))) (.c (.q 6 [] (.ld (.t 5))) (.c (.q 7 [] (.mv (.t 0))) (.c (.q 8 [] (.nil (.t 7))) (.c (.q 9 [] (.fa 1 (.t 8))) (.c (.q 10 [] (.ld (.t 9))) (.c (.q 11 [] (.len (.t 10))) (.c (.q 12 [] (.bin .eql (.t 6) (.t 11))) (.c (.q 13 [] (.mv (.t 12))) (.c (.q 14 [(13, false)] (.mv (.t 0))) (.c (.q 15 [(13, false)] (.nil (.t 14))) (.c (.q 16 [(13, false)] (.fa 1 (.t 15))) (.c (.q 17 [(13, false)] (.ld (.t 16))) (.c (.q 18 [(13, false)] (.mv (.t 0))) (.c (.q 19 [(13, false)] (.nil (.t 18))) (.c (.q 20 [(13, false)] (.fa 2 (.t 19))) (.c (.q 21 [(13, false)] (.ld (.t 20))) (.c (.q 22 [(13, false)] (.idx (.t 17) (.t 21))) (.c (.q 23 [(13, false)] (.bin .eql (.t 22) (.c (.int .u8 44)))) (.c (.q 24 [] (.pick (.t 13) (.c (.bool true)) (.t 23))) (.c (.q 2 [] (.mv (.t 24))) .nil)))))))))))))))))))))))) .ret)
def t83_1 := b83_1
theorem u83_1 : vcK P t83_1 k e w = vcK P b83_1 k e w := rfl
abbrev b83_0 : X := (.seq (.reg [0] (.c (.q 2 [] (.mv (.c (.bool false)))) .nil)) t83_1)
def x_inotation_ends := b83_0
theorem u83_0 : vcK P x_inotation_ends k e w = vcK P b83_0 k e w := rfl
def r_inotation_ends : List XO := [(.mv (.t 2))]
theorem c_inotation_ends : convF Try.prog [38, 39, 41, 42, 49, 54, 55, 57, 58, 59, 79, 81, 84, 87, 139] Try.f83 [([0], []), ([2], [])] = some (x_inotation_ends, r_inotation_ends) := by kernel_rfl
def us_inotation_ends :=  (aI @u83_0 @u83_1)
abbrev b82_1 : X := (.cond (.t 43) .skip (.exit 1))
def t82_1 := b82_1
theorem u82_1 : vcK P t82_1 k e w = vcK P b82_1 k e w := rfl
abbrev b82_2 : X := (.blk 2 (.reg [0, 3] (.c (.q 44 [] (.mv (.t 0))) (.c (.q 45 [] (.nil (.t 44))) (.c (.q 46 [] (.fa 2 (.t 45))) (.c (.q 47 [] (.ld (.t 46))) (.c (.q 48 [] (.bin .add (.t 47) (.c (.int .i64 1)))) (.c (.q 49 [] (.nil (.t 44))) (.c (.q 50 [] (.fa 2 (.t 49))) (.c (.e none [] (.st 1 (.t 50) (.t 48))) .nil))))))))))
def t82_2 := b82_2
theorem u82_2 : vcK P t82_2 k e w = vcK P b82_2 k e w := rfl
abbrev b82_3 : X := (.seq (.seq (.drw [0, 3, 43] (.c (.q 10 [] (.mv (.t 0))) (.c (.q 11 [] (.nil (.t 10))) (.c (.q 12 [] (.fa 2 (.t 11))) (.c (.q 13 [] (.ld (.t 12))) (.c (.q 14 [] (.mv (.t 0))) (.c (.q 15 [] (.nil (.t 14))) (.c (.q 16 [] (.fa 1 (.t 15))) (.c (.q 17 [] (.ld (.t 16))) (.c (.q 18 [] (.len (.t 17))) (.c (.q 19 [] (.bin .lss (.t 13) (.t 18))) (.c (.q 20 [] (.mv (.t 19))) (.c (.q 21 [(20, true)] (.mv (.t 0))) (.c (.q 22 [(20, true)] (.nil (.t 21))) (.c (.q 23 [(20, true)] (.fa 1 (.t 22))) (.c (.q 24 [(20, true)] (.ld (.t 23))) (.c (.q 25 [(20, true)] (.mv (.t 0))) (.c (.q 26 [(20, true)] (.nil (.t 25))) (.c (.q 27 [(20, true)] (.fa 2 (.t 26))) (.c (.q 28 [(20, true)] (.ld (.t 27))) (.c (.q 29 [(20, true)] (.idx (.t 24) (.t 28))) (.c (.q 30 [(20, true)] (.bin .geq (.t 29) (.c (.int .u8 48)))) (.c (.q 31 [] (.pick (.t 20) (.t 30) (.c (.bool false)))) (.c (.q 32 [] (.mv (.t 31))) (.c (.q 33 [(32, true)] (.mv (.t 0))) (.c (.q 34 [(32, true)] (.nil (.t 33))) (.c (.q 35 [(32, true)] (.fa 1 (.t 34))) (.c (.q 36 [(32, true)] (.ld (.t 35))) (.c (.q 37 [(32, true)] (.mv (.t 0))) (.c (.q 38 [(32, true)] (.nil (.t 37))) (.c (.q 39 [(32, true)] (.fa 2 (.t 38))) (.c (.q 40 [(32, true)] (.ld (.t 39))) (.c (.q 41 [(32, true)] (.idx (.t 36) (.t 40))) (.c (.q 42 [(32, true)] (.bin .leq (.t 41) (.c (.int .u8 57)))) (.c (.q 43 [] (.pick (.t 32) (.t 42) (.c (.bool false)))) .nil))))))))))))))))))))))))))))))))))) t82_1) t82_2)
def t82_3 := b82_3
theorem u82_3 : vcK P t82_3 k e w = vcK P b82_3 k e w := rfl
abbrev b82_4 : X := (.cond (.t 54) (.reg [0, 3] (.c (.q 71 [] (.mv (.t 0))) (.c (.q 72 [] (.nil (.t 71))) (.c (.q 73 [] (.fa 2 (.t 72))) (.c (.q 74 [] (.ld (.t 73))) (.c (.q 75 [] (.bin .add (.t 74) (.c (.int .i64 1)))) (.c (.q 76 [] (.nil (.t 71))) (.c (.q 77 [] (.fa 2 (.t 76))) (.c (.e none [] (.st 1 (.t 77) (.t 75))) .nil))))))))) (.blk 1 (.loop [] [0, 3] t82_3)))
def t82_4 := b82_4
theorem u82_4 : vcK P t82_4 k e w = vcK P b82_4 k e w := rfl
abbrev b82_5 : X := (.cond (.t 51) .skip (.seq (.reg [0, 3, 54] (.c (.q 55 [] (.mv (.t 0))) (.c (.q 56 [] (.nil (.t 55))) (.c (.q 57 [] (.fa 1 (.t 56))) (.c (.q 58 [] (.ld (.t 57))) (.c (.q 59 [] (.mv (.t 3))) (.c (.q 60 [] (.idx (.t 58) (.t 59))) (.c (.q 61 [] (.bin .eql (.t 60) (.c (.int .u8 120)))) (.c (.q 62 [] (.mv (.t 61))) (.c (.q 63 [(62, false)] (.mv (.t 0))) (.c (.q 64 [(62, false)] (.nil (.t 63))) (.c (.q 65 [(62, false)] (.fa 1 (.t 64))) (.c (.q 66 [(62, false)] (.ld (.t 65))) (.c (.q 67 [(62, false)] (.mv (.t 3))) (.c (.q 68 [(62, false)] (.idx (.t 66) (.t 67))) (.c (.q 69 [(62, false)] (.bin .eql (.t 68) (.c (.int .u8 45)))) (.c (.q 70 [] (.pick (.t 62) (.c (.bool true)) (.t 69))) (.c (.q 54 [] (.mv (.t 70))) .nil)))))))))))))))))) t82_4))
def t82_5 := b82_5
theorem u82_5 : vcK P t82_5 k e w = vcK P b82_5 k e w := rfl
abbrev b82_6 : X := (.cond (.t 105) (.reg [4] (.c (.q 106 [] (.mv (.t 0))) (.c (.q 107 [] (.mv (.t 3))) (.c (.q 108 [] (.nil (.t 106))) (.c (.q 109 [] (.fa 3 (.t 108))) (.c (.e none [] (.st 1 (.t 109) (.t 107))) .nil)))))) .skip)
def t82_6 := b82_6
theorem u82_6 : vcK P t82_6 k e w = vcK P b82_6 k e w := rfl
abbrev b82_7 : X := (.seq (.reg [2] (.c (.q 110 [] (.mv (.t 4))) (.c (.q 2 [] (.mv (.t 110))) .nil))) .ret)
def t82_7 := b82_7
theorem u82_7 : vcK P t82_7 k e w = vcK P b82_7 k e w := rfl
abbrev b82_8 : X := (.seq (.seq (.reg [0, 3, 4, 105] (.c (.q 96 [] (.mv (.t 0))) (.c (.q 97 [] (.nil (.t 96))) (.c (.q 98 [] (.fa 2 (.t 97))) (.c (.q 99 [] (.ld (.t 98))) (.c (.q 100 [] (.mv (.t 3))) (.c (.q 101 [] (.bin .eql (.t 99) (.t 100))) (.c (.q 102 [] (.mv (.t 101))) (.c (.q 103 [(102, false)] (.mv (.t 5))) (.c (.q 104 [(102, false)] (.not (.t 103))) (.c (.q 105 [] (.pick (.t 102) (.c (.bool true)) (.t 104))) .nil))))))))))) t82_6) t82_7)
def t82_8 := b82_8
theorem u82_8 : vcK P t82_8 k e w = vcK P b82_8 k e w := rfl
abbrev b82_9 : X := (.seq (.drw [0, 3, 4, 5] (.c (.q 79 [] (.mv (.t 0))) (.c (.q 80 [] (.nil (.t 79))) (.c (.q 81 [] (.fa 0 (.t 80))) (.c (.q 82 [] (.ld (.t 81))) (.c (.q 83 [] (.mv (.t 0))) (.c (.q 84 [] (.nil (.t 83))) (.c (.q 85 [] (.fa 1 (.t 84))) (.c (.q 86 [] (.ld (.t 85))) (.c (.q 87 [] (.mv (.t 3))) (.c (.q 88 [] (.mv (.t 0))) (.c (.q 89 [] (.nil (.t 88))) (.c (.q 90 [] (.fa 2 (.t 89))) (.c (.q 91 [] (.ld (.t 90))) (.c (.q 92 [] (.sub (.t 86) (some (.t 87)) (some (.t 91)))) (.c (.e (some 93) [] (.call false 15 [(.t 82), (.t 92)])) (.c (.q 78 [] (.mv (.t 93))) (.c (.q 94 [] (.ext 0 (.t 78))) (.c (.q 95 [] (.ext 1 (.t 78))) (.c (.q 4 [] (.mv (.t 94))) (.c (.q 5 [] (.mv (.t 95))) .nil))))))))))))))))))))) t82_8)
def t82_9 := b82_9
theorem u82_9 : vcK P t82_9 k e w = vcK P b82_9 k e w := rfl
abbrev b82_10 : X := (.seq (.blk 0 (.seq (.reg [0, 3, 51] (.c (.q 52 [] (.mv (.t 0))) (.c (.e (some 53) [] (.call false 83 [(.t 52)])) (.c (.q 51 [] (.mv (.t 53))) .nil)))) t82_5)) t82_9)
def t82_10 := b82_10
theorem u82_10 : vcK P t82_10 k e w = vcK P b82_10 k e w := rfl
abbrev b82_11 : X := (.seq (.reg [0, 3] (.c (.q 6 [] (.mv (.t 0))) (.c (.q 7 [] (.nil (.t 6))) (.c (.q 8 [] (.fa 2 (.t 7))) (.c (.q 9 [] (.ld (.t 8))) (.c (.q 3 [] (.mv (.t 9))) .nil)))))) t82_10)
def t82_11 := b82_11
theorem u82_11 : vcK P t82_11 k e w = vcK P b82_11 k e w := rfl
abbrev b82_0 : X := (.seq (.reg [0] (.c (.q 2 [] (.mv (.s []))) .nil)) t82_11)
def x_inotation_change := b82_0
theorem u82_0 : vcK P x_inotation_change k e w = vcK P b82_0 k e w := rfl
def r_inotation_change : List XO := [(.mv (.t 2))]
theorem c_inotation_change : convF Try.prog [38, 39, 41, 42, 49, 54, 55, 57, 58, 59, 79, 81, 84, 87, 139] Try.f82 [([0], []), ([0, 3], []), ([0, 3, 51], []), ([0, 3, 54], []), ([0, 3], []), ([], [0, 3]), ([0, 3, 43], []), ([0, 3], []), ([0, 3, 4, 5], []), ([0, 3, 4, 105], []), ([4], []), ([2], [])] = some (x_inotation_change, r_inotation_change) := by kernel_rfl
def us_inotation_change :=  (aI (aI (aI @u82_0 (aI @u82_1 @u82_2)) (aI @u82_3 (aI @u82_4 @u82_5))) (aI (aI @u82_6 (aI @u82_7 @u82_8)) (aI @u82_9 (aI @u82_10 @u82_11))))
abbrev b53_1 : X := (.cond (.t 9) .skip (.exit 0))
def t53_1 := b53_1
theorem u53_1 : vcK P t53_1 k e w = vcK P b53_1 k e w := rfl
abbrev b53_2 : X := (.cond (.t 23) (.exit 0) .skip)
def t53_2 := b53_2
theorem u53_2 : vcK P t53_2 k e w = vcK P b53_2 k e w := rfl
abbrev b53_3 : X := (.cond (.t 33) (.reg [0, 3] (.c (.q 34 [] (.mv (.t 0))) (.c (.q 35 [] (.nil (.t 34))) (.c (.q 36 [] (.fa 2 (.t 35))) (.c (.q 37 [] (.ld (.t 36))) (.c (.q 38 [] (.bin .add (.t 37) (.c (.int .i64 1)))) (.c (.q 39 [] (.nil (.t 34))) (.c (.q 40 [] (.fa 2 (.t 39))) (.c (.e none [] (.st 1 (.t 40) (.t 38))) .nil))))))))) .skip)
def t53_3 := b53_3
theorem u53_3 : vcK P t53_3 k e w = vcK P b53_3 k e w := rfl
abbrev b53_4 : X := (.seq (.drw [0, 3, 33] (.c (.q 24 [] (.mv (.t 0))) (.c (.q 25 [] (.nil (.t 24))) (.c (.q 26 [] (.fa 1 (.t 25))) (.c (.q 27 [] (.ld (.t 26))) (.c (.q 28 [] (.mv (.t 0))) (.c (.q 29 [] (.nil (.t 28))) (.c (.q 30 [] (.fa 2 (.t 29))) (.c (.q 31 [] (.ld (.t 30))) (.c (.q 32 [] (.idx (.t 27) (.t 31))) (.c (.q 33 [] (.bin .eql (.t 32) (.c (.int .u8 46)))) .nil))))))))))) t53_3)
def t53_4 := b53_4
theorem u53_4 : vcK P t53_4 k e w = vcK P b53_4 k e w := rfl
abbrev b53_5 : X := (.seq (.seq (.reg [0, 3, 23] (.c (.q 15 [] (.mv (.t 0))) (.c (.q 16 [] (.nil (.t 15))) (.c (.q 17 [] (.fa 3 (.t 16))) (.c (.q 18 [] (.ld (.t 17))) (.c (.q 19 [] (.bin .geq (.t 18) (.c (.int .i64 0)))) (.c (.q 20 [] (.mv (.t 19))) (.c (.q 21 [(20, false)] (.mv (.t 0))) (.c (.e (some 22) [(20, false)] (.call false 83 [(.t 21)])) (.c (.q 23 [] (.pick (.t 20) (.c (.bool true)) (.t 22))) .nil)))))))))) t53_2) t53_4)
def t53_5 := b53_5
theorem u53_5 : vcK P t53_5 k e w = vcK P b53_5 k e w := rfl
abbrev b53_6 : X := (.blk 1 (.seq (.reg [0, 3] (.c (.q 10 [] (.mv (.t 3))) (.c (.q 11 [] (.mv (.t 0))) (.c (.e (some 12) [] (.call false 82 [(.t 11)])) (.c (.e (some 13) [] (.bsl 9 1 [(.t 12)])) (.c (.e (some 14) [] (.app 24 9 1 16 [(S [])] 24 (.t 10) (.t 13))) (.c (.q 3 [] (.mv (.t 14))) .nil))))))) t53_5))
def t53_6 := b53_6
theorem u53_6 : vcK P t53_6 k e w = vcK P b53_6 k e w := rfl
abbrev b53_7 : X := (.seq (.seq (.reg [0, 3, 9] (.c (.q 5 [] (.mv (.t 0))) (.c (.q 6 [] (.nil (.t 5))) (.c (.q 7 [] (.fa 3 (.t 6))) (.c (.q 8 [] (.ld (.t 7))) (.c (.q 9 [] (.bin .lss (.t 8) (.c (.int .i64 0)))) .nil)))))) t53_1) t53_6)
def t53_7 := b53_7
theorem u53_7 : vcK P t53_7 k e w = vcK P b53_7 k e w := rfl
abbrev b53_8 : X := (.seq (.reg [2] (.c (.q 41 [] (.mv (.t 3))) (.c (.q 2 [] (.mv (.t 41))) .nil))) .ret)
def t53_8 := b53_8
theorem u53_8 : vcK P t53_8 k e w = vcK P b53_8 k e w := rfl
abbrev b53_9 : X := (.seq (.blk 0 (.loop [3] [0] t53_7)) t53_8)
def t53_9 := b53_9
theorem u53_9 : vcK P t53_9 k e w = vcK P b53_9 k e w := rfl
abbrev b53_10 : X := (.seq (.reg [0, 3] (.c (.e (some 4) [] (.bsl 9 1 [])) (.c (.q 3 [] (.mv (.t 4))) .nil))) t53_9)
def t53_10 := b53_10
theorem u53_10 : vcK P t53_10 k e w = vcK P b53_10 k e w := rfl
abbrev b53_0 : X := (.seq (.reg [0] (.c (.q 2 [] (.mv (.c (.slice none 0 0)))) .nil)) t53_10)
def x_inotation_block := b53_0
theorem u53_0 : vcK P x_inotation_block k e w = vcK P b53_0 k e w := rfl
def r_inotation_block : List XO := [(.mv (.t 2))]
theorem c_inotation_block : convF Try.prog [38, 39, 41, 42, 49, 54, 55, 57, 58, 59, 79, 81, 84, 87, 139] Try.f53 [([0], []), ([0, 3], []), ([3], [0]), ([0, 3, 9], []), ([0, 3], []), ([0, 3, 23], []), ([0, 3, 33], []), ([0, 3], []), ([2], [])] = some (x_inotation_block, r_inotation_block) := by kernel_rfl
def us_inotation_block :=  (aI (aI (aI @u53_0 @u53_1) (aI @u53_2 (aI @u53_3 @u53_4))) (aI (aI @u53_5 (aI @u53_6 @u53_7)) (aI @u53_8 (aI @u53_9 @u53_10))))
end

/-- A reader's cells. -/
def fN (n : Int) (s : Bs) (a bad : Int) : List Value := [.int .i64 n, S s, .int .i64 a, .int .i64 bad]
theorem fNg (n : Int) (s : Bs) (a bad : Int) : (∀ u, (fN n s a bad).getD 0 u = .int .i64 n) ∧ (∀ u, (fN n s a bad).getD 1 u = S s) ∧ (∀ u, (fN n s a bad).getD 2 u = .int .i64 a) ∧ (∀ u, (fN n s a bad).getD 3 u = .int .i64 bad) ∧ (fN n s a bad).length = 4 := ⟨fun _ => rfl, fun _ => rfl, fun _ => rfl, fun _ => rfl, rfl⟩
theorem gdr95 {w w' : World} {r : Option Nat} (h : w.grownBy w' r) : w.grownBy w'.drew r := ⟨h.os, h.tape, h.output, h.size, h.block⟩
theorem gud95 {w w' : World} {r : Option Nat} (h : w.drew.grownBy w' r) : w.grownBy w' r := ⟨h.os, h.tape, h.output, h.size, h.block⟩
theorem gtr95 {w w1 w2 : World} {r : Option Nat} (h : w.grownBy w1 r) (h2 : w1.grownBy w2 r) : w.grownBy w2 r := ⟨by rw [h2.os, h.os], by rw [h2.tape, h.tape], by rw [h2.output, h.output], Nat.le_trans h.size h2.size, fun i hi hne => by rw [h2.block i (by have := h.size; omega) hne, h.block i hi hne]⟩
/-- A block ends at a. -/
def IsEnd (s : Bs) (a : Nat) : Prop := s.length ≤ a ∨ (s.getD a 0).toNat = 44
instance (s : Bs) (a : Nat) : Decidable (IsEnd s a) := by unfold IsEnd; infer_instance
theorem end_nox {s : Bs} {a : Nat} (h : IsEnd s a) : wE s a = a := by
  rw [wE_d, digT_stop]
  · rintro ⟨h1, h2⟩
    rcases h with h | h <;> omega
  · rintro ⟨h1, h2⟩
    rcases h with h | h <;> omega
theorem inotation_ends_ok (n : Int) (s : Bs) (a : Nat) (bad : Int) (b : Nat) (ha : a ≤ s.length) (w : World) (hb : Blk w b (fN n s a bad) 75) : Fn 83 [.pointer (some ⟨b, 0, none⟩)] w (fun r _ => r = .bool (decide (IsEnd s a))) := by
  (refine callsV_of mix Try.func83 c_inotation_ends ?_; simp only [↓vsd, vsn, gW, qd, qv, ev, pick, argE, zipE, ne_eq, eq_self, forall_const, implies_true, if_true, if_false, reduceIte, reduceCtorEq, Nat.reduceEqDiff, Nat.reduceAdd, Nat.reduceLT, ↓us_inotation_ends, r_inotation_ends])
  simp only [↓vsd, vsn, gW, qd, qv, ev, pick, argE, zipE, ne_eq, eq_self, forall_const, implies_true, if_true, if_false, reduceIte, reduceCtorEq, Nat.reduceEqDiff, Nat.reduceAdd, Nat.reduceLT, ↓us_inotation_ends, r_inotation_ends, hb.facts, fNg]
  refine ⟨fun _ => by omega, Ext.refl _, ?_⟩
  rw [← Bool.decide_or]
  congr 1
  exact propext ⟨fun h => by rcases h with h | h; · exact .inl (by omega)
                             · exact .inr (by omega), fun h => by rcases h with h | h; · exact .inl (by omega)
                                                                  · exact .inr (by omega)⟩
theorem dr95 {w : World} {b : Nat} {cs : List Value} {T : TypeId} (h : Blk w b cs T) : Blk w.drew b cs T := h.same rfl
/-- What the reading of a change leaves. -/
def ChgOut (n : Nat) (s : Bs) (a b : Nat) (w : World) (r : Value) (w' : World) : Prop :=
  w.grownBy w' (some b) ∧ ((wE s a = a ∨ tidyL n ((s.take (wE s a)).drop a) = []) → ∃ x, r = S x ∧ Blk w' b (fN n s (wE s a : Nat) (a : Nat)) 75) ∧ (¬ (wE s a = a ∨ tidyL n ((s.take (wE s a)).drop a) = []) → r = S (tidyL n ((s.take (wE s a)).drop a)) ∧ Blk w' b (fN n s (wE s a : Nat) (-1)) 75)
theorem inotation_change_ok (n : Nat) (s : Bs) (a b : Nat) (hn : 3 ≤ n ∧ n ≤ 8) (hs : s.length ≤ 200) (ha : a ≤ s.length) (w : World) (hb : Blk w b (fN n s a (-1)) 75) : CallsV Try.prog 82 [.pointer (some ⟨b, 0, none⟩)] w (ChgOut n s a b w) := by
  (refine callsV_of mix Try.func82 c_inotation_change ?_; simp only [↓vsd, vsn, gW, qd, qv, ev, pick, argE, zipE, ne_eq, eq_self, forall_const, implies_true, if_true, if_false, reduceIte, reduceCtorEq, Nat.reduceEqDiff, Nat.reduceAdd, Nat.reduceLT, ↓us_inotation_change, r_inotation_change])
  simp only [↓vsd, vsn, gW, qd, qv, ev, pick, argE, zipE, ne_eq, eq_self, forall_const, implies_true, if_true, if_false, reduceIte, reduceCtorEq, Nat.reduceEqDiff, Nat.reduceAdd, Nat.reduceLT, ↓us_inotation_change, r_inotation_change, hb.facts, fNg]
  refine m_call (inotation_ends_ok n s a _ b ha _ hb) ?_
  rintro _ w1 hx1 rfl
  have hb1 := hb.ext hx1
  have hg1 : w.grownBy w1 (some b) := grown_ext _ hx1
  by_cases he : IsEnd s a
  · have hw : wE s a = a := end_nox he
    simp only [↓vsd, vsn, gW, qd, qv, ev, pick, argE, zipE, ne_eq, eq_self, forall_const, implies_true, if_true, if_false, reduceIte, reduceCtorEq, Nat.reduceEqDiff, Nat.reduceAdd, Nat.reduceLT, ↓us_inotation_change, r_inotation_change, he, hb1.facts, fNg]
    refine ⟨⟨by omega, by omega, by omega⟩, ?_⟩
    have hbz := dr95 hb1
    have hgz := gdr95 hg1
    have hsc : ((s.take a).drop a).length ≤ 1000 := by rw [List.length_drop, List.length_take]; omega
    refine m_call (iTidyChange_ok n _ hsc _) ?_
    rintro _ w8 hx8 rfl
    have hb8 := hbz.ext hx8
    have hg8 := gtr95 hgz (grown_ext _ hx8)
    obtain ⟨x, q, htv⟩ : ∃ x q, tdV n ((s.take a).drop a) = .tuple ⟨[S x, .bool q]⟩ := ⟨_, _, rfl⟩
    rw [htv]
    simp only [↓vsd, vsn, gW, qd, qv, ev, pick, argE, zipE, ne_eq, eq_self, forall_const, implies_true, if_true, if_false, reduceIte, reduceCtorEq, Nat.reduceEqDiff, Nat.reduceAdd, Nat.reduceLT, ↓us_inotation_change, r_inotation_change, hb8.facts, fNg]
    refine m_st hb8 rfl (by decide : 3 + 1 ≤ 4) (fI_one _) ?_
    rintro w9 hb9' hu9
    have hb9 : Blk w9 b (fN n s (a : Nat) (a : Nat)) 75 := hb9'
    simp only [↓vsd, vsn, gW, qd, qv, ev, pick, argE, zipE, ne_eq, eq_self, forall_const, implies_true, if_true, if_false, reduceIte, reduceCtorEq, Nat.reduceEqDiff, Nat.reduceAdd, Nat.reduceLT, ↓us_inotation_change, r_inotation_change]
    exact ⟨gtr95 hg8 hu9.grown, fun _ => ⟨_, rfl, by rw [hw]; exact hb9⟩, fun hh => absurd (by rw [hw]; first | exact .inl rfl | exact .inl hae | exact .inr htd) hh⟩
  · have haI : a < s.length := by
      rcases Nat.lt_or_ge a s.length with h | h
      · exact h
      · exact absurd (.inl h) he
    simp only [↓vsd, vsn, gW, qd, qv, ev, pick, argE, zipE, ne_eq, eq_self, forall_const, implies_true, if_true, if_false, reduceIte, reduceCtorEq, Nat.reduceEqDiff, Nat.reduceAdd, Nat.reduceLT, ↓us_inotation_change, r_inotation_change, he, hb1.facts, fNg]
    refine ⟨by omega, fun _ => by omega, fun hxx => ⟨inR_i64 (by omega), m_st hb1 rfl (by decide : 2 + 1 ≤ 4) (fI_one _) ?_⟩, fun hxx => ?_⟩
    · rintro w2 hb2' hu2
      have hb2 : Blk w2 b (fN n s (a + 1 : Nat) (-1)) 75 := hb2'
      have hg2 := gtr95 hg1 hu2.grown
      have hw : wE s a = a + 1 := wE_x ⟨haI, by omega⟩
      have hle1 : a ≤ a + 1 ∧ a + 1 ≤ s.length := by omega
      generalize a + 1 = e at *
      simp only [↓vsd, vsn, gW, qd, qv, ev, pick, argE, zipE, ne_eq, eq_self, forall_const, implies_true, if_true, if_false, reduceIte, reduceCtorEq, Nat.reduceEqDiff, Nat.reduceAdd, Nat.reduceLT, ↓us_inotation_change, r_inotation_change, hb2.facts, fNg]
      refine ⟨⟨by omega, by omega, by omega⟩, ?_⟩
      have hbz := dr95 hb2
      have hgz := gdr95 hg2
      have hsc : ((s.take (e)).drop a).length ≤ 1000 := by rw [List.length_drop, List.length_take]; omega
      refine m_call (iTidyChange_ok n _ hsc _) ?_
      rintro _ w8 hx8 rfl
      have hb8 := hbz.ext hx8
      have hg8 := gtr95 hgz (grown_ext _ hx8)
      by_cases htd : tidyL n ((s.take (e)).drop a) = []
      · rw [tdV_no (n := (n : Int)) (fun hh => hh.2 htd)]
        simp only [↓vsd, vsn, gW, qd, qv, ev, pick, argE, zipE, ne_eq, eq_self, forall_const, implies_true, if_true, if_false, reduceIte, reduceCtorEq, Nat.reduceEqDiff, Nat.reduceAdd, Nat.reduceLT, ↓us_inotation_change, r_inotation_change, hb8.facts, fNg]
        refine m_st hb8 rfl (by decide : 3 + 1 ≤ 4) (fI_one _) ?_
        rintro w9 hb9' hu9
        have hb9 : Blk w9 b (fN n s (e : Nat) (a : Nat)) 75 := hb9'
        simp only [↓vsd, vsn, gW, qd, qv, ev, pick, argE, zipE, ne_eq, eq_self, forall_const, implies_true, if_true, if_false, reduceIte, reduceCtorEq, Nat.reduceEqDiff, Nat.reduceAdd, Nat.reduceLT, ↓us_inotation_change, r_inotation_change]
        exact ⟨gtr95 hg8 hu9.grown, fun _ => ⟨_, rfl, by rw [hw]; exact hb9⟩, fun hh => absurd (by rw [hw]; first | exact .inl rfl | exact .inl hae | exact .inr htd) hh⟩
      · rw [tdV_yes (by omega) htd rfl]
        by_cases hae : e = a
        · have haeI : ((e : Nat) : Int) = a := by omega
          simp only [↓vsd, vsn, gW, qd, qv, ev, pick, argE, zipE, ne_eq, eq_self, forall_const, implies_true, if_true, if_false, reduceIte, reduceCtorEq, Nat.reduceEqDiff, Nat.reduceAdd, Nat.reduceLT, ↓us_inotation_change, r_inotation_change, hb8.facts, fNg, haeI]
          refine m_st hb8 rfl (by decide : 3 + 1 ≤ 4) (fI_one _) ?_
          rintro w9 hb9' hu9
          have hb9 : Blk w9 b (fN n s (e : Nat) (a : Nat)) 75 := hb9'
          simp only [↓vsd, vsn, gW, qd, qv, ev, pick, argE, zipE, ne_eq, eq_self, forall_const, implies_true, if_true, if_false, reduceIte, reduceCtorEq, Nat.reduceEqDiff, Nat.reduceAdd, Nat.reduceLT, ↓us_inotation_change, r_inotation_change]
          exact ⟨gtr95 hg8 hu9.grown, fun _ => ⟨_, rfl, by rw [hw]; exact hb9⟩, fun hh => absurd (by rw [hw]; first | exact .inl rfl | exact .inl hae | exact .inr htd) hh⟩
        · have haeI : ¬ ((e : Nat) : Int) = a := by omega
          simp only [↓vsd, vsn, gW, qd, qv, ev, pick, argE, zipE, ne_eq, eq_self, forall_const, implies_true, if_true, if_false, reduceIte, reduceCtorEq, Nat.reduceEqDiff, Nat.reduceAdd, Nat.reduceLT, ↓us_inotation_change, r_inotation_change, hb8.facts, fNg, haeI]
          refine ⟨hg8, fun hh => ?_, fun _ => ⟨by rw [hw], by rw [hw]; exact hb8⟩⟩
          rw [hw] at hh
          exact absurd hh (fun h => h.elim hae htd)
    · have hw : wE s a = digT s a := wE_d fun hh => by have := hh.2; omega
      refine m_loop (fun m vs w' => ∃ e : Nat, m = s.length - e ∧ vs = [] ∧ a ≤ e ∧ e ≤ s.length ∧ digT s e = digT s a ∧ Blk w' b (fN n s e (-1)) 75 ∧ w.grownBy w' (some b)) (s.length - a) ⟨a, rfl, rfl, by omega, by omega, rfl, hb1, hg1⟩ ?_
      rintro m vs w2 ⟨e, rfl, rfl, hae, hes, hd, hb2, hg2⟩
      by_cases hle : e < s.length
      · have hleI : (e : Int) < s.length := by omega
        have hleJ : ¬ (s.length : Int) ≤ e := by omega
        simp only [↓vsd, vsn, gW, qd, qv, ev, pick, argE, zipE, ne_eq, eq_self, forall_const, implies_true, if_true, if_false, reduceIte, reduceCtorEq, Nat.reduceEqDiff, Nat.reduceAdd, Nat.reduceLT, ↓us_inotation_change, r_inotation_change, hleI, hleJ, hb2.facts, fNg]
        refine ⟨by omega, fun _ => by omega, fun hdg => ⟨inR_i64 (by omega), m_st (dr95 hb2) rfl (by decide : 2 + 1 ≤ 4) (fI_one _) ?_⟩, fun hdg => ⟨⟨by omega, by omega, by omega⟩, ?_⟩⟩
        · rintro w3 hb3' hu3
          have hb3 : Blk w3 b (fN n s (e + 1 : Nat) (-1)) 75 := hb3'
          have hdg' : IsDg s e := ⟨hle, by omega, by omega⟩
          simp only [↓vsd, vsn, gW, qd, qv, ev, pick, argE, zipE, ne_eq, eq_self, forall_const, implies_true, if_true, if_false, reduceIte, reduceCtorEq, Nat.reduceEqDiff, Nat.reduceAdd, Nat.reduceLT, ↓us_inotation_change, r_inotation_change]
          exact ⟨s.length - (e + 1), by omega, e + 1, rfl, by omega, by omega, by rw [← digT_step hdg']; exact hd, hb3, gtr95 (gdr95 hg2) hu3.grown⟩
        · have hw2 : wE s a = e := by rw [hw, ← hd]; exact digT_stop fun hh => hdg ⟨by have := hh.2; omega, by have := hh.2; omega⟩
          have hw := hw2
          have hbz := dr95 (dr95 hb2)
          have hgz := gdr95 (gdr95 hg2)
          have hsc : ((s.take (e)).drop a).length ≤ 1000 := by rw [List.length_drop, List.length_take]; omega
          refine m_call (iTidyChange_ok n _ hsc _) ?_
          rintro _ w8 hx8 rfl
          have hb8 := hbz.ext hx8
          have hg8 := gtr95 hgz (grown_ext _ hx8)
          by_cases htd : tidyL n ((s.take (e)).drop a) = []
          · rw [tdV_no (n := (n : Int)) (fun hh => hh.2 htd)]
            simp only [↓vsd, vsn, gW, qd, qv, ev, pick, argE, zipE, ne_eq, eq_self, forall_const, implies_true, if_true, if_false, reduceIte, reduceCtorEq, Nat.reduceEqDiff, Nat.reduceAdd, Nat.reduceLT, ↓us_inotation_change, r_inotation_change, hb8.facts, fNg]
            refine m_st hb8 rfl (by decide : 3 + 1 ≤ 4) (fI_one _) ?_
            rintro w9 hb9' hu9
            have hb9 : Blk w9 b (fN n s (e : Nat) (a : Nat)) 75 := hb9'
            simp only [↓vsd, vsn, gW, qd, qv, ev, pick, argE, zipE, ne_eq, eq_self, forall_const, implies_true, if_true, if_false, reduceIte, reduceCtorEq, Nat.reduceEqDiff, Nat.reduceAdd, Nat.reduceLT, ↓us_inotation_change, r_inotation_change]
            exact ⟨gtr95 hg8 hu9.grown, fun _ => ⟨_, rfl, by rw [hw]; exact hb9⟩, fun hh => absurd (by rw [hw]; first | exact .inl rfl | exact .inl hae | exact .inr htd) hh⟩
          · rw [tdV_yes (by omega) htd rfl]
            by_cases hae : e = a
            · have haeI : ((e : Nat) : Int) = a := by omega
              simp only [↓vsd, vsn, gW, qd, qv, ev, pick, argE, zipE, ne_eq, eq_self, forall_const, implies_true, if_true, if_false, reduceIte, reduceCtorEq, Nat.reduceEqDiff, Nat.reduceAdd, Nat.reduceLT, ↓us_inotation_change, r_inotation_change, hb8.facts, fNg, haeI]
              refine m_st hb8 rfl (by decide : 3 + 1 ≤ 4) (fI_one _) ?_
              rintro w9 hb9' hu9
              have hb9 : Blk w9 b (fN n s (e : Nat) (a : Nat)) 75 := hb9'
              simp only [↓vsd, vsn, gW, qd, qv, ev, pick, argE, zipE, ne_eq, eq_self, forall_const, implies_true, if_true, if_false, reduceIte, reduceCtorEq, Nat.reduceEqDiff, Nat.reduceAdd, Nat.reduceLT, ↓us_inotation_change, r_inotation_change]
              exact ⟨gtr95 hg8 hu9.grown, fun _ => ⟨_, rfl, by rw [hw]; exact hb9⟩, fun hh => absurd (by rw [hw]; first | exact .inl rfl | exact .inl hae | exact .inr htd) hh⟩
            · have haeI : ¬ ((e : Nat) : Int) = a := by omega
              simp only [↓vsd, vsn, gW, qd, qv, ev, pick, argE, zipE, ne_eq, eq_self, forall_const, implies_true, if_true, if_false, reduceIte, reduceCtorEq, Nat.reduceEqDiff, Nat.reduceAdd, Nat.reduceLT, ↓us_inotation_change, r_inotation_change, hb8.facts, fNg, haeI]
              refine ⟨hg8, fun hh => ?_, fun _ => ⟨by rw [hw], by rw [hw]; exact hb8⟩⟩
              rw [hw] at hh
              exact absurd hh (fun h => h.elim hae htd)
      · have hleI : ¬ (e : Int) < s.length := by omega
        have hleJ : (s.length : Int) ≤ e := by omega
        simp only [↓vsd, vsn, gW, qd, qv, ev, pick, argE, zipE, ne_eq, eq_self, forall_const, implies_true, if_true, if_false, reduceIte, reduceCtorEq, Nat.reduceEqDiff, Nat.reduceAdd, Nat.reduceLT, ↓us_inotation_change, r_inotation_change, hleI, hleJ, hb2.facts, fNg]
        refine ⟨⟨by omega, by omega, by omega⟩, ?_⟩
        have hw2 : wE s a = e := by rw [hw, ← hd]; exact digT_stop fun hh => hle hh.1
        have hw := hw2
        have hbz := dr95 (dr95 hb2)
        have hgz := gdr95 (gdr95 hg2)
        have hsc : ((s.take (e)).drop a).length ≤ 1000 := by rw [List.length_drop, List.length_take]; omega
        refine m_call (iTidyChange_ok n _ hsc _) ?_
        rintro _ w8 hx8 rfl
        have hb8 := hbz.ext hx8
        have hg8 := gtr95 hgz (grown_ext _ hx8)
        by_cases htd : tidyL n ((s.take (e)).drop a) = []
        · rw [tdV_no (n := (n : Int)) (fun hh => hh.2 htd)]
          simp only [↓vsd, vsn, gW, qd, qv, ev, pick, argE, zipE, ne_eq, eq_self, forall_const, implies_true, if_true, if_false, reduceIte, reduceCtorEq, Nat.reduceEqDiff, Nat.reduceAdd, Nat.reduceLT, ↓us_inotation_change, r_inotation_change, hb8.facts, fNg]
          refine m_st hb8 rfl (by decide : 3 + 1 ≤ 4) (fI_one _) ?_
          rintro w9 hb9' hu9
          have hb9 : Blk w9 b (fN n s (e : Nat) (a : Nat)) 75 := hb9'
          simp only [↓vsd, vsn, gW, qd, qv, ev, pick, argE, zipE, ne_eq, eq_self, forall_const, implies_true, if_true, if_false, reduceIte, reduceCtorEq, Nat.reduceEqDiff, Nat.reduceAdd, Nat.reduceLT, ↓us_inotation_change, r_inotation_change]
          exact ⟨gtr95 hg8 hu9.grown, fun _ => ⟨_, rfl, by rw [hw]; exact hb9⟩, fun hh => absurd (by rw [hw]; first | exact .inl rfl | exact .inl hae | exact .inr htd) hh⟩
        · rw [tdV_yes (by omega) htd rfl]
          by_cases hae : e = a
          · have haeI : ((e : Nat) : Int) = a := by omega
            simp only [↓vsd, vsn, gW, qd, qv, ev, pick, argE, zipE, ne_eq, eq_self, forall_const, implies_true, if_true, if_false, reduceIte, reduceCtorEq, Nat.reduceEqDiff, Nat.reduceAdd, Nat.reduceLT, ↓us_inotation_change, r_inotation_change, hb8.facts, fNg, haeI]
            refine m_st hb8 rfl (by decide : 3 + 1 ≤ 4) (fI_one _) ?_
            rintro w9 hb9' hu9
            have hb9 : Blk w9 b (fN n s (e : Nat) (a : Nat)) 75 := hb9'
            simp only [↓vsd, vsn, gW, qd, qv, ev, pick, argE, zipE, ne_eq, eq_self, forall_const, implies_true, if_true, if_false, reduceIte, reduceCtorEq, Nat.reduceEqDiff, Nat.reduceAdd, Nat.reduceLT, ↓us_inotation_change, r_inotation_change]
            exact ⟨gtr95 hg8 hu9.grown, fun _ => ⟨_, rfl, by rw [hw]; exact hb9⟩, fun hh => absurd (by rw [hw]; first | exact .inl rfl | exact .inl hae | exact .inr htd) hh⟩
          · have haeI : ¬ ((e : Nat) : Int) = a := by omega
            simp only [↓vsd, vsn, gW, qd, qv, ev, pick, argE, zipE, ne_eq, eq_self, forall_const, implies_true, if_true, if_false, reduceIte, reduceCtorEq, Nat.reduceEqDiff, Nat.reduceAdd, Nat.reduceLT, ↓us_inotation_change, r_inotation_change, hb8.facts, fNg, haeI]
            refine ⟨hg8, fun hh => ?_, fun _ => ⟨by rw [hw], by rw [hw]; exact hb8⟩⟩
            rw [hw] at hh
            exact absurd hh (fun h => h.elim hae htd)
theorem gapp95 {w w1 w2 : World} {b : Nat} {r : Option Nat} (h : w.grownBy w1 (some b)) (h2 : w1.grownBy w2 r) (hr : ∀ c, r = some c → w.heap.size ≤ c) : w.grownBy w2 (some b) :=
  ⟨by rw [h2.os, h.os], by rw [h2.tape, h.tape], by rw [h2.output, h.output], Nat.le_trans h.size h2.size, fun i hi hne => by rw [h2.block i (by have := h.size; omega) (fun e => by have := hr i e.symm; omega), h.block i hi hne]⟩
/-- What the reading of a block leaves. -/
def BkOut (n : Nat) (s : Bs) (b : Nat) (w : World) (R : Sum Nat (List Bs × Nat)) (r : Value) (w' : World) : Prop :=
  w.grownBy w' (some b) ∧ (∀ p, R = .inl p → ∃ (x : Nat) (l : List Bs), x ≤ s.length ∧ l.length ≤ 1000 ∧ Own fS 1 9 w.heap.size w' r l ∧ Blk w' b (fN n s x p) 75) ∧ (∀ l e, R = .inr (l, e) → Own fS 1 9 w.heap.size w' r l ∧ Blk w' b (fN n s (e : Nat) (-1)) 75)
theorem inotation_block_ok (n : Nat) (s : Bs) (a b : Nat) (hn : 3 ≤ n ∧ n ≤ 8) (hs : s.length ≤ 200) (ha : a ≤ s.length) (w : World) (hb : Blk w b (fN n s a (-1)) 75) : CallsV Try.prog 53 [.pointer (some ⟨b, 0, none⟩)] w (BkOut n s b w (blkN n s (s.length + 1) a [])) := by
  (refine callsV_of mix Try.func53 c_inotation_block ?_; simp only [↓vsd, vsn, gW, qd, qv, ev, pick, argE, zipE, ne_eq, eq_self, forall_const, implies_true, if_true, if_false, reduceIte, reduceCtorEq, Nat.reduceEqDiff, Nat.reduceAdd, Nat.reduceLT, ↓us_inotation_block, r_inotation_block])
  refine m_bsl (by simp) ?_
  rintro b1 w1 hb1e hblk1 hx1 hs1
  have hbw := hb.lt
  simp only [↓vsd, vsn, gW, qd, qv, ev, pick, argE, zipE, ne_eq, eq_self, forall_const, implies_true, if_true, if_false, reduceIte, reduceCtorEq, Nat.reduceEqDiff, Nat.reduceAdd, Nat.reduceLT, ↓us_inotation_block, r_inotation_block]
  refine m_loop (fun m vs w' => ∃ (q : Nat) (acc : List Bs) (x : Value), s.length < m + q ∧ a ≤ q ∧ q ≤ s.length ∧ acc.length ≤ q ∧ vs = [x] ∧ Own fS 1 9 w.heap.size w' x acc ∧ Blk w' b (fN n s q (-1)) 75 ∧ w.grownBy w' (some b) ∧ blkN n s m q acc = blkN n s (s.length + 1) a []) (s.length + 1) ⟨a, [], _, by omega, by omega, ha, by simp, rfl, Own.empty fS_len hblk1 (by omega), hb.ext hx1, grown_ext _ hx1, rfl⟩ ?_
  rintro m vs w2 ⟨q, acc, x, hm, haq, hqs, hal, rfl, ho2, hb2, hg2, hR⟩
  obtain ⟨m, rfl⟩ : ∃ g, m = g + 1 := ⟨m - 1, by omega⟩
  simp only [↓vsd, vsn, gW, qd, qv, ev, pick, argE, zipE, ne_eq, eq_self, forall_const, implies_true, if_true, if_false, reduceIte, reduceCtorEq, Nat.reduceEqDiff, Nat.reduceAdd, Nat.reduceLT, ↓us_inotation_block, r_inotation_block, hb2.facts, fNg]
  refine ⟨fun _ => ?_, fun hh => absurd hh (by decide)⟩
  refine m_callw (.inl rfl) (inotation_change_ok n s q b hn hs hqs _ hb2) ?_
  rintro r w3 ⟨hg3, hbad, hgood⟩
  have ho3 := ho2.keep hg3 (fun c hc => by cases hc; exact hbw)
  have hg13 := gtr95 hg2 hg3
  rw [blkN] at hR
  by_cases hc : wE s q = q ∨ tidyL n ((s.take (wE s q)).drop q) = []
  · rw [if_pos hc] at hR
    obtain ⟨u, rfl, hb3⟩ := hbad hc
    have hw2 := (wE_le s q).2 hqs
    have hI : (0 : Int) ≤ (q : Nat) := by omega
    have hJ : ¬ ((q : Nat) : Int) < 0 := by omega
    simp only [↓vsd, vsn, gW, qd, qv, ev, pick, argE, zipE, ne_eq, eq_self, forall_const, implies_true, if_true, if_false, reduceIte, reduceCtorEq, Nat.reduceEqDiff, Nat.reduceAdd, Nat.reduceLT, ↓us_inotation_block, r_inotation_block]
    refine m_bsl (one_el rfl) ?_
    rintro b4 w4 hb4e hblk4 hx4 hs4
    simp only [↓vsd, vsn, gW, qd, qv, ev, pick, argE, zipE, ne_eq, eq_self, forall_const, implies_true, if_true, if_false, reduceIte, reduceCtorEq, Nat.reduceEqDiff, Nat.reduceAdd, Nat.reduceLT, ↓us_inotation_block, r_inotation_block]
    have hsz := hg13.size
    have hb4 := hb3.ext hx4
    refine m_app (ho3.ext hx4) (Sq.one fS_len hblk4 rfl) fS_one (by decide) (by simp; omega) (by decide) (by have := hx4.size; omega) ?_
    rintro x5 w5 ho5 hg5
    have hob : ∀ c, x.ownBlock = some c → w.heap.size ≤ c := fun c hc => (ho3.bound c hc).1
    have hb5 := hb4.same (hg5.block b hb4.lt (fun e => by have := hob b e.symm; omega))
    have hg15 := gapp95 (gtr95 hg13 (grown_ext _ hx4)) hg5 hob
    simp only [↓vsd, vsn, gW, qd, qv, ev, pick, argE, zipE, ne_eq, eq_self, forall_const, implies_true, if_true, if_false, reduceIte, reduceCtorEq, Nat.reduceEqDiff, Nat.reduceAdd, Nat.reduceLT, ↓us_inotation_block, r_inotation_block, hb5.facts, fNg, hI, hJ]
    refine ⟨hg15, fun p hp => ?_, fun l e hp => ?_⟩
    · rw [← hR] at hp; cases hp
      exact ⟨_, _, hw2, by rw [List.length_append, List.length_singleton]; omega, ho5, hb5⟩
    · rw [← hR] at hp; cases hp
  · rw [if_neg hc] at hR
    obtain ⟨rfl, hb3⟩ := hgood hc
    have hw2 := (wE_le s q).2 hqs
    have hw1 := (wE_le s q).1
    have hI : (-1 : Int) < 0 := by decide
    have hJ : ¬ (0 : Int) ≤ -1 := by decide
    have hne : wE s q ≠ q := fun hh => hc (.inl hh)
    simp only [↓vsd, vsn, gW, qd, qv, ev, pick, argE, zipE, ne_eq, eq_self, forall_const, implies_true, if_true, if_false, reduceIte, reduceCtorEq, Nat.reduceEqDiff, Nat.reduceAdd, Nat.reduceLT, ↓us_inotation_block, r_inotation_block]
    refine m_bsl (one_el rfl) ?_
    rintro b4 w4 hb4e hblk4 hx4 hs4
    simp only [↓vsd, vsn, gW, qd, qv, ev, pick, argE, zipE, ne_eq, eq_self, forall_const, implies_true, if_true, if_false, reduceIte, reduceCtorEq, Nat.reduceEqDiff, Nat.reduceAdd, Nat.reduceLT, ↓us_inotation_block, r_inotation_block]
    have hsz := hg13.size
    have hb4 := hb3.ext hx4
    refine m_app (ho3.ext hx4) (Sq.one fS_len hblk4 rfl) fS_one (by decide) (by simp; omega) (by decide) (by have := hx4.size; omega) ?_
    rintro x5 w5 ho5 hg5
    have hob : ∀ c, x.ownBlock = some c → w.heap.size ≤ c := fun c hc => (ho3.bound c hc).1
    have hb5 := hb4.same (hg5.block b hb4.lt (fun e => by have := hob b e.symm; omega))
    have hg15 := gapp95 (gtr95 hg13 (grown_ext _ hx4)) hg5 hob
    simp only [↓vsd, vsn, gW, qd, qv, ev, pick, argE, zipE, ne_eq, eq_self, forall_const, implies_true, if_true, if_false, reduceIte, reduceCtorEq, Nat.reduceEqDiff, Nat.reduceAdd, Nat.reduceLT, ↓us_inotation_block, r_inotation_block, hb5.facts, fNg, hI, hJ]
    refine m_call (inotation_ends_ok n s (wE s q) _ b hw2 _ hb5) ?_
    rintro _ w6 hx6 rfl
    have hb6 := hb5.ext hx6
    have ho6 := ho5.ext hx6
    have hg16 := gtr95 hg15 (grown_ext _ hx6)
    by_cases hend : IsEnd s (wE s q)
    · rw [if_pos (show s.length ≤ wE s q ∨ (s.getD (wE s q) 0).toNat = 44 from hend)] at hR
      simp only [↓vsd, vsn, gW, qd, qv, ev, pick, argE, zipE, ne_eq, eq_self, forall_const, implies_true, if_true, if_false, reduceIte, reduceCtorEq, Nat.reduceEqDiff, Nat.reduceAdd, Nat.reduceLT, ↓us_inotation_block, r_inotation_block, hend]
      refine ⟨hg16, fun p hp => ?_, fun l e hp => ?_⟩
      · rw [← hR] at hp; cases hp
      · rw [← hR] at hp; cases hp
        exact ⟨ho6, hb6⟩
    · rw [if_neg (show ¬ (s.length ≤ wE s q ∨ (s.getD (wE s q) 0).toNat = 44) from hend)] at hR
      have hlt : wE s q < s.length := by
        rcases Nat.lt_or_ge (wE s q) s.length with h | h
        · exact h
        · exact absurd (.inl h) hend
      simp only [↓vsd, vsn, gW, qd, qv, ev, pick, argE, zipE, ne_eq, eq_self, forall_const, implies_true, if_true, if_false, reduceIte, reduceCtorEq, Nat.reduceEqDiff, Nat.reduceAdd, Nat.reduceLT, ↓us_inotation_block, r_inotation_block, hend, hb6.facts, fNg]
      refine ⟨⟨by omega, by omega⟩, fun hd => ⟨inR_i64 (by omega), m_st (dr95 hb6) rfl (by decide : 2 + 1 ≤ 4) (fI_one _) ?_⟩, fun hd => ?_⟩
      · rintro w7 hb7' hu7
        have hb7 : Blk w7 b (fN n s (wE s q + 1 : Nat) (-1)) 75 := hb7'
        rw [if_pos (by omega)] at hR
        have hob5 := (Own.bound ho6)
        have ho7 : Own fS 1 9 w.heap.size w7 x5 (acc ++ [tidyL n ((s.take (wE s q)).drop q)]) := ho6.keep (gud95 hu7.grown) (fun c hc => by cases hc; exact hbw)
        simp only [↓vsd, vsn, gW, qd, qv, ev, pick, argE, zipE, ne_eq, eq_self, forall_const, implies_true, if_true, if_false, reduceIte, reduceCtorEq, Nat.reduceEqDiff, Nat.reduceAdd, Nat.reduceLT, ↓us_inotation_block, r_inotation_block]
        exact ⟨m, by omega, wE s q + 1, _, x5, by omega, by omega, by omega, by rw [List.length_append, List.length_singleton]; omega, rfl, ho7, hb7, gtr95 (gdr95 hg16) hu7.grown, hR⟩
      · rw [if_neg (by omega)] at hR
        exact ⟨m, by omega, wE s q, _, x5, by omega, by omega, by omega, by rw [List.length_append, List.length_singleton]; omega, rfl, ho6.ext (dr (Ext.refl _)), hb6, gdr95 hg16, hR⟩
end Go.Proofs.Ytfklonhjgkahdaa
