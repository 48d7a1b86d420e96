/-
  Draws of texts of place notation.
  Conditions: none.
-/
import Derived.Test.YtfklonhjgkahdaaD56
set_option linter.unusedSimpArgs false
set_option linter.unusedVariables false
set_option linter.defProp false
namespace Go.Proofs.Ytfklonhjgkahdaa
open Go Go.RowKit
section
variable (P : Program) (k : KT) (e : Env) (w : World)
abbrev b27_1 : X := (.cond (.t 27) .skip (.exit 0))
def t27_1 := b27_1
theorem u27_1 : vcK P t27_1 k e w = vcK P b27_1 k e w := rfl
abbrev b27_2 : X := (.blk 1 (.reg [4, 5, 7] (.c (.q 28 [] (.mv (.t 7))) (.c (.q 29 [] (.bin .add (.t 28) (.s [46, 49, 52]))) (.c (.q 7 [] (.mv (.t 29))) .nil)))))
def t27_2 := b27_2
theorem u27_2 : vcK P t27_2 k e w = vcK P b27_2 k e w := rfl
abbrev b27_3 : X := (.seq (.seq (.reg [4, 5, 7, 27] (.c (.q 25 [] (.mv (.t 7))) (.c (.q 26 [] (.len (.t 25))) (.c (.q 27 [] (.bin .lss (.t 26) (.c (.int .i64 198)))) .nil)))) t27_1) t27_2)
def t27_3 := b27_3
theorem u27_3 : vcK P t27_3 k e w = vcK P b27_3 k e w := rfl
abbrev b27_4 : X := (.cond (.t 31) (.reg [5, 7] (.c (.q 32 [] (.mv (.t 7))) (.c (.q 33 [] (.bin .add (.t 32) (.s [45]))) (.c (.q 7 [] (.mv (.t 33))) .nil)))) .skip)
def t27_4 := b27_4
theorem u27_4 : vcK P t27_4 k e w = vcK P b27_4 k e w := rfl
abbrev b27_5 : X := (.seq (.reg [2, 3] (.c (.q 34 [] (.mv (.t 5))) (.c (.q 35 [] (.mv (.t 7))) (.c (.q 2 [] (.mv (.t 34))) (.c (.q 3 [] (.mv (.t 35))) .nil))))) .ret)
def t27_5 := b27_5
theorem u27_5 : vcK P t27_5 k e w = vcK P b27_5 k e w := rfl
abbrev b27_6 : X := (.seq (.seq (.reg [5, 7, 31] (.c (.q 30 [] (.mv (.t 4))) (.c (.e (some 31) [] (.call true 38 [(.t 30), (.c (.int .i64 2))])) .nil))) t27_4) t27_5)
def t27_6 := b27_6
theorem u27_6 : vcK P t27_6 k e w = vcK P b27_6 k e w := rfl
abbrev b27_7 : X := (.seq (.blk 0 (.loop [7] [4, 5] t27_3)) t27_6)
def t27_7 := b27_7
theorem u27_7 : vcK P t27_7 k e w = vcK P b27_7 k e w := rfl
abbrev b27_8 : X := (.cond (.t 24) (.seq (.reg [4, 5, 7] (.c (.q 7 [] (.mv (.s [49, 52]))) .nil)) t27_7) .skip)
def t27_8 := b27_8
theorem u27_8 : vcK P t27_8 k e w = vcK P b27_8 k e w := rfl
abbrev b27_9 : X := (.cond (.t 43) (.reg [5, 7] (.c (.q 45 [] (.mv (.t 4))) (.c (.e (some 46) [] (.bsl 9 1 [(.s []), (.s [45]), (.s [120, 49, 52, 120, 49, 52, 44, 49, 50]), (.s [45, 46, 49, 52, 46, 45, 44, 50]), (.s [49, 52, 46]), (.s [46, 49, 52]), (.s [49, 52, 44, 44, 49, 50]), (.s [49, 44, 50, 44, 51, 44, 52, 44, 53]), (.s [45, 49, 52, 45, 49, 52, 45, 49, 52, 45, 49, 52, 45, 49, 52, 45, 49, 52, 45, 49, 52, 45, 49, 52, 45, 49, 52, 45, 49, 52, 45, 49, 52, 45, 49, 52, 45, 49, 52, 45, 49, 52, 45, 49, 52, 45, 49, 52, 45, 49, 52, 45, 49, 52, 45, 49, 52, 45, 49, 52, 45, 49, 52]), (.s [49, 46, 52])])) (.c (.e (some 47) [] (.call true 42 [(.t 45), (.t 46)])) (.c (.q 7 [] (.mv (.t 47))) .nil))))) .skip)
def t27_9 := b27_9
theorem u27_9 : vcK P t27_9 k e w = vcK P b27_9 k e w := rfl
abbrev b27_10 : X := (.cond (.t 38) (.reg [5, 7] (.c (.q 40 [] (.mv (.t 4))) (.c (.q 41 [] (.mv (.t 7))) (.c (.e (some 42) [] (.call true 55 [(.t 40), (.t 41), (.s [45, 120, 46, 44, 49, 52])])) (.c (.q 7 [] (.mv (.t 42))) .nil))))) (.seq (.reg [4, 5, 7, 43] (.c (.q 44 [] (.bin .eql (.t 37) (.c (.int .i64 1)))) (.c (.q 43 [] (.mv (.t 44))) .nil))) t27_9))
def t27_10 := b27_10
theorem u27_10 : vcK P t27_10 k e w = vcK P b27_10 k e w := rfl
abbrev b27_11 : X := (.blk 2 (.seq (.reg [4, 5, 7, 37, 38] (.c (.q 39 [] (.bin .eql (.t 37) (.c (.int .i64 0)))) (.c (.q 38 [] (.mv (.t 39))) .nil))) t27_10))
def t27_11 := b27_11
theorem u27_11 : vcK P t27_11 k e w = vcK P b27_11 k e w := rfl
abbrev b27_12 : X := (.seq (.reg [2, 3] (.c (.q 48 [] (.mv (.t 5))) (.c (.q 49 [] (.mv (.t 7))) (.c (.q 2 [] (.mv (.t 48))) (.c (.q 3 [] (.mv (.t 49))) .nil))))) .ret)
def t27_12 := b27_12
theorem u27_12 : vcK P t27_12 k e w = vcK P b27_12 k e w := rfl
abbrev b27_13 : X := (.seq (.seq (.reg [4, 5, 7, 37] (.c (.q 36 [] (.mv (.t 4))) (.c (.e (some 37) [] (.call true 39 [(.t 36), (.c (.int .i64 6))])) .nil))) t27_11) t27_12)
def t27_13 := b27_13
theorem u27_13 : vcK P t27_13 k e w = vcK P b27_13 k e w := rfl
abbrev b27_14 : X := (.seq (.seq (.reg [4, 5, 7, 24] (.c (.q 23 [] (.mv (.t 4))) (.c (.e (some 24) [] (.call true 38 [(.t 23), (.c (.int .i64 24))])) .nil))) t27_8) t27_13)
def t27_14 := b27_14
theorem u27_14 : vcK P t27_14 k e w = vcK P b27_14 k e w := rfl
abbrev b27_15 : X := (.seq (.reg [4, 5, 7] (.c (.q 18 [] (.mv (.t 5))) (.c (.q 19 [] (.mv (.t 6))) (.c (.e (some 20) [] (.call false 25 [(.t 18), (.t 19)])) (.c (.q 17 [] (.mv (.t 20))) (.c (.q 21 [] (.ext 0 (.t 17))) (.c (.q 22 [] (.ext 1 (.t 17))) (.c (.q 7 [] (.mv (.t 21))) (.c (.q 8 [] (.mv (.t 22))) .nil))))))))) t27_14)
def t27_15 := b27_15
theorem u27_15 : vcK P t27_15 k e w = vcK P b27_15 k e w := rfl
abbrev b27_16 : X := (.seq (.reg [4, 5, 6] (.c (.q 14 [] (.mv (.t 4))) (.c (.q 15 [] (.mv (.t 5))) (.c (.e (some 16) [] (.call true 54 [(.t 14), (.t 15)])) (.c (.q 6 [] (.mv (.t 16))) .nil))))) t27_15)
def t27_16 := b27_16
theorem u27_16 : vcK P t27_16 k e w = vcK P b27_16 k e w := rfl
abbrev b27_17 : X := (.seq (.reg [4, 5] (.c (.q 12 [] (.mv (.t 4))) (.c (.e (some 13) [] (.call true 41 [(.t 12)])) (.c (.q 5 [] (.mv (.t 13))) .nil)))) t27_16)
def t27_17 := b27_17
theorem u27_17 : vcK P t27_17 k e w = vcK P b27_17 k e w := rfl
abbrev b27_18 : X := (.seq (.reg [4] (.c (.q 9 [] (.mv (.t 0))) (.c (.q 10 [] (.bld [(.slice none 0 0), (.int .i64 0), (.int .u64 0)] [(0, 0, (.t 9))])) (.c (.e (some 11) [] (.box 61 (.t 10))) (.c (.q 4 [] (.mv (.t 11))) .nil))))) t27_17)
def t27_18 := b27_18
theorem u27_18 : vcK P t27_18 k e w = vcK P b27_18 k e w := rfl
abbrev b27_0 : X := (.seq (.reg [0] (.c (.q 2 [] (.mv (.c (.int .i64 0)))) (.c (.q 3 [] (.mv (.s []))) .nil))) t27_18)
def x_sDrawReadNotation := b27_0
theorem u27_0 : vcK P x_sDrawReadNotation k e w = vcK P b27_0 k e w := rfl
def r_sDrawReadNotation : List XO := [(.mv (.t 2)), (.mv (.t 3))]
theorem c_sDrawReadNotation : convF Try.prog [38, 39, 41, 42, 49, 54, 55, 57, 58, 59, 79, 81, 84, 87, 139] Try.f27 [([0], []), ([4], []), ([4, 5], []), ([4, 5, 6], []), ([4, 5, 7], []), ([4, 5, 7, 24], []), ([4, 5, 7], []), ([7], [4, 5]), ([4, 5, 7, 27], []), ([4, 5, 7], []), ([5, 7, 31], []), ([5, 7], []), ([2, 3], []), ([4, 5, 7, 37], []), ([4, 5, 7, 37, 38], []), ([5, 7], []), ([4, 5, 7, 43], []), ([5, 7], []), ([2, 3], [])] = some (x_sDrawReadNotation, r_sDrawReadNotation) := by kernel_rfl
def us_sDrawReadNotation :=  (aI (aI (aI (aI @u27_0 @u27_1) (aI @u27_2 @u27_3)) (aI (aI @u27_4 @u27_5) (aI @u27_6 (aI @u27_7 @u27_8)))) (aI (aI (aI @u27_9 @u27_10) (aI @u27_11 (aI @u27_12 @u27_13))) (aI (aI @u27_14 @u27_15) (aI @u27_16 (aI @u27_17 @u27_18)))))
abbrev b18_1 : X := (.seq (.reg [2, 3] (.c (.q 4 [] (.mv (.t 0))) (.c (.e (some 5) [] (.call false 27 [(.t 4)])) (.c (.q 6 [] (.ext 0 (.t 5))) (.c (.q 7 [] (.ext 1 (.t 5))) (.c (.q 2 [] (.mv (.t 6))) (.c (.q 3 [] (.mv (.t 7))) .nil))))))) .ret)
def t18_1 := b18_1
theorem u18_1 : vcK P t18_1 k e w = vcK P b18_1 k e w := rfl
abbrev b18_0 : X := (.seq (.reg [0] (.c (.q 2 [] (.mv (.c (.int .i64 0)))) (.c (.q 3 [] (.mv (.s []))) .nil))) t18_1)
def x_sDrawCountChanges := b18_0
theorem u18_0 : vcK P x_sDrawCountChanges k e w = vcK P b18_0 k e w := rfl
def r_sDrawCountChanges : List XO := [(.mv (.t 2)), (.mv (.t 3))]
theorem c_sDrawCountChanges : convF Try.prog [38, 39, 41, 42, 49, 54, 55, 57, 58, 59, 79, 81, 84, 87, 139] Try.f18 [([0], []), ([2, 3], [])] = some (x_sDrawCountChanges, r_sDrawCountChanges) := by kernel_rfl
def us_sDrawCountChanges :=  (aI @u18_0 @u18_1)
end

theorem short_len {n : Int} {l : List Bs} (h : ∀ c ∈ l, IsChange n c) : (shortL l).length ≤ (txtL l).length := by
  rcases he : halvesL l with _ | ⟨a, b⟩
  · rw [short_none he]; exact Nat.le_refl _
  · rw [short_some he]; split
    · rename_i hh; omega
    · exact Nat.le_refl _
theorem sDrawReadNotation_ok (v : Value) (code : List UInt8) (hl : code.length ≤ 1048576) (w : World) (h : Sq fU 1 w v code) : Fn 27 [v] w (fun r _ => ∃ (n : Int) (s : Bs), r = .tuple ⟨[.int .i64 n, S s]⟩ ∧ s.length ≤ 1000) := by
  (refine callsV_of mix Try.func27 c_sDrawReadNotation ?_; simp only [↓vsd, vsn, gW, qd, qv, ev, pick, argE, zipE, ne_eq, eq_self, forall_const, implies_true, if_true, if_false, reduceIte, reduceCtorEq, Nat.reduceEqDiff, Nat.reduceAdd, Nat.reduceLT, ↓us_sDrawReadNotation, r_sDrawReadNotation])
  simp only [↓vsd, vsn, gW, qd, qv, ev, pick, argE, zipE, ne_eq, eq_self, forall_const, implies_true, if_true, if_false, reduceIte, reduceCtorEq, Nat.reduceEqDiff, Nat.reduceAdd, Nat.reduceLT, ↓us_sDrawReadNotation, r_sDrawReadNotation, h.facts]
  refine m_al ?_
  rintro b w1 hb hblk hx1 hs1
  have hc := Cur.new h hl hb hblk hx1
  simp only [↓vsd, vsn, gW, qd, qv, ev, pick, argE, zipE, ne_eq, eq_self, forall_const, implies_true, if_true, if_false, reduceIte, reduceCtorEq, Nat.reduceEqDiff, Nat.reduceAdd, Nat.reduceLT, ↓us_sDrawReadNotation, r_sDrawReadNotation]
  refine m_callw (by first | exact .inl rfl | exact .inr rfl) (sl1Cur_stage_ok w b _ _ (by omega) hc) ?_
  rintro _ w2 ⟨hc2, hg2, m, rfl, hm3, hm8⟩
  simp only [↓vsd, vsn, gW, qd, qv, ev, pick, argE, zipE, ne_eq, eq_self, forall_const, implies_true, if_true, if_false, reduceIte, reduceCtorEq, Nat.reduceEqDiff, Nat.reduceAdd, Nat.reduceLT, ↓us_sDrawReadNotation, r_sDrawReadNotation]
  refine m_callw (by first | exact .inl rfl | exact .inr rfl) (sl1Cur_changes_ok w b _ m ⟨hm3, hm8⟩ _ (by omega) hc2) ?_
  rintro y w3 ⟨hc3, hg3, l, ho3, hl3, hch⟩
  simp only [↓vsd, vsn, gW, qd, qv, ev, pick, argE, zipE, ne_eq, eq_self, forall_const, implies_true, if_true, if_false, reduceIte, reduceCtorEq, Nat.reduceEqDiff, Nat.reduceAdd, Nat.reduceLT, ↓us_sDrawReadNotation, r_sDrawReadNotation]
  refine m_call (sShortNotation_ok m y l (fun c hc => by have := change_len (hch c hc); omega) (by omega) _ ho3.sq) ?_
  rintro r w4 hx4 hr
  obtain rfl := hr.1 ⟨hl3, hch⟩
  have hz := short_len hch
  have hz7 := (txtL_len hch).1
  have hz1000 : (shortL l).length ≤ 900 := by omega
  have hc4 := hc3.ext hx4
  generalize shortL l = s at *
  simp only [↓vsd, vsn, gW, qd, qv, ev, pick, argE, zipE, ne_eq, eq_self, forall_const, implies_true, if_true, if_false, reduceIte, reduceCtorEq, Nat.reduceEqDiff, Nat.reduceAdd, Nat.reduceLT, ↓us_sDrawReadNotation, r_sDrawReadNotation]
  refine m_callw (by first | exact .inl rfl | exact .inr rfl) (sl1Cur_one_ok w b _ 24 (by omega) _ (by omega) hc4) ?_
  rintro _ w5 ⟨hc5, hg5, z, rfl⟩
  cases z
  · simp only [↓vsd, vsn, gW, qd, qv, ev, pick, argE, zipE, ne_eq, eq_self, forall_const, implies_true, if_true, if_false, reduceIte, reduceCtorEq, Nat.reduceEqDiff, Nat.reduceAdd, Nat.reduceLT, ↓us_sDrawReadNotation, r_sDrawReadNotation]
    refine m_callw (by first | exact .inl rfl | exact .inr rfl) (sl1Cur_pick_ok w b _ 6 (by omega) _ (by omega) hc5) ?_
    rintro _ w6 ⟨hc6, hg6, p, rfl, hp⟩
    simp only [↓vsd, vsn, gW, qd, qv, ev, pick, argE, zipE, ne_eq, eq_self, forall_const, implies_true, if_true, if_false, reduceIte, reduceCtorEq, Nat.reduceEqDiff, Nat.reduceAdd, Nat.reduceLT, ↓us_sDrawReadNotation, r_sDrawReadNotation]
    refine ⟨fun _ => ?_, fun _ => ⟨fun _ => ?_, fun _ => ⟨hc6.base, m, s, rfl, by omega⟩⟩⟩
    · refine m_callw (by first | exact .inl rfl | exact .inr rfl) (sl1Cur_spoilt_ok w b _ s [45, 120, 46, 44, 49, 52] _ (by omega) (by omega) (by decide) hc6) ?_
      rintro _ w7 ⟨hc7, hg7, x, rfl, hx⟩
      simp only [↓vsd, vsn, gW, qd, qv, ev, pick, argE, zipE, ne_eq, eq_self, forall_const, implies_true, if_true, if_false, reduceIte, reduceCtorEq, Nat.reduceEqDiff, Nat.reduceAdd, Nat.reduceLT, ↓us_sDrawReadNotation, r_sDrawReadNotation]
      exact ⟨hc7.base, m, x, rfl, by omega⟩
    · refine m_bsl (fun p hp => by simp only [List.mem_cons, List.not_mem_nil, or_false] at hp; rcases hp with rfl | rfl | rfl | rfl | rfl | rfl | rfl | rfl | rfl | rfl <;> rfl) ?_
      rintro b7 w7 hb7 hblk7 hx7 hs7
      have hc7 := hc6.ext hx7
      have hlt6 := hc6.lt
      simp only [↓vsd, vsn, gW, qd, qv, ev, pick, argE, zipE, ne_eq, eq_self, forall_const, implies_true, if_true, if_false, reduceIte, reduceCtorEq, Nat.reduceEqDiff, Nat.reduceAdd, Nat.reduceLT, ↓us_sDrawReadNotation, r_sDrawReadNotation]
      refine m_callw (by first | exact .inl rfl | exact .inr rfl) (sl1Cur_of_ok w b _ _ [[], [45], [120, 49, 52, 120, 49, 52, 44, 49, 50], [45, 46, 49, 52, 46, 45, 44, 50], [49, 52, 46], [46, 49, 52], [49, 52, 44, 44, 49, 50], [49, 44, 50, 44, 51, 44, 52, 44, 53], [45, 49, 52, 45, 49, 52, 45, 49, 52, 45, 49, 52, 45, 49, 52, 45, 49, 52, 45, 49, 52, 45, 49, 52, 45, 49, 52, 45, 49, 52, 45, 49, 52, 45, 49, 52, 45, 49, 52, 45, 49, 52, 45, 49, 52, 45, 49, 52, 45, 49, 52, 45, 49, 52, 45, 49, 52, 45, 49, 52, 45, 49, 52], [49, 46, 52]] w7 (by omega) (by decide) hc7 (Sq.litC _ _ fS_len hblk7 rfl rfl (by omega))) ?_
      rintro _ w8 ⟨hc8, hg8, x, rfl, hx⟩
      simp only [↓vsd, vsn, gW, qd, qv, ev, pick, argE, zipE, ne_eq, eq_self, forall_const, implies_true, if_true, if_false, reduceIte, reduceCtorEq, Nat.reduceEqDiff, Nat.reduceAdd, Nat.reduceLT, ↓us_sDrawReadNotation, r_sDrawReadNotation]
      have hxl : ∀ y ∈ ([[], [45], [120, 49, 52, 120, 49, 52, 44, 49, 50], [45, 46, 49, 52, 46, 45, 44, 50], [49, 52, 46], [46, 49, 52], [49, 52, 44, 44, 49, 50], [49, 44, 50, 44, 51, 44, 52, 44, 53], [45, 49, 52, 45, 49, 52, 45, 49, 52, 45, 49, 52, 45, 49, 52, 45, 49, 52, 45, 49, 52, 45, 49, 52, 45, 49, 52, 45, 49, 52, 45, 49, 52, 45, 49, 52, 45, 49, 52, 45, 49, 52, 45, 49, 52, 45, 49, 52, 45, 49, 52, 45, 49, 52, 45, 49, 52, 45, 49, 52, 45, 49, 52], [49, 46, 52]] : List Bs), y.length ≤ 100 := by decide
      exact ⟨hc8.base, m, x, rfl, by have := hxl x hx; omega⟩
  · simp only [↓vsd, vsn, gW, qd, qv, ev, pick, argE, zipE, ne_eq, eq_self, forall_const, implies_true, if_true, if_false, reduceIte, reduceCtorEq, Nat.reduceEqDiff, Nat.reduceAdd, Nat.reduceLT, ↓us_sDrawReadNotation, r_sDrawReadNotation]
    refine m_loop (fun k vs w' => ∃ s : Bs, vs = [S s] ∧ s.length + 3 * k = 200 ∧ Ext w5 w') 66 ⟨[49, 52], rfl, rfl, Ext.refl _⟩ ?_
    rintro k vs w6 ⟨x, rfl, hk, hx6⟩
    by_cases hlt : x.length < 198
    · have hltI : (x.length : Int) < 198 := by omega
      simp only [↓vsd, vsn, gW, qd, qv, ev, pick, argE, zipE, ne_eq, eq_self, forall_const, implies_true, if_true, if_false, reduceIte, reduceCtorEq, Nat.reduceEqDiff, Nat.reduceAdd, Nat.reduceLT, ↓us_sDrawReadNotation, r_sDrawReadNotation, hltI]
      exact ⟨by omega, k - 1, by omega, x ++ [46, 49, 52], rfl, by simp; omega, hx6⟩
    · have hltI : ¬ (x.length : Int) < 198 := by omega
      simp only [↓vsd, vsn, gW, qd, qv, ev, pick, argE, zipE, ne_eq, eq_self, forall_const, implies_true, if_true, if_false, reduceIte, reduceCtorEq, Nat.reduceEqDiff, Nat.reduceAdd, Nat.reduceLT, ↓us_sDrawReadNotation, r_sDrawReadNotation, hltI]
      refine m_callw (by first | exact .inl rfl | exact .inr rfl) (sl1Cur_one_ok w b _ 2 (by omega) _ (by omega) (hc5.ext hx6)) ?_
      rintro _ w7 ⟨hc7, hg7, z, rfl⟩
      cases z
      · simp only [↓vsd, vsn, gW, qd, qv, ev, pick, argE, zipE, ne_eq, eq_self, forall_const, implies_true, if_true, if_false, reduceIte, reduceCtorEq, Nat.reduceEqDiff, Nat.reduceAdd, Nat.reduceLT, ↓us_sDrawReadNotation, r_sDrawReadNotation]
        exact ⟨hc7.base, m, x, rfl, by omega⟩
      · simp only [↓vsd, vsn, gW, qd, qv, ev, pick, argE, zipE, ne_eq, eq_self, forall_const, implies_true, if_true, if_false, reduceIte, reduceCtorEq, Nat.reduceEqDiff, Nat.reduceAdd, Nat.reduceLT, ↓us_sDrawReadNotation, r_sDrawReadNotation]
        exact ⟨by omega, hc7.base, m, _, rfl, by simp; omega⟩
theorem sDrawCountChanges_ok (v : Value) (code : List UInt8) (hl : code.length ≤ 1048576) (w : World) (h : Sq fU 1 w v code) : Fn 18 [v] w (fun r _ => ∃ (n : Int) (s : Bs), r = .tuple ⟨[.int .i64 n, S s]⟩ ∧ s.length ≤ 1000) := by
  (refine callsV_of mix Try.func18 c_sDrawCountChanges ?_; simp only [↓vsd, vsn, gW, qd, qv, ev, pick, argE, zipE, ne_eq, eq_self, forall_const, implies_true, if_true, if_false, reduceIte, reduceCtorEq, Nat.reduceEqDiff, Nat.reduceAdd, Nat.reduceLT, ↓us_sDrawCountChanges, r_sDrawCountChanges])
  refine m_call (sDrawReadNotation_ok v code hl _ h) ?_
  rintro _ w1 hx1 ⟨n, s, rfl, hs⟩
  simp only [↓vsd, vsn, gW, qd, qv, ev, pick, argE, zipE, ne_eq, eq_self, forall_const, implies_true, if_true, if_false, reduceIte, reduceCtorEq, Nat.reduceEqDiff, Nat.reduceAdd, Nat.reduceLT, ↓us_sDrawCountChanges, r_sDrawCountChanges]
  exact ⟨hx1, n, s, rfl, hs⟩
theorem list_stage {n : Int} {l : List Bs} (h : IsList n l) : 3 ≤ n ∧ n ≤ 8 := (h.2 _ (getD_mem [] (show 0 < l.length by have := h.1; omega))).1
theorem read_text {n : Nat} {l : List Bs} (h : IsList n l) (hs : (txtL l).length ≤ 200) : readN n (txtL l) = (l, 0, 0, true) := by
  have hst := list_stage h
  have hne := txtL_ne h.2 h.1.1
  rw [readN_inr (by omega) (fun hh => hh.elim hne (fun hh => by omega)) (read_one h.2 h.1.1)]
  have e : flatN [l] = l := by simp [flatN]
  have := h.1
  rw [e, if_neg (fun hh => by rcases hh with hh | hh <;> (try simp at hh) <;> omega)]
theorem read_short {n : Nat} {l : List Bs} (h : IsList n l) (hs : (shortL l).length ≤ 200) : readN n (shortL l) = (l, 0, 0, true) := by
  have hst := list_stage h
  rcases he : halvesL l with _ | ⟨a, b⟩
  · rw [short_none he] at hs ⊢; exact read_text h hs
  · rw [short_some he] at hs ⊢
    by_cases hlt : (txtL a ++ [44] ++ txtL b).length < (txtL l).length
    · rw [if_pos hlt] at hs ⊢
      obtain ⟨hm, ha, hb, hca, hcb⟩ := halvesL_spec he
      have e : txtL a ++ [44] ++ txtL b = txtL a ++ 44 :: txtL b := by simp
      rw [e] at hs ⊢
      rw [readN_inr (by omega) (fun hh => hh.elim (fun hh => by simp at hh) (fun hh => by omega)) (read_two (fun c hc => h.2 c (hca c hc)) ha.1 (fun c hc => h.2 c (hcb c hc)) hb.1)]
      have e2 : flatN [a, b] = l := by rw [← hm]; simp [flatN]
      have := h.1
      rw [e2, if_neg (fun hh => by rcases hh with hh | hh <;> (try simp at hh) <;> omega)]
    · rw [if_neg hlt] at hs ⊢; exact read_text h hs
end Go.Proofs.Ytfklonhjgkahdaa
