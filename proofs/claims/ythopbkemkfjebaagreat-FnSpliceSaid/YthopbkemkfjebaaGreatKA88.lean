/-
  Truth of splices by lead heads, of both sides.
  Conditions: none.
-/
import Derived.Test.YthopbkemkfjebaaGreatKA87
set_option linter.unusedSimpArgs false
set_option linter.unusedVariables false
set_option linter.defProp false
namespace Go.Proofs.YthopbkemkfjebaaGreat
open Go Go.RowKit
section
variable (P : Program) (k : KT) (e : Env) (w : World)
abbrev b33_1 : X := (.cond (.t 20) (.seq (.reg [6, 7] (.c (.q 6 [] (.mv (.c (.bool false)))) (.c (.q 7 [] (.mv (.c (.bool false)))) .nil))) .ret) .skip)
def t33_1 := b33_1
theorem u33_1 : vcK P t33_1 k e w = vcK P b33_1 k e w := rfl
abbrev b33_2 : X := (.reg [0, 2, 8, 9, 10, 11, 26, 27, 28, 33, 34, 35] (.c (.q 40 [] (.mv (.t 9))) (.c (.q 41 [] (.mv (.t 10))) (.c (.q 42 [] (.mv (.t 12))) (.c (.q 43 [] (.bld [(.int .i64 0), (.int .i64 0)] [(0, 0, (.t 41)), (1, 0, (.t 42))])) (.c (.q 44 [] (.lda 3 (.t 11))) (.c (.q 45 [] (.lda 3 (.t 13))) (.c (.e (some 46) [] (.call false 85 [(.t 44), (.t 45)])) (.c (.e none [] (.mup false (.array 2 3) (.t 40) (.t 43) (.t 46))) .nil)))))))))
def t33_2 := b33_2
theorem u33_2 : vcK P t33_2 k e w = vcK P b33_2 k e w := rfl
abbrev b33_3 : X := (.reg [0, 2, 8, 9, 10, 11, 26, 27, 28, 33, 34, 35] (.c (.q 47 [] (.bin .add (.t 35) (.c (.int .i64 1)))) (.c (.q 35 [] (.mv (.t 47))) .nil)))
def t33_3 := b33_3
theorem u33_3 : vcK P t33_3 k e w = vcK P b33_3 k e w := rfl
abbrev b33_4 : X := (.seq (.blk 3 (.seq (.reg [0, 2, 8, 9, 10, 11, 12, 13, 26, 27, 28, 33, 34, 35] (.c (.q 37 [] (.mv (.t 35))) (.c (.q 38 [] (.ia 3 (.t 33) (.t 35))) (.c (.q 39 [] (.lda 3 (.t 38))) (.c (.e (some 13) [] (.al 25 [(S []), (.int .i64 0), (.slice none 0 0)])) (.c (.q 12 [] (.mv (.t 37))) (.c (.e none [] (.st 3 (.t 13) (.t 39))) .nil))))))) t33_2)) t33_3)
def t33_4 := b33_4
theorem u33_4 : vcK P t33_4 k e w = vcK P b33_4 k e w := rfl
abbrev b33_5 : X := (.seq (.cond (.t 36) .skip (.exit 2)) t33_4)
def t33_5 := b33_5
theorem u33_5 : vcK P t33_5 k e w = vcK P b33_5 k e w := rfl
abbrev b33_6 : X := (.seq (.reg [0, 2, 8, 9, 10, 11, 26, 27, 28, 33, 34, 35, 36] (.c (.q 36 [] (.bin .lss (.t 35) (.t 34))) .nil)) t33_5)
def t33_6 := b33_6
theorem u33_6 : vcK P t33_6 k e w = vcK P b33_6 k e w := rfl
abbrev b33_7 : X := (.blk 2 (.loop [35] [0, 2, 8, 9, 10, 11, 26, 27, 28, 33, 34] t33_6))
def t33_7 := b33_7
theorem u33_7 : vcK P t33_7 k e w = vcK P b33_7 k e w := rfl
abbrev b33_8 : X := (.seq (.reg [0, 2, 8, 9, 10, 11, 26, 27, 28, 33, 34, 35] (.c (.q 33 [] (.mv (.t 0))) (.c (.q 34 [] (.lens (.t 33))) (.c (.q 35 [] (.mv (.c (.int .i64 0)))) .nil)))) t33_7)
def t33_8 := b33_8
theorem u33_8 : vcK P t33_8 k e w = vcK P b33_8 k e w := rfl
abbrev b33_9 : X := (.reg [0, 2, 8, 9, 26, 27, 28] (.c (.q 48 [] (.bin .add (.t 28) (.c (.int .i64 1)))) (.c (.q 28 [] (.mv (.t 48))) .nil)))
def t33_9 := b33_9
theorem u33_9 : vcK P t33_9 k e w = vcK P b33_9 k e w := rfl
abbrev b33_10 : X := (.seq (.blk 1 (.seq (.reg [0, 2, 8, 9, 10, 11, 26, 27, 28] (.c (.q 30 [] (.mv (.t 28))) (.c (.q 31 [] (.ia 3 (.t 26) (.t 28))) (.c (.q 32 [] (.lda 3 (.t 31))) (.c (.e (some 11) [] (.al 25 [(S []), (.int .i64 0), (.slice none 0 0)])) (.c (.q 10 [] (.mv (.t 30))) (.c (.e none [] (.st 3 (.t 11) (.t 32))) .nil))))))) t33_8)) t33_9)
def t33_10 := b33_10
theorem u33_10 : vcK P t33_10 k e w = vcK P b33_10 k e w := rfl
abbrev b33_11 : X := (.seq (.cond (.t 29) .skip (.exit 0)) t33_10)
def t33_11 := b33_11
theorem u33_11 : vcK P t33_11 k e w = vcK P b33_11 k e w := rfl
abbrev b33_12 : X := (.seq (.reg [0, 2, 8, 9, 26, 27, 28, 29] (.c (.q 29 [] (.bin .lss (.t 28) (.t 27))) .nil)) t33_11)
def t33_12 := b33_12
theorem u33_12 : vcK P t33_12 k e w = vcK P b33_12 k e w := rfl
abbrev b33_13 : X := (.blk 0 (.loop [28] [0, 2, 8, 9, 26, 27] t33_12))
def t33_13 := b33_13
theorem u33_13 : vcK P t33_13 k e w = vcK P b33_13 k e w := rfl
abbrev b33_14 : X := (.cond (.t 62) (.seq (.reg [6, 7] (.c (.q 6 [] (.mv (.c (.bool false)))) (.c (.q 7 [] (.mv (.c (.bool true)))) .nil))) .ret) .skip)
def t33_14 := b33_14
theorem u33_14 : vcK P t33_14 k e w = vcK P b33_14 k e w := rfl
abbrev b33_15 : X := (.cond (.t 86) (.seq (.reg [6, 7] (.c (.q 6 [] (.mv (.c (.bool false)))) (.c (.q 7 [] (.mv (.c (.bool true)))) .nil))) .ret) .skip)
def t33_15 := b33_15
theorem u33_15 : vcK P t33_15 k e w = vcK P b33_15 k e w := rfl
abbrev b33_16 : X := (.seq (.drw [0, 2, 8, 9, 14, 51, 52, 63, 64, 86] (.c (.q 67 [] (.mv (.t 9))) (.c (.q 68 [] (.mv (.t 2))) (.c (.q 69 [] (.mv (.t 15))) (.c (.q 71 [] (.mv (.t 2))) (.c (.q 72 [] (.mv (.t 14))) (.c (.q 76 [] (.mv (.t 8))) (.c (.q 77 [] (.mv (.t 15))) (.c (.q 78 [] (.ia 1 (.t 76) (.t 77))) (.c (.q 79 [] (.ld (.t 78))) (.c (.q 81 [] (.mv (.t 8))) (.c (.q 82 [] (.mv (.t 14))) (.c (.q 83 [] (.ia 1 (.t 81) (.t 82))) (.c (.q 84 [] (.ld (.t 83))) (.c (.e (some 70) [] (.call false 79 [(.t 68), (.t 69)])) (.c (.e (some 73) [] (.call false 79 [(.t 71), (.t 72)])) (.c (.q 74 [] (.bld [(.int .i64 0), (.int .i64 0)] [(0, 0, (.t 70)), (1, 0, (.t 73))])) (.c (.q 75 [] (.mlk false (.array 2 3) (.map none) (.t 67) (.t 74))) (.c (.e (some 80) [] (.call false 88 [(.t 79)])) (.c (.e (some 85) [] (.call false 87 [(.t 80), (.t 84)])) (.c (.q 86 [] (.mlk false .string (.bool false) (.t 75) (.t 85))) .nil))))))))))))))))))))) t33_15)
def t33_16 := b33_16
theorem u33_16 : vcK P t33_16 k e w = vcK P b33_16 k e w := rfl
abbrev b33_17 : X := (.reg [0, 2, 8, 9, 14, 51, 52, 63, 64] (.c (.q 87 [] (.bin .add (.t 64) (.c (.int .i64 1)))) (.c (.q 64 [] (.mv (.t 87))) .nil)))
def t33_17 := b33_17
theorem u33_17 : vcK P t33_17 k e w = vcK P b33_17 k e w := rfl
abbrev b33_18 : X := (.seq (.blk 7 (.seq (.reg [0, 2, 8, 9, 14, 15, 51, 52, 63, 64] (.c (.q 66 [] (.mv (.t 64))) (.c (.q 15 [] (.mv (.t 66))) .nil))) t33_16)) t33_17)
def t33_18 := b33_18
theorem u33_18 : vcK P t33_18 k e w = vcK P b33_18 k e w := rfl
abbrev b33_19 : X := (.seq (.cond (.t 65) .skip (.exit 6)) t33_18)
def t33_19 := b33_19
theorem u33_19 : vcK P t33_19 k e w = vcK P b33_19 k e w := rfl
abbrev b33_20 : X := (.seq (.reg [0, 2, 8, 9, 14, 51, 52, 63, 64, 65] (.c (.q 65 [] (.bin .lss (.t 64) (.t 63))) .nil)) t33_19)
def t33_20 := b33_20
theorem u33_20 : vcK P t33_20 k e w = vcK P b33_20 k e w := rfl
abbrev b33_21 : X := (.blk 6 (.loop [64] [0, 2, 8, 9, 14, 51, 52, 63] t33_20))
def t33_21 := b33_21
theorem u33_21 : vcK P t33_21 k e w = vcK P b33_21 k e w := rfl
abbrev b33_22 : X := (.seq (.reg [0, 2, 8, 9, 14, 51, 52, 63, 64] (.c (.q 63 [] (.mv (.t 14))) (.c (.q 64 [] (.mv (.c (.int .i64 0)))) .nil))) t33_21)
def t33_22 := b33_22
theorem u33_22 : vcK P t33_22 k e w = vcK P b33_22 k e w := rfl
abbrev b33_23 : X := (.seq (.seq (.reg [0, 2, 8, 9, 14, 51, 52, 62] (.c (.q 55 [] (.mv (.t 0))) (.c (.q 56 [] (.mv (.t 2))) (.c (.q 57 [] (.mv (.t 14))) (.c (.e (some 58) [] (.call false 79 [(.t 56), (.t 57)])) (.c (.q 59 [] (.ia 3 (.t 55) (.t 58))) (.c (.q 60 [] (.lda 3 (.t 59))) (.c (.e (some 61) [] (.call false 86 [(.t 60)])) (.c (.q 62 [] (.not (.t 61))) .nil))))))))) t33_14) t33_22)
def t33_23 := b33_23
theorem u33_23 : vcK P t33_23 k e w = vcK P b33_23 k e w := rfl
abbrev b33_24 : X := (.reg [0, 2, 8, 9, 51, 52] (.c (.q 88 [] (.bin .add (.t 52) (.c (.int .i64 1)))) (.c (.q 52 [] (.mv (.t 88))) .nil)))
def t33_24 := b33_24
theorem u33_24 : vcK P t33_24 k e w = vcK P b33_24 k e w := rfl
abbrev b33_25 : X := (.seq (.blk 5 (.seq (.reg [0, 2, 8, 9, 14, 51, 52] (.c (.q 54 [] (.mv (.t 52))) (.c (.q 14 [] (.mv (.t 54))) .nil))) t33_23)) t33_24)
def t33_25 := b33_25
theorem u33_25 : vcK P t33_25 k e w = vcK P b33_25 k e w := rfl
abbrev b33_26 : X := (.seq (.cond (.t 53) .skip (.exit 4)) t33_25)
def t33_26 := b33_26
theorem u33_26 : vcK P t33_26 k e w = vcK P b33_26 k e w := rfl
abbrev b33_27 : X := (.seq (.reg [0, 2, 8, 9, 51, 52, 53] (.c (.q 53 [] (.bin .lss (.t 52) (.t 51))) .nil)) t33_26)
def t33_27 := b33_27
theorem u33_27 : vcK P t33_27 k e w = vcK P b33_27 k e w := rfl
abbrev b33_28 : X := (.blk 4 (.loop [52] [0, 2, 8, 9, 51] t33_27))
def t33_28 := b33_28
theorem u33_28 : vcK P t33_28 k e w = vcK P b33_28 k e w := rfl
abbrev b33_29 : X := (.seq (.reg [6, 7] (.c (.q 6 [] (.mv (.c (.bool true)))) (.c (.q 7 [] (.mv (.c (.bool true)))) .nil))) .ret)
def t33_29 := b33_29
theorem u33_29 : vcK P t33_29 k e w = vcK P b33_29 k e w := rfl
abbrev b33_30 : X := (.seq (.seq (.reg [0, 2, 8, 9, 51, 52] (.c (.q 49 [] (.mv (.t 2))) (.c (.q 50 [] (.len (.t 49))) (.c (.q 51 [] (.bin .quo (.t 50) (.c (.int .i64 2)))) (.c (.q 52 [] (.mv (.c (.int .i64 0)))) .nil))))) t33_28) t33_29)
def t33_30 := b33_30
theorem u33_30 : vcK P t33_30 k e w = vcK P b33_30 k e w := rfl
abbrev b33_31 : X := (.seq (.seq (.reg [0, 2, 8, 9, 26, 27, 28] (.c (.q 26 [] (.mv (.t 0))) (.c (.q 27 [] (.lens (.t 26))) (.c (.q 28 [] (.mv (.c (.int .i64 0)))) .nil)))) t33_13) t33_30)
def t33_31 := b33_31
theorem u33_31 : vcK P t33_31 k e w = vcK P b33_31 k e w := rfl
abbrev b33_32 : X := (.seq (.reg [0, 2, 8, 9] (.c (.e (some 25) [] .mkmap) (.c (.q 9 [] (.mv (.t 25))) .nil))) t33_31)
def t33_32 := b33_32
theorem u33_32 : vcK P t33_32 k e w = vcK P b33_32 k e w := rfl
abbrev b33_33 : X := (.seq (.reg [0, 2, 8] (.c (.q 21 [] (.mv (.t 0))) (.c (.q 22 [] (.lda 2 (.t 4))) (.c (.q 23 [] (.mv (.t 2))) (.c (.e (some 24) [] (.call false 84 [(.t 21), (.t 22), (.t 23)])) (.c (.q 8 [] (.mv (.t 24))) .nil)))))) t33_32)
def t33_33 := b33_33
theorem u33_33 : vcK P t33_33 k e w = vcK P b33_33 k e w := rfl
abbrev b33_34 : X := (.seq (.seq (.reg [0, 2, 4, 20] (.c (.q 16 [] (.mv (.t 0))) (.c (.q 17 [] (.lda 2 (.t 4))) (.c (.q 18 [] (.mv (.t 2))) (.c (.e (some 19) [] (.call false 83 [(.t 16), (.t 17), (.t 18)])) (.c (.q 20 [] (.not (.t 19))) .nil)))))) t33_1) t33_33)
def t33_34 := b33_34
theorem u33_34 : vcK P t33_34 k e w = vcK P b33_34 k e w := rfl
abbrev b33_0 : X := (.seq (.reg [0, 2, 4] (.c (.e (some 4) [] (.box 27 (.t 1))) (.c (.q 6 [] (.mv (.c (.bool false)))) (.c (.q 7 [] (.mv (.c (.bool false)))) .nil)))) t33_34)
def x_iTrueSplice := b33_0
theorem u33_0 : vcK P x_iTrueSplice k e w = vcK P b33_0 k e w := rfl
def r_iTrueSplice : List XO := [(.mv (.t 6)), (.mv (.t 7))]
theorem c_iTrueSplice : convF Tryz.prog [56, 58, 59, 60, 61, 62, 72, 73, 77, 97, 98, 109, 110, 111, 112, 115, 128, 136] Tryz.f33 [([0, 2, 4], []), ([0, 2, 4, 20], []), ([6, 7], []), ([0, 2, 8], []), ([0, 2, 8, 9], []), ([0, 2, 8, 9, 26, 27, 28], []), ([28], [0, 2, 8, 9, 26, 27]), ([0, 2, 8, 9, 26, 27, 28, 29], []), ([0, 2, 8, 9, 10, 11, 26, 27, 28], []), ([0, 2, 8, 9, 10, 11, 26, 27, 28, 33, 34, 35], []), ([35], [0, 2, 8, 9, 10, 11, 26, 27, 28, 33, 34]), ([0, 2, 8, 9, 10, 11, 26, 27, 28, 33, 34, 35, 36], []), ([0, 2, 8, 9, 10, 11, 12, 13, 26, 27, 28, 33, 34, 35], []), ([0, 2, 8, 9, 10, 11, 26, 27, 28, 33, 34, 35], []), ([0, 2, 8, 9, 10, 11, 26, 27, 28, 33, 34, 35], []), ([0, 2, 8, 9, 26, 27, 28], []), ([0, 2, 8, 9, 51, 52], []), ([52], [0, 2, 8, 9, 51]), ([0, 2, 8, 9, 51, 52, 53], []), ([0, 2, 8, 9, 14, 51, 52], []), ([0, 2, 8, 9, 14, 51, 52, 62], []), ([6, 7], []), ([0, 2, 8, 9, 14, 51, 52, 63, 64], []), ([64], [0, 2, 8, 9, 14, 51, 52, 63]), ([0, 2, 8, 9, 14, 51, 52, 63, 64, 65], []), ([0, 2, 8, 9, 14, 15, 51, 52, 63, 64], []), ([0, 2, 8, 9, 14, 51, 52, 63, 64, 86], []), ([6, 7], []), ([0, 2, 8, 9, 14, 51, 52, 63, 64], []), ([0, 2, 8, 9, 51, 52], []), ([6, 7], [])] = some (x_iTrueSplice, r_iTrueSplice) := by kernel_rfl
def us_iTrueSplice :=  (aI (aI (aI (aI (aI @u33_0 @u33_1) (aI @u33_2 @u33_3)) (aI (aI @u33_4 @u33_5) (aI @u33_6 @u33_7))) (aI (aI (aI @u33_8 @u33_9) (aI @u33_10 @u33_11)) (aI (aI @u33_12 @u33_13) (aI @u33_14 (aI @u33_15 @u33_16))))) (aI (aI (aI (aI @u33_17 @u33_18) (aI @u33_19 @u33_20)) (aI (aI @u33_21 @u33_22) (aI @u33_23 (aI @u33_24 @u33_25)))) (aI (aI (aI @u33_26 @u33_27) (aI @u33_28 @u33_29)) (aI (aI @u33_30 @u33_31) (aI @u33_32 (aI @u33_33 @u33_34))))))
end
def pairV (x y : Int) : Value := .agg ⟨[.int .i64 x, .int .i64 y]⟩
theorem same_P (n : Nat) (e : TypeId) (a b c d : Int) : sameK (.array n e) (pairV a b) (pairV c d) = some (decide ((a, b) = (c, d))) := rfl
theorem nil_P (n : Nat) (e : TypeId) (a b : Int) : nilK (.array n e) (pairV a b) = some none := rfl
section
variable {n : Nat} {e : TypeId}
theorem lk_putP (s1 s2 t1 t2 : Int) (v : Value) : ∀ es : List (Value × Value), (∀ p ∈ es, ∃ x y, p.1 = pairV x y) → lkE (.array n e) (pairV s1 s2) (putE (.array n e) (pairV t1 t2) v es) = if (s1, s2) = (t1, t2) then some (some v) else lkE (.array n e) (pairV s1 s2) es
  | [], _ => by
    simp only [putE, lkE, same_P, nil_P]
    by_cases h : (s1, s2) = (t1, t2) <;> simp [h]
  | (a, b) :: es, hk => by
    obtain ⟨u1, u2, rfl⟩ : ∃ x y, a = pairV x y := hk (a, b) List.mem_cons_self
    have ih := lk_putP s1 s2 t1 t2 v es fun p hp => hk p (List.mem_cons_of_mem _ hp)
    simp only [putE, same_P]
    by_cases h : (t1, t2) = (u1, u2)
    · simp only [h, decide_true, lkE, same_P]
      rw [← h]
      by_cases h2 : (s1, s2) = (t1, t2)
      · simp [h2]
      · simp [h2]
    · simp only [decide_eq_false h, lkE, same_P]
      by_cases h2 : (s1, s2) = (u1, u2)
      · have h3 : ¬ (s1, s2) = (t1, t2) := fun e => h (by rw [← e, h2])
        simp only [h2, decide_true]
        rw [if_neg (by rw [← h2]; exact h3)]
      · simp only [decide_eq_false h2]
        exact ih
theorem put_keysP (t1 t2 : Int) (v : Value) : ∀ es : List (Value × Value), (∀ p ∈ es, ∃ x y, p.1 = pairV x y) → ∀ p ∈ putE (.array n e) (pairV t1 t2) v es, ∃ x y, p.1 = pairV x y
  | [], _ => fun p hp => by simp only [putE, List.mem_singleton] at hp; exact ⟨t1, t2, by rw [hp]⟩
  | (a, b) :: es, hk => fun p hp => by
    have ih := put_keysP t1 t2 v es fun p hp => hk p (List.mem_cons_of_mem _ hp)
    have hs := hk (a, b) List.mem_cons_self
    simp only [putE] at hp
    split at hp
    · rcases List.mem_cons.1 hp with e | e
      · exact ⟨t1, t2, by rw [e]⟩
      · exact hk p (List.mem_cons_of_mem _ e)
    · rcases List.mem_cons.1 hp with e | e
      · rw [e]; exact hs
      · exact ih p e
end
/-- Block m holds a map from pairs of numbers to maps. -/
def MapP (w : World) (m : Nat) (f : Int → Int → Option Nat) : Prop := ∃ es, mapAt w (.map (some m)) = some es ∧ (∀ p ∈ es, ∃ x y, p.1 = pairV x y) ∧ ∀ x y, lkE (.array 2 3) (pairV x y) es = some ((f x y).map fun n : Nat => Value.map (some n))
section
variable {w w' : World} {m : Nat} {f : Int → Int → Option Nat}
theorem MapP.lt (h : MapP w m f) : m < w.heap.size := by
  obtain ⟨es, h, _⟩ := h
  simp only [mapAt] at h
  cases hb : w.heap[m]? with
  | none => rw [hb] at h; simp at h
  | some o => exact (Array.getElem?_eq_some_iff.1 hb).1
theorem MapP.same (h : MapP w m f) (he : w'.heap[m]? = w.heap[m]?) : MapP w' m f := by
  obtain ⟨es, h1, h2⟩ := h
  refine ⟨es, ?_, h2⟩
  simp only [mapAt] at h1 ⊢
  rw [he]; exact h1
theorem MapP.ext (h : MapP w m f) (hx : Ext w w') : MapP w' m f := h.same (hx.block h.lt)
theorem MapP.look (h : MapP w m f) {x y : Int} {n : Nat} (hf : f x y = some n) : mlkV w false (.array 2 3) (.map none) (.map (some m)) (pairV x y) = .map (some n) ∧ mlkD w (.array 2 3) (.map (some m)) (pairV x y) = True := by
  obtain ⟨es, h1, h2, h3⟩ := h
  unfold mlkV mlkD
  rw [h1, Option.bind_some, h3, hf]
  simp [mlkR]
end
section
variable {P : Program} {mw : Option World} {ps : List Nat} {k : KT} {r : XT} {d : Option Nat} {l : EL} {w : World}
theorem m_mkmapP (h : ∀ b w', b = w.heap.size → MapP w' b (fun _ _ => none) → Ext w w' → w'.heap.size = b + 1 → ∀ s, ops P mw ps k r (setO ⟨l, s⟩ d (.map (some b))) w') : mkmapL P mw ps k r d l w := by
  unfold mkmapL mkmapK
  intro s
  exact h _ _ rfl ⟨[], by simp only [mapAt, heap_alloc_new]; rfl, by simp, fun _ _ => rfl⟩ (Ext.alloc w _) (by simp) s
theorem m_putP {b n : Nat} {f : Int → Int → Option Nat} {x y : Int} (hm : MapP w b f) (h : ∀ w', MapP w' b (fun s t => if s = x ∧ t = y then some n else f s t) → Upd w w' b → ∀ q, ops P mw ps k r (setO ⟨l, q⟩ d undef) w') : mupL P mw ps k r d l w false (.array 2 3) (.map (some b)) (pairV x y) (.map (some n)) := by
  obtain ⟨es, h1, h2, h3⟩ := hm
  refine m_mup h1 (by rw [h3]; rfl) fun w' hm' hu q => h w' ⟨_, hm', put_keysP x y _ es h2, fun s t => ?_⟩ hu q
  rw [lk_putP s t x y _ es h2, h3]
  by_cases he : s = x ∧ t = y
  · rw [if_pos (by rw [he.1, he.2])]
    show _ = some (Option.map _ (if s = x ∧ t = y then some n else f s t))
    rw [if_pos he]; rfl
  · rw [if_neg (fun e => he ⟨congrArg Prod.fst e, congrArg Prod.snd e⟩)]
    show _ = some (Option.map _ (if s = x ∧ t = y then some n else f s t))
    rw [if_neg he]
end
/-- No lead of the splice holds a row twice, and no two of them meet. -/
def TrueS (n : Nat) (css : List (List Bs)) (b s t : Bs) (k : Nat) : Prop := ∀ i < k, (leadR n (css.getD (mA t i) [])).Nodup ∧ ∀ j < i, timesL (turnL (hdS n css b s t j)) (hdS n css b s t i) ∉ falseL (leadR n (css.getD (mA t j) [])) (leadR n (css.getD (mA t i) []))
instance (n : Nat) (css : List (List Bs)) (b s t : Bs) (k : Nat) : Decidable (TrueS n css b s t k) := by unfold TrueS; infer_instance
def tspB (ms : List MS) (css : List (List Bs)) (b s t : Bs) : Bool := decide (SplOk ms css b s t) && decide (TrueS (ms.getD 0 MS.nil).st.toNat css b s t (t.length / 2))
def tspV (ms : List MS) (css : List (List Bs)) (b s t : Bs) : Value := .tuple ⟨[.bool (tspB ms css b s t), .bool (decide (SplOk ms css b s t))]⟩
/-- Under each pair of Q the map leads to the set of false lead heads between these methods. -/
def SetsP (w : World) (m : Nat) (F : Int → Int → Option Nat) (n : Nat) (css : List (List Bs)) (Q : Nat → Nat → Prop) : Prop := ∀ x y : Nat, Q x y → ∃ q L, F x y = some q ∧ SetAt w q L ∧ m < q ∧ ∀ z, z ∈ L ↔ z ∈ falseL (leadR n (css.getD x [])) (leadR n (css.getD y []))
theorem SetsP.ext {w w' : World} {m n : Nat} {F : Int → Int → Option Nat} {css : List (List Bs)} {Q : Nat → Nat → Prop} (h : SetsP w m F n css Q) (hx : Ext w w') : SetsP w' m F n css Q := fun x y hq => by
  obtain ⟨q, L, h1, h2, h3⟩ := h x y hq
  exact ⟨q, L, h1, h2.ext hx, h3⟩
theorem SetsP.put {w w' : World} {m n : Nat} {F : Int → Int → Option Nat} {css : List (List Bs)} {Q Q' : Nat → Nat → Prop} (h : SetsP w m F n css Q) (hu : Upd w w' m) {a b q : Nat} {L : List Bs} (hL : SetAt w q L) (hq : m < q) (hz : ∀ z, z ∈ L ↔ z ∈ falseL (leadR n (css.getD a [])) (leadR n (css.getD b []))) (hQ : ∀ x y, Q' x y → Q x y ∨ (x = a ∧ y = b)) :
    SetsP w' m (fun s t => if s = (a : Int) ∧ t = (b : Int) then some q else F s t) n css Q' := fun x y hxy => by
  have hoff : ∀ {q' : Nat} {L' : List Bs}, SetAt w q' L' → m < q' → SetAt w' q' L' := fun h1 h2 => h1.grown hu.grown (fun e => by have := Option.some.inj e; omega)
  by_cases he : x = a ∧ y = b
  · obtain ⟨rfl, rfl⟩ := he
    exact ⟨q, L, if_pos ⟨rfl, rfl⟩, hoff hL hq, hq, hz⟩
  · obtain ⟨q', L', h1, h2, h3, h4⟩ := h x y ((hQ x y hxy).resolve_right he)
    exact ⟨q', L', (if_neg (fun e => he ⟨by omega, by omega⟩)).trans h1, hoff h2 h3, h3, h4⟩
theorem iTrueSplice_ok (v : Value) (ms : List MS) (css : List (List Bs)) (b s t : Bs) (hsm : MSmall ms css) (hb : b.length ≤ 1048576 ∧ s.length ≤ 1048576) (ht : t.length ≤ 1048576) (w : World) (h : SqM w v ms css) : Fn 33 [v, kV b s, S t] w (fun r _ => r = tspV ms css b s t) := by
  (refine callsV_of mix Tryz.func33 c_iTrueSplice ?_; simp only [↓vsd, vsn, gW, qd, qv, ev, pick, argE, zipE, ne_eq, eq_self, forall_const, implies_true, if_true, if_false, reduceIte, reduceCtorEq, Nat.reduceEqDiff, Nat.reduceAdd, Nat.reduceLT, ↓us_iTrueSplice, r_iTrueSplice])
  refine m_al ?_
  rintro b1 w1 hb1 hblk1 hx1 hs1
  have h1 : Blk w1 b1 (fQ b s) 27 := hblk1
  simp only [↓vsd, vsn, gW, qd, qv, ev, pick, argE, zipE, ne_eq, eq_self, forall_const, implies_true, if_true, if_false, reduceIte, reduceCtorEq, Nat.reduceEqDiff, Nat.reduceAdd, Nat.reduceLT, ↓us_iTrueSplice, r_iTrueSplice, h1.facts, fQg]
  refine m_call (igoodSplice_ok v ms css b s t hsm hb ht _ (by first | exact h.ext hx1 | exact h.ext (dr hx1))) ?_
  rintro _ w2 hx2 rfl
  have hx2 : Ext w1 w2 := by first | exact hx2 | exact ud hx2 | exact ud (ud hx2)
  have hx12 := hx1.trans hx2
  have h12 := h1.ext hx2
  by_cases hS : SplOk ms css b s t
  · obtain ⟨n, hn, h8⟩ := spl_st hS
    have hnn : (ms.getD 0 MS.nil).st.toNat = n := by rw [hn]; rfl
    have htl := hS.2.2.1
    have hms := hS.1.1
    simp only [↓vsd, vsn, gW, qd, qv, ev, pick, argE, zipE, ne_eq, eq_self, forall_const, implies_true, if_true, if_false, reduceIte, reduceCtorEq, Nat.reduceEqDiff, Nat.reduceAdd, Nat.reduceLT, ↓us_iTrueSplice, r_iTrueSplice, hS, h12.facts, fQg]
    refine m_call (ispliceHeads_ok v ms css b s t n hS hn h8 _ (by first | exact h.ext hx12 | exact h.ext (dr hx12))) ?_
    rintro y w3 hx3 hoy
    have hx3 : Ext w2 w3 := by first | exact hx3 | exact ud hx3 | exact ud (ud hx3)
    have hx13 := hx12.trans hx3
    simp only [↓vsd, vsn, gW, qd, qv, ev, pick, argE, zipE, ne_eq, eq_self, forall_const, implies_true, if_true, if_false, reduceIte, reduceCtorEq, Nat.reduceEqDiff, Nat.reduceAdd, Nat.reduceLT, ↓us_iTrueSplice, r_iTrueSplice]
    refine m_mkmapP ?_
    rintro m w4 hmb hm4 hx4 hs4
    have hx14 := hx13.trans hx4
    have hq4 := h.ext hx14
    have hq4f := hq4.1.facts
    simp only [↓vsd, vsn, gW, qd, qv, ev, pick, argE, zipE, ne_eq, eq_self, forall_const, implies_true, if_true, if_false, reduceIte, reduceCtorEq, Nat.reduceEqDiff, Nat.reduceAdd, Nat.reduceLT, ↓us_iTrueSplice, r_iTrueSplice, hq4f]
    refine m_upto ms.length (fun a vs w' => vs = [.int .i64 a] ∧ (∃ F, MapP w' m F ∧ SetsP w' m F n css fun x y => x < a ∧ y < ms.length) ∧ Ext w3 w') ⟨rfl, ⟨_, hm4, fun x y hh => absurd hh.1 (Nat.not_lt_zero x)⟩, hx4⟩ ?_
    rintro a vs w5 ha ⟨rfl, ⟨F5, hm5, hF5⟩, hx5⟩
    have hx05 := hx13.trans hx5
    have hq5 := h.ext hx05
    have hq5f := hq5.1.facts
    by_cases hla : a < ms.length
    · have hlaI : (a : Int) < ms.length := by omega
      have hlaJ : ¬ (ms.length : Int) ≤ a := by omega
      obtain ⟨hma, hsta⟩ := hS.1.2.1 a hla
      rw [hn] at hsta
      have q5 := hq5.at hla hsta
      simp only [↓vsd, vsn, gW, qd, qv, ev, pick, argE, zipE, ne_eq, eq_self, forall_const, implies_true, if_true, if_false, reduceIte, reduceCtorEq, Nat.reduceEqDiff, Nat.reduceAdd, Nat.reduceLT, ↓us_iTrueSplice, r_iTrueSplice, hlaI, hlaJ, hq5f, q5]
      refine ⟨by omega, m_al ?_⟩
      rintro b6 w6 hb6 hblk6 hx6 hs6
      have hmb6 : b6 ≠ m := by have := hm5.lt; omega
      simp only [↓vsd, vsn, gW, qd, qv, ev, pick, argE, zipE, ne_eq, eq_self, forall_const, implies_true, if_true, if_false, reduceIte, reduceCtorEq, Nat.reduceEqDiff, Nat.reduceAdd, Nat.reduceLT, ↓us_iTrueSplice, r_iTrueSplice]
      refine m_st hblk6 rfl (Nat.le_refl 3) (fM_one _ n _ rfl) ?_
      rintro w7 hblk7 hu7
      have h7 : Blk w7 b6 (fM (ms.getD a MS.nil).nm n (ms.getD a MS.nil).sv.v) 25 := hblk7
      have hx57 : Ext w5 w7 := hu7.below hx6 (by omega)
      have hx37 := hx5.trans hx57
      simp only [↓vsd, vsn, gW, qd, qv, ev, pick, argE, zipE, ne_eq, eq_self, forall_const, implies_true, if_true, if_false, reduceIte, reduceCtorEq, Nat.reduceEqDiff, Nat.reduceAdd, Nat.reduceLT, ↓us_iTrueSplice, r_iTrueSplice, hq5f]
      refine m_upto ms.length (fun c vs w' => vs = [.int .i64 c] ∧ (∃ F, MapP w' m F ∧ SetsP w' m F n css fun x y => (x < a ∧ y < ms.length) ∨ (x = a ∧ y < c)) ∧ Ext w3 w' ∧ Blk w' b6 (fM (ms.getD a MS.nil).nm n (ms.getD a MS.nil).sv.v) 25) ⟨rfl, ⟨F5, hm5.ext hx57, fun x y hh => hF5.ext hx57 x y (hh.resolve_right fun h => absurd h.2 (Nat.not_lt_zero y))⟩, hx37, h7⟩ ?_
      rintro c vs w8 hc ⟨rfl, ⟨F8, hm8, hF8⟩, hx8, h8⟩
      have hx08 := hx13.trans hx8
      have hq8 := h.ext hx08
      have hq8f := hq8.1.facts
      by_cases hlc : c < ms.length
      · have hlcI : (c : Int) < ms.length := by omega
        have hlcJ : ¬ (ms.length : Int) ≤ c := by omega
        obtain ⟨hmc, hstc⟩ := hS.1.2.1 c hlc
        rw [hn] at hstc
        have q8 := hq8.at hlc hstc
        simp only [↓vsd, vsn, gW, qd, qv, ev, pick, argE, zipE, ne_eq, eq_self, forall_const, implies_true, if_true, if_false, reduceIte, reduceCtorEq, Nat.reduceEqDiff, Nat.reduceAdd, Nat.reduceLT, ↓us_iTrueSplice, r_iTrueSplice, hlcI, hlcJ, hq8f, q8]
        refine ⟨by omega, m_al ?_⟩
        rintro b9 w9 hb9 hblk9 hx9 hs9
        simp only [↓vsd, vsn, gW, qd, qv, ev, pick, argE, zipE, ne_eq, eq_self, forall_const, implies_true, if_true, if_false, reduceIte, reduceCtorEq, Nat.reduceEqDiff, Nat.reduceAdd, Nat.reduceLT, ↓us_iTrueSplice, r_iTrueSplice]
        refine m_st hblk9 rfl (Nat.le_refl 3) (fM_one _ n _ rfl) ?_
        rintro w10 hblk10 hu10
        have h10 : Blk w10 b9 (fM (ms.getD c MS.nil).nm n (ms.getD c MS.nil).sv.v) 25 := hblk10
        have hx810 : Ext w8 w10 := hu10.below hx9 (by omega)
        have h810 := h8.ext hx810
        have hx010 := hx08.trans hx810
        have hq10 := h.ext hx010
        simp only [↓vsd, vsn, gW, qd, qv, ev, pick, argE, zipE, ne_eq, eq_self, forall_const, implies_true, if_true, if_false, reduceIte, reduceCtorEq, Nat.reduceEqDiff, Nat.reduceAdd, Nat.reduceLT, ↓us_iTrueSplice, r_iTrueSplice, h10.facts, h810.facts, fMg]
        rw [hsta] at hma
        rw [hstc] at hmc
        refine m_call (ifalseSet_okw _ _ n _ _ (css.getD a []) (css.getD c []) hma hmc _ (by first | exact hq10.2.2 a hla | exact (hq10.2.2 a hla).ext (dr (Ext.refl _))) (by first | exact hq10.2.2 c hlc | exact (hq10.2.2 c hlc).ext (dr (Ext.refl _)))) ?_
        rintro _ w11 hx11 ⟨q, L, rfl, hL, hqb, hz⟩
        have hx11 : Ext w10 w11 := by first | exact hx11 | exact ud hx11 | exact ud (ud hx11)
        have hx811 := hx810.trans hx11
        have hmlt := hm8.lt
        have hx811s := hx810.size
        simp only [↓vsd, vsn, gW, qd, qv, ev, pick, argE, zipE, ne_eq, eq_self, forall_const, implies_true, if_true, if_false, reduceIte, reduceCtorEq, Nat.reduceEqDiff, Nat.reduceAdd, Nat.reduceLT, ↓us_iTrueSplice, r_iTrueSplice]
        refine m_putP (hm8.ext hx811) ?_
        rintro w12 hm12 hu12
        have hx312 : Ext w3 w12 := hu12.below (hx8.trans hx811) (by have := hx4.size; omega)
        have hF12 := (hF8.ext hx811).put (Q' := fun x y => (x < a ∧ y < ms.length) ∨ (x = a ∧ y < c + 1)) hu12 hL (by omega) hz (fun x y hh => by
          rcases hh with hh | ⟨h1, h2⟩
          · exact .inl (.inl hh)
          · by_cases he : y = c
            · exact .inr ⟨h1, he⟩
            · exact .inl (.inr ⟨h1, by omega⟩))
        have h812 := hu12.blk (h8.ext hx811) hmb6
        simp only [↓vsd, vsn, gW, qd, qv, ev, pick, argE, zipE, ne_eq, eq_self, forall_const, implies_true, if_true, if_false, reduceIte, reduceCtorEq, Nat.reduceEqDiff, Nat.reduceAdd, Nat.reduceLT, ↓us_iTrueSplice, r_iTrueSplice]
        exact ⟨inR_i64 (by omega), UpTo.next hlc ⟨rfl, ⟨_, hm12, hF12⟩, hx312, h812⟩⟩
      · obtain rfl : c = ms.length := by omega
        have hlcI : ¬ ((ms.length : Nat) : Int) < ms.length := by omega
        simp only [↓vsd, vsn, gW, qd, qv, ev, pick, argE, zipE, ne_eq, eq_self, forall_const, implies_true, if_true, if_false, reduceIte, reduceCtorEq, Nat.reduceEqDiff, Nat.reduceAdd, Nat.reduceLT, ↓us_iTrueSplice, r_iTrueSplice, hlcI]
        exact ⟨inR_i64 (by omega), UpTo.next hla ⟨rfl, ⟨F8, hm8, fun x y hh => hF8 x y (by
          by_cases he : x < a
          · exact .inl ⟨he, hh.2⟩
          · exact .inr ⟨by omega, hh.2⟩)⟩, hx8⟩⟩
    · obtain rfl : a = ms.length := by omega
      have hlaI : ¬ ((ms.length : Nat) : Int) < ms.length := by omega
      have hd2 : ((t.length : Nat) : Int).tdiv 2 = ((t.length / 2 : Nat) : Int) := rfl
      simp only [↓vsd, vsn, gW, qd, qv, ev, pick, argE, zipE, ne_eq, eq_self, forall_const, implies_true, if_true, if_false, reduceIte, reduceCtorEq, Nat.reduceEqDiff, Nat.reduceAdd, Nat.reduceLT, ↓us_iTrueSplice, r_iTrueSplice, hlaI, hd2]
      refine ⟨⟨by decide, inR_i64 (by omega)⟩, ?_⟩
      refine m_upto (t.length / 2) (fun i vs w' => vs = [.int .i64 i] ∧ TrueS n css b s t i ∧ Ext w5 w') ⟨rfl, fun i hi => absurd hi (Nat.not_lt_zero i), Ext.refl _⟩ ?_
      rintro i vs w6 hi ⟨rfl, hT, hx6⟩
      have hx06 := hx05.trans hx6
      have hq6 := h.ext hx06
      have hq6f := hq6.1.facts
      by_cases hli : i < t.length / 2
      · have hliI : (i : Int) < ((t.length / 2 : Nat) : Int) := by omega
        have hliJ : ¬ ((t.length / 2 : Nat) : Int) ≤ i := by omega
        obtain ⟨hai, hsti, hMi, _⟩ := spl_at hS hn hli
        have q6 := hq6.at hai hsti
        simp only [↓vsd, vsn, gW, qd, qv, ev, pick, argE, zipE, ne_eq, eq_self, forall_const, implies_true, if_true, if_false, reduceIte, reduceCtorEq, Nat.reduceEqDiff, Nat.reduceAdd, Nat.reduceLT, ↓us_iTrueSplice, r_iTrueSplice, hliI, hliJ]
        refine m_call (imethodAt_ok ms.length t i hS.2 hli _) ?_
        rintro _ w7 hx7 rfl
        have hx7 : Ext w6 w7 := by first | exact hx7 | exact ud hx7 | exact ud (ud hx7)
        have hq7 := hq6.ext hx7
        have q7 := hq7.at hai hsti
        simp only [↓vsd, vsn, gW, qd, qv, ev, pick, argE, zipE, ne_eq, eq_self, forall_const, implies_true, if_true, if_false, reduceIte, reduceCtorEq, Nat.reduceEqDiff, Nat.reduceAdd, Nat.reduceLT, ↓us_iTrueSplice, r_iTrueSplice, hq6f, q6, q7]
        refine ⟨by omega, m_call (ileadTrue_ok _ n _ (css.getD (mA t i) []) hMi.1 _ (by first | exact hq7.2.2 _ hai | exact (hq7.2.2 _ hai).ext (dr (Ext.refl _)))) ?_⟩
        rintro _ w8 hx8 rfl
        have hx8 : Ext w7 w8 := by first | exact hx8 | exact ud hx8 | exact ud (ud hx8)
        have hx68 := hx7.trans hx8
        have hx08 := hx06.trans hx68
        by_cases hN : (leadR n (css.getD (mA t i) [])).Nodup
        · have hNd : decide (leadR n (css.getD (mA t i) [])).Nodup = true := decide_eq_true hN
          simp only [↓vsd, vsn, gW, qd, qv, ev, pick, argE, zipE, ne_eq, eq_self, forall_const, implies_true, if_true, if_false, reduceIte, reduceCtorEq, Nat.reduceEqDiff, Nat.reduceAdd, Nat.reduceLT, ↓us_iTrueSplice, r_iTrueSplice, hNd]
          refine m_upto i (fun j vs w' => vs = [.int .i64 j] ∧ (∀ x < j, timesL (turnL (hdS n css b s t x)) (hdS n css b s t i) ∉ falseL (leadR n (css.getD (mA t x) [])) (leadR n (css.getD (mA t i) []))) ∧ Ext w5 w') ⟨rfl, fun x hx => absurd hx (Nat.not_lt_zero x), hx6.trans hx68⟩ ?_
          rintro j vs w9 hj ⟨rfl, hno, hx9⟩
          by_cases hlj : j < i
          · have hljI : (j : Int) < i := by omega
            have hljJ : ¬ (i : Int) ≤ j := by omega
            have hyl := hdsS_len n css b s t (t.length / 2 + 1)
            have hy9 := hoy.sq.ext (hx5.trans hx9)
            have hy9f := hy9.facts
            rw [hyl] at hy9f
            have y9j := hy9.at1 [] (i := j) (by rw [hyl]; omega)
            have y9i := hy9.at1 [] (i := i) (by rw [hyl]; omega)
            rw [hdsS_get n css b s t _ _ (by omega)] at y9j y9i
            obtain ⟨haj, hstj, hMj, _⟩ := spl_at hS hn (show j < t.length / 2 by omega)
            have hrj := hdS_row hS hn h8 j (by omega)
            have hri := hdS_row hS hn h8 i (by omega)
            simp only [↓vsd, vsn, gW, qd, qv, ev, pick, argE, zipE, ne_eq, eq_self, forall_const, implies_true, if_true, if_false, reduceIte, reduceCtorEq, Nat.reduceEqDiff, Nat.reduceAdd, Nat.reduceLT, ↓us_iTrueSplice, r_iTrueSplice, hljI, hljJ, hy9f, y9j, y9i]
            refine ⟨by omega, by omega, ?_⟩
            refine m_call (imethodAt_ok ms.length t j hS.2 (by omega) _) ?_
            rintro _ w10 hx10 rfl
            simp only [↓vsd, vsn, gW, qd, qv, ev, pick, argE, zipE, ne_eq, eq_self, forall_const, implies_true, if_true, if_false, reduceIte, reduceCtorEq, Nat.reduceEqDiff, Nat.reduceAdd, Nat.reduceLT, ↓us_iTrueSplice, r_iTrueSplice]
            refine m_call (imethodAt_ok ms.length t i hS.2 hli _) ?_
            rintro _ w11 hx11 rfl
            obtain ⟨q, L, hFq, hL9, hmq, hz⟩ := hF5.ext hx9 (mA t j) (mA t i) ⟨haj, hai⟩
            have k9 := (hm5.ext hx9).look hFq
            unfold pairV at k9
            have e9 := hL9.look (timesL (turnL (hdS n css b s t j)) (hdS n css b s t i))
            simp only [↓vsd, vsn, gW, qd, qv, ev, pick, argE, zipE, ne_eq, eq_self, forall_const, implies_true, if_true, if_false, reduceIte, reduceCtorEq, Nat.reduceEqDiff, Nat.reduceAdd, Nat.reduceLT, ↓us_iTrueSplice, r_iTrueSplice, k9]
            refine m_call (iturned_ok _ hrj.1 _) ?_
            rintro _ w12 hx12 rfl
            simp only [↓vsd, vsn, gW, qd, qv, ev, pick, argE, zipE, ne_eq, eq_self, forall_const, implies_true, if_true, if_false, reduceIte, reduceCtorEq, Nat.reduceEqDiff, Nat.reduceAdd, Nat.reduceLT, ↓us_iTrueSplice, r_iTrueSplice]
            refine m_call (itimes_ok _ _ hri.1 (by rw [turnL_len, hrj.2, hri.2]) _) ?_
            rintro _ w13 hx13' rfl
            have hx913 : Ext w9 w13 := (((hx10.trans hx11).trans hx12).trans hx13') |> ud
            have hxe : Ext w w13 := (hx05.trans hx9).trans hx913
            by_cases hin : timesL (turnL (hdS n css b s t j)) (hdS n css b s t i) ∈ L
            · have hind := decide_eq_true hin
              simp only [↓vsd, vsn, gW, qd, qv, ev, pick, argE, zipE, ne_eq, eq_self, forall_const, implies_true, if_true, if_false, reduceIte, reduceCtorEq, Nat.reduceEqDiff, Nat.reduceAdd, Nat.reduceLT, ↓us_iTrueSplice, r_iTrueSplice, e9, hind]
              refine ⟨hxe, ?_⟩
              rw [tspV, tspB, decide_eq_true hS, hnn, decide_eq_false (fun hh => ((hh i hli).2 j hlj) ((hz _).1 hin))]; rfl
            · have hind := decide_eq_false hin
              simp only [↓vsd, vsn, gW, qd, qv, ev, pick, argE, zipE, ne_eq, eq_self, forall_const, implies_true, if_true, if_false, reduceIte, reduceCtorEq, Nat.reduceEqDiff, Nat.reduceAdd, Nat.reduceLT, ↓us_iTrueSplice, r_iTrueSplice, e9, hind]
              refine ⟨inR_i64 (by omega), UpTo.next hlj ⟨rfl, fun x hx => ?_, hx9.trans hx913⟩⟩
              by_cases he : x = j
              · subst he; exact fun hh => hin ((hz _).2 hh)
              · exact hno x (by omega)
          · obtain rfl : j = i := by omega
            have hljI : ¬ (j : Int) < j := by omega
            simp only [↓vsd, vsn, gW, qd, qv, ev, pick, argE, zipE, ne_eq, eq_self, forall_const, implies_true, if_true, if_false, reduceIte, reduceCtorEq, Nat.reduceEqDiff, Nat.reduceAdd, Nat.reduceLT, ↓us_iTrueSplice, r_iTrueSplice, hljI]
            refine ⟨inR_i64 (by omega), UpTo.next hli ⟨rfl, fun x hx => ?_, hx9⟩⟩
            by_cases he : x = j
            · subst he; exact ⟨hN, hno⟩
            · exact hT x (by omega)
        · have hNd : decide (leadR n (css.getD (mA t i) [])).Nodup = false := decide_eq_false hN
          simp only [↓vsd, vsn, gW, qd, qv, ev, pick, argE, zipE, ne_eq, eq_self, forall_const, implies_true, if_true, if_false, reduceIte, reduceCtorEq, Nat.reduceEqDiff, Nat.reduceAdd, Nat.reduceLT, ↓us_iTrueSplice, r_iTrueSplice, hNd]
          refine ⟨hx08, ?_⟩
          rw [tspV, tspB, decide_eq_true hS, hnn, decide_eq_false (fun hh => hN (hh i hli).1)]; rfl
      · obtain rfl : i = t.length / 2 := by omega
        have hliI : ¬ ((t.length / 2 : Nat) : Int) < ((t.length / 2 : Nat) : Int) := by omega
        simp only [↓vsd, vsn, gW, qd, qv, ev, pick, argE, zipE, ne_eq, eq_self, forall_const, implies_true, if_true, if_false, reduceIte, reduceCtorEq, Nat.reduceEqDiff, Nat.reduceAdd, Nat.reduceLT, ↓us_iTrueSplice, r_iTrueSplice, hliI]
        refine ⟨hx06, ?_⟩
        rw [tspV, tspB, decide_eq_true hS, hnn, decide_eq_true hT]; rfl
  · have hno : tspV ms css b s t = .tuple ⟨[.bool false, .bool false]⟩ := by rw [tspV, tspB, decide_eq_false hS]; rfl
    simp only [↓vsd, vsn, gW, qd, qv, ev, pick, argE, zipE, ne_eq, eq_self, forall_const, implies_true, if_true, if_false, reduceIte, reduceCtorEq, Nat.reduceEqDiff, Nat.reduceAdd, Nat.reduceLT, ↓us_iTrueSplice, r_iTrueSplice, hS, hno]
    exact hx12
end Go.Proofs.YthopbkemkfjebaaGreat
