/-
  Paths of bells, of both sides.
  Conditions: none.
-/
import Derived.Test.YtpnopboffalfnaaA29
import Derived.Test.YtpnopboffalfnaaA11
import Derived.Test.YtpnopboffalfnaaVw
set_option linter.unusedSimpArgs false
set_option linter.unusedVariables false
set_option linter.defProp false
namespace Go.Proofs.Ytpnopboffalfnaa
open Go Go.RowKit
section
variable (P : Program) (k : KT) (e : Env) (w : World)
abbrev b205_1 : X := (.reg [1, 5, 14, 15, 16] (.c (.q 20 [] (.mv (.t 5))) (.c (.q 21 [] (.mv (.t 7))) (.c (.q 22 [] (.mv (.t 1))) (.c (.e (some 23) [] (.call false 290 [(.t 21), (.t 22)])) (.c (.e (some 24) [] (.bsl 3 1 [(.t 23)])) (.c (.e (some 25) [] (.app 69 3 1 8 [(.int .i64 0)] 69 (.t 20) (.t 24))) (.c (.q 5 [] (.mv (.t 25))) .nil))))))))
def t205_1 := b205_1
theorem u205_1 : vcK P t205_1 k e w = vcK P b205_1 k e w := rfl
abbrev b205_2 : X := (.reg [1, 5, 14, 15, 16] (.c (.q 26 [] (.bin .add (.t 16) (.c (.int .i64 1)))) (.c (.q 16 [] (.mv (.t 26))) .nil)))
def t205_2 := b205_2
theorem u205_2 : vcK P t205_2 k e w = vcK P b205_2 k e w := rfl
abbrev b205_3 : X := (.seq (.blk 1 (.seq (.reg [1, 5, 7, 14, 15, 16] (.c (.q 18 [] (.ia 1 (.t 14) (.t 16))) (.c (.q 19 [] (.ld (.t 18))) (.c (.q 7 [] (.mv (.t 19))) .nil)))) t205_1)) t205_2)
def t205_3 := b205_3
theorem u205_3 : vcK P t205_3 k e w = vcK P b205_3 k e w := rfl
abbrev b205_4 : X := (.seq (.cond (.t 17) .skip (.exit 0)) t205_3)
def t205_4 := b205_4
theorem u205_4 : vcK P t205_4 k e w = vcK P b205_4 k e w := rfl
abbrev b205_5 : X := (.seq (.reg [1, 5, 14, 15, 16, 17] (.c (.q 17 [] (.bin .lss (.t 16) (.t 15))) .nil)) t205_4)
def t205_5 := b205_5
theorem u205_5 : vcK P t205_5 k e w = vcK P b205_5 k e w := rfl
abbrev b205_6 : X := (.blk 0 (.loop [5, 16] [1, 14, 15] t205_5))
def t205_6 := b205_6
theorem u205_6 : vcK P t205_6 k e w = vcK P b205_6 k e w := rfl
abbrev b205_7 : X := (.seq (.reg [4] (.c (.q 27 [] (.mv (.t 5))) (.c (.q 4 [] (.mv (.t 27))) .nil))) .ret)
def t205_7 := b205_7
theorem u205_7 : vcK P t205_7 k e w = vcK P b205_7 k e w := rfl
abbrev b205_8 : X := (.seq (.seq (.drw [1, 5, 14, 15, 16] (.c (.q 9 [] (.fa 1 (.t 2))) (.c (.q 10 [] (.ld (.t 9))) (.c (.q 12 [] (.fa 2 (.t 2))) (.c (.q 13 [] (.ld (.t 12))) (.c (.q 16 [] (.mv (.c (.int .i64 0)))) (.c (.e (some 11) [] (.call false 178 [(.t 10)])) (.c (.e (some 14) [] (.call false 278 [(.t 11), (.t 13)])) (.c (.q 15 [] (.lens (.t 14))) .nil))))))))) t205_6) t205_7)
def t205_8 := b205_8
theorem u205_8 : vcK P t205_8 k e w = vcK P b205_8 k e w := rfl
abbrev b205_9 : X := (.seq (.reg [1, 2, 5] (.c (.e (some 8) [] (.bsl 3 1 [])) (.c (.q 5 [] (.mv (.t 8))) .nil))) t205_8)
def t205_9 := b205_9
theorem u205_9 : vcK P t205_9 k e w = vcK P b205_9 k e w := rfl
abbrev b205_0 : X := (.seq (.reg [1, 2] (.c (.e (some 2) [] (.box 41 (.t 0))) (.c (.q 4 [] (.mv (.c (.slice none 0 0)))) .nil))) t205_9)
def x_ipathOf := b205_0
theorem u205_0 : vcK P x_ipathOf k e w = vcK P b205_0 k e w := rfl
def r_ipathOf : List XO := [(.mv (.t 4))]
theorem c_ipathOf : convF Try.prog [169, 170, 207, 208, 210, 227, 232, 233, 255, 259, 268, 269, 270, 280, 281, 296, 299, 306, 307, 309] Try.f205 [([1, 2], []), ([1, 2, 5], []), ([1, 5, 14, 15, 16], []), ([5, 16], [1, 14, 15]), ([1, 5, 14, 15, 16, 17], []), ([1, 5, 7, 14, 15, 16], []), ([1, 5, 14, 15, 16], []), ([1, 5, 14, 15, 16], []), ([4], [])] = some (x_ipathOf, r_ipathOf) := by kernel_rfl
def us_ipathOf := aI @u205_0 (aI @u205_1 (aI @u205_2 (aI @u205_3 (aI @u205_4 (aI @u205_5 (aI @u205_6 (aI @u205_7 (aI @u205_8 @u205_9))))))))
abbrev b67_1 : X := (.cond (.t 15) (.seq (.reg [4, 5] (.c (.q 4 [] (.mv (.c (.slice none 0 0)))) (.c (.q 5 [] (.mv (.c (.bool false)))) .nil))) .ret) .skip)
def t67_1 := b67_1
theorem u67_1 : vcK P t67_1 k e w = vcK P b67_1 k e w := rfl
abbrev b67_2 : X := (.seq (.reg [4, 5] (.c (.q 16 [] (.lda 3 (.t 2))) (.c (.q 17 [] (.mv (.t 1))) (.c (.e (some 18) [] (.call false 205 [(.t 16), (.t 17)])) (.c (.q 4 [] (.mv (.t 18))) (.c (.q 5 [] (.mv (.c (.bool true)))) .nil)))))) .ret)
def t67_2 := b67_2
theorem u67_2 : vcK P t67_2 k e w = vcK P b67_2 k e w := rfl
abbrev b67_3 : X := (.seq (.seq (.reg [1, 2, 15] (.c (.q 6 [] (.lda 3 (.t 2))) (.c (.e (some 7) [] (.call false 113 [(.t 6)])) (.c (.q 8 [] (.not (.t 7))) (.c (.q 9 [] (.mv (.t 8))) (.c (.q 10 [(9, false)] (.fa 1 (.t 2))) (.c (.q 11 [(9, false)] (.ld (.t 10))) (.c (.q 12 [(9, false)] (.mv (.t 1))) (.c (.e (some 13) [(9, false)] (.call false 201 [(.t 11), (.t 12)])) (.c (.q 14 [(9, false)] (.not (.t 13))) (.c (.q 15 [] (.pick (.t 9) (.c (.bool true)) (.t 14))) .nil))))))))))) t67_1) t67_2)
def t67_3 := b67_3
theorem u67_3 : vcK P t67_3 k e w = vcK P b67_3 k e w := rfl
abbrev b67_0 : X := (.seq (.reg [1, 2] (.c (.e (some 2) [] (.box 41 (.t 0))) (.c (.q 4 [] (.mv (.c (.slice none 0 0)))) (.c (.q 5 [] (.mv (.c (.bool false)))) .nil)))) t67_3)
def x_iPathOf := b67_0
theorem u67_0 : vcK P x_iPathOf k e w = vcK P b67_0 k e w := rfl
def r_iPathOf : List XO := [(.mv (.t 4)), (.mv (.t 5))]
theorem c_iPathOf : convF Try.prog [169, 170, 207, 208, 210, 227, 232, 233, 255, 259, 268, 269, 270, 280, 281, 296, 299, 306, 307, 309] Try.f67 [([1, 2], []), ([1, 2, 15], []), ([4, 5], []), ([4, 5], [])] = some (x_iPathOf, r_iPathOf) := by kernel_rfl
def us_iPathOf := aI @u67_0 (aI @u67_1 (aI @u67_2 @u67_3))
abbrev b291_1 : X := (.cond (.t 9) .skip (.exit 0))
def t291_1 := b291_1
theorem u291_1 : vcK P t291_1 k e w = vcK P b291_1 k e w := rfl
abbrev b291_2 : X := (.cond (.t 16) (.seq (.reg [4] (.c (.q 17 [] (.mv (.t 5))) (.c (.q 4 [] (.mv (.t 17))) .nil))) .ret) .skip)
def t291_2 := b291_2
theorem u291_2 : vcK P t291_2 k e w = vcK P b291_2 k e w := rfl
abbrev b291_3 : X := (.reg [0, 1, 5] (.c (.q 10 [] (.mv (.t 5))) (.c (.q 11 [] (.bin .add (.t 10) (.c (.int .i64 1)))) (.c (.q 5 [] (.mv (.t 11))) .nil))))
def t291_3 := b291_3
theorem u291_3 : vcK P t291_3 k e w = vcK P b291_3 k e w := rfl
abbrev b291_4 : X := (.seq (.blk 1 (.seq (.reg [0, 1, 5, 16] (.c (.q 12 [] (.mv (.t 0))) (.c (.q 13 [] (.mv (.t 5))) (.c (.e (some 14) [] (.call false 252 [(.t 12), (.t 13)])) (.c (.q 15 [] (.mv (.t 1))) (.c (.q 16 [] (.bin .eql (.t 14) (.t 15))) .nil)))))) t291_2)) t291_3)
def t291_4 := b291_4
theorem u291_4 : vcK P t291_4 k e w = vcK P b291_4 k e w := rfl
abbrev b291_5 : X := (.seq (.seq (.reg [0, 1, 5, 9] (.c (.q 6 [] (.mv (.t 5))) (.c (.q 7 [] (.mv (.t 0))) (.c (.q 8 [] (.len (.t 7))) (.c (.q 9 [] (.bin .leq (.t 6) (.t 8))) .nil))))) t291_1) t291_4)
def t291_5 := b291_5
theorem u291_5 : vcK P t291_5 k e w = vcK P b291_5 k e w := rfl
abbrev b291_6 : X := (.blk 0 (.loop [5] [0, 1] t291_5))
def t291_6 := b291_6
theorem u291_6 : vcK P t291_6 k e w = vcK P b291_6 k e w := rfl
abbrev b291_7 : X := (.seq (.reg [4] (.c (.q 4 [] (.mv (.c (.int .i64 0)))) .nil)) .ret)
def t291_7 := b291_7
theorem u291_7 : vcK P t291_7 k e w = vcK P b291_7 k e w := rfl
abbrev b291_8 : X := (.seq (.seq (.reg [0, 1, 5] (.c (.q 5 [] (.mv (.c (.int .i64 1)))) .nil)) t291_6) t291_7)
def t291_8 := b291_8
theorem u291_8 : vcK P t291_8 k e w = vcK P b291_8 k e w := rfl
abbrev b291_0 : X := (.seq (.reg [0, 1] (.c (.q 4 [] (.mv (.c (.int .i64 0)))) .nil)) t291_8)
def x_sl5Place := b291_0
theorem u291_0 : vcK P x_sl5Place k e w = vcK P b291_0 k e w := rfl
def r_sl5Place : List XO := [(.mv (.t 4))]
theorem c_sl5Place : convF Try.prog [169, 170, 207, 208, 210, 227, 232, 233, 255, 259, 268, 269, 270, 280, 281, 296, 299, 306, 307, 309] Try.f291 [([0, 1], []), ([0, 1, 5], []), ([5], [0, 1]), ([0, 1, 5, 9], []), ([0, 1, 5, 16], []), ([4], []), ([0, 1, 5], []), ([4], [])] = some (x_sl5Place, r_sl5Place) := by kernel_rfl
def us_sl5Place := aI @u291_0 (aI @u291_1 (aI @u291_2 (aI @u291_3 (aI @u291_4 (aI @u291_5 (aI @u291_6 (aI @u291_7 @u291_8)))))))
abbrev b203_1 : X := (.seq (.reg [4] (.c (.q 5 [] (.lda 3 (.t 2))) (.c (.e (some 6) [] (.call false 166 [(.t 5)])) (.c (.q 7 [] (.mv (.t 6))) (.c (.q 8 [(7, true)] (.mv (.t 1))) (.c (.q 9 [(7, true)] (.fa 1 (.t 2))) (.c (.q 10 [(7, true)] (.ld (.t 9))) (.c (.e (some 11) [(7, true)] (.call false 173 [(.t 8), (.c (.int .i64 1)), (.t 10)])) (.c (.q 12 [] (.pick (.t 7) (.t 11) (.c (.bool false)))) (.c (.q 4 [] (.mv (.t 12))) .nil)))))))))) .ret)
def t203_1 := b203_1
theorem u203_1 : vcK P t203_1 k e w = vcK P b203_1 k e w := rfl
abbrev b203_0 : X := (.seq (.reg [1, 2] (.c (.e (some 2) [] (.box 41 (.t 0))) (.c (.q 4 [] (.mv (.c (.bool false)))) .nil))) t203_1)
def x_sl5Asked := b203_0
theorem u203_0 : vcK P x_sl5Asked k e w = vcK P b203_0 k e w := rfl
def r_sl5Asked : List XO := [(.mv (.t 4))]
theorem c_sl5Asked : convF Try.prog [169, 170, 207, 208, 210, 227, 232, 233, 255, 259, 268, 269, 270, 280, 281, 296, 299, 306, 307, 309] Try.f203 [([1, 2], []), ([4], [])] = some (x_sl5Asked, r_sl5Asked) := by kernel_rfl
def us_sl5Asked := aI @u203_0 @u203_1
abbrev b206_1 : X := (.reg [1, 6, 7, 19, 20, 21] (.c (.q 25 [] (.mv (.t 7))) (.c (.q 26 [] (.mv (.t 9))) (.c (.q 27 [] (.mv (.t 1))) (.c (.e (some 28) [] (.call false 291 [(.t 26), (.t 27)])) (.c (.e (some 29) [] (.bsl 3 1 [(.t 28)])) (.c (.e (some 30) [] (.app 69 3 1 8 [(.int .i64 0)] 69 (.t 25) (.t 29))) (.c (.q 7 [] (.mv (.t 30))) .nil))))))))
def t206_1 := b206_1
theorem u206_1 : vcK P t206_1 k e w = vcK P b206_1 k e w := rfl
abbrev b206_2 : X := (.reg [1, 6, 7, 19, 20, 21] (.c (.q 31 [] (.bin .add (.t 21) (.c (.int .i64 1)))) (.c (.q 21 [] (.mv (.t 31))) .nil)))
def t206_2 := b206_2
theorem u206_2 : vcK P t206_2 k e w = vcK P b206_2 k e w := rfl
abbrev b206_3 : X := (.seq (.blk 1 (.seq (.reg [1, 6, 7, 9, 19, 20, 21] (.c (.q 23 [] (.ia 1 (.t 19) (.t 21))) (.c (.q 24 [] (.ld (.t 23))) (.c (.q 9 [] (.mv (.t 24))) .nil)))) t206_1)) t206_2)
def t206_3 := b206_3
theorem u206_3 : vcK P t206_3 k e w = vcK P b206_3 k e w := rfl
abbrev b206_4 : X := (.seq (.cond (.t 22) .skip (.exit 0)) t206_3)
def t206_4 := b206_4
theorem u206_4 : vcK P t206_4 k e w = vcK P b206_4 k e w := rfl
abbrev b206_5 : X := (.seq (.reg [1, 6, 7, 19, 20, 21, 22] (.c (.q 22 [] (.bin .lss (.t 21) (.t 20))) .nil)) t206_4)
def t206_5 := b206_5
theorem u206_5 : vcK P t206_5 k e w = vcK P b206_5 k e w := rfl
abbrev b206_6 : X := (.blk 0 (.loop [7, 21] [1, 6, 19, 20] t206_5))
def t206_6 := b206_6
theorem u206_6 : vcK P t206_6 k e w = vcK P b206_6 k e w := rfl
abbrev b206_7 : X := (.seq (.reg [4] (.c (.q 32 [] (.mv (.t 7))) (.c (.q 33 [] (.mv (.t 6))) (.c (.q 34 [] (.mv (.t 1))) (.c (.e (some 35) [] (.call false 291 [(.t 33), (.t 34)])) (.c (.e (some 36) [] (.bsl 3 1 [(.t 35)])) (.c (.e (some 37) [] (.app 69 3 1 8 [(.int .i64 0)] 69 (.t 32) (.t 36))) (.c (.q 4 [] (.mv (.t 37))) .nil)))))))) .ret)
def t206_7 := b206_7
theorem u206_7 : vcK P t206_7 k e w = vcK P b206_7 k e w := rfl
abbrev b206_8 : X := (.seq (.seq (.reg [1, 6, 7, 19, 20, 21] (.c (.q 19 [] (.mv (.t 5))) (.c (.q 20 [] (.lens (.t 19))) (.c (.q 21 [] (.mv (.c (.int .i64 0)))) .nil)))) t206_6) t206_7)
def t206_8 := b206_8
theorem u206_8 : vcK P t206_8 k e w = vcK P b206_8 k e w := rfl
abbrev b206_9 : X := (.seq (.reg [1, 5, 6, 7] (.c (.q 7 [] (.mv (.c (.slice none 0 0)))) .nil)) t206_8)
def t206_9 := b206_9
theorem u206_9 : vcK P t206_9 k e w = vcK P b206_9 k e w := rfl
abbrev b206_10 : X := (.seq (.drw [1, 5, 6] (.c (.q 11 [] (.fa 2 (.t 2))) (.c (.q 12 [] (.ld (.t 11))) (.c (.q 13 [] (.fa 1 (.t 2))) (.c (.q 14 [] (.ld (.t 13))) (.c (.e (some 15) [] (.call false 165 [(.t 14)])) (.c (.e (some 16) [] (.call false 234 [(.t 12), (.t 15)])) (.c (.q 10 [] (.mv (.t 16))) (.c (.q 17 [] (.ext 0 (.t 10))) (.c (.q 18 [] (.ext 1 (.t 10))) (.c (.q 5 [] (.mv (.t 17))) (.c (.q 6 [] (.mv (.t 18))) .nil)))))))))))) t206_9)
def t206_10 := b206_10
theorem u206_10 : vcK P t206_10 k e w = vcK P b206_10 k e w := rfl
abbrev b206_0 : X := (.seq (.reg [1, 2] (.c (.e (some 2) [] (.box 41 (.t 0))) (.c (.q 4 [] (.mv (.c (.slice none 0 0)))) .nil))) t206_10)
def x_sl5Path := b206_0
theorem u206_0 : vcK P x_sl5Path k e w = vcK P b206_0 k e w := rfl
def r_sl5Path : List XO := [(.mv (.t 4))]
theorem c_sl5Path : convF Try.prog [169, 170, 207, 208, 210, 227, 232, 233, 255, 259, 268, 269, 270, 280, 281, 296, 299, 306, 307, 309] Try.f206 [([1, 2], []), ([1, 5, 6], []), ([1, 5, 6, 7], []), ([1, 6, 7, 19, 20, 21], []), ([7, 21], [1, 6, 19, 20]), ([1, 6, 7, 19, 20, 21, 22], []), ([1, 6, 7, 9, 19, 20, 21], []), ([1, 6, 7, 19, 20, 21], []), ([1, 6, 7, 19, 20, 21], []), ([4], [])] = some (x_sl5Path, r_sl5Path) := by kernel_rfl
def us_sl5Path := aI @u206_0 (aI @u206_1 (aI @u206_2 (aI @u206_3 (aI @u206_4 (aI @u206_5 (aI @u206_6 (aI @u206_7 (aI @u206_8 (aI @u206_9 @u206_10)))))))))
abbrev b98_1 : X := (.cond (.t 9) (.seq (.reg [4, 5] (.c (.q 4 [] (.mv (.c (.slice none 0 0)))) (.c (.q 5 [] (.mv (.c (.bool false)))) .nil))) .ret) .skip)
def t98_1 := b98_1
theorem u98_1 : vcK P t98_1 k e w = vcK P b98_1 k e w := rfl
abbrev b98_2 : X := (.seq (.reg [4, 5] (.c (.q 10 [] (.lda 3 (.t 2))) (.c (.q 11 [] (.mv (.t 1))) (.c (.e (some 12) [] (.call false 206 [(.t 10), (.t 11)])) (.c (.q 4 [] (.mv (.t 12))) (.c (.q 5 [] (.mv (.c (.bool true)))) .nil)))))) .ret)
def t98_2 := b98_2
theorem u98_2 : vcK P t98_2 k e w = vcK P b98_2 k e w := rfl
abbrev b98_3 : X := (.seq (.seq (.reg [1, 2, 9] (.c (.q 6 [] (.lda 3 (.t 2))) (.c (.q 7 [] (.mv (.t 1))) (.c (.e (some 8) [] (.call false 203 [(.t 6), (.t 7)])) (.c (.q 9 [] (.not (.t 8))) .nil))))) t98_1) t98_2)
def t98_3 := b98_3
theorem u98_3 : vcK P t98_3 k e w = vcK P b98_3 k e w := rfl
abbrev b98_0 : X := (.seq (.reg [1, 2] (.c (.e (some 2) [] (.box 41 (.t 0))) (.c (.q 4 [] (.mv (.c (.slice none 0 0)))) (.c (.q 5 [] (.mv (.c (.bool false)))) .nil)))) t98_3)
def x_sPathOf := b98_0
theorem u98_0 : vcK P x_sPathOf k e w = vcK P b98_0 k e w := rfl
def r_sPathOf : List XO := [(.mv (.t 4)), (.mv (.t 5))]
theorem c_sPathOf : convF Try.prog [169, 170, 207, 208, 210, 227, 232, 233, 255, 259, 268, 269, 270, 280, 281, 296, 299, 306, 307, 309] Try.f98 [([1, 2], []), ([1, 2, 9], []), ([4, 5], []), ([4, 5], [])] = some (x_sPathOf, r_sPathOf) := by kernel_rfl
def us_sPathOf := aI @u98_0 (aI @u98_1 (aI @u98_2 @u98_3))
end

/-- The places of a bell in some rows. -/
def pathP (R : List (List UInt8)) (b : Int) : List Int := R.map fun r => (plcL r b : Nat)
theorem pathP_len (R : List (List UInt8)) (b : Int) : (pathP R b).length = R.length := by rw [pathP, List.length_map]
theorem pathP_snoc (R : List (List UInt8)) (b : Int) (k : Nat) (h : k < R.length) : pathP (R.take (k + 1)) b = pathP (R.take k) b ++ [((plcL (R.getD k []) b : Nat) : Int)] := by
  rw [pathP, List.take_add_one, List.getElem?_eq_getElem h, List.getD_eq_getElem?_getD, List.getElem?_eq_getElem h, List.map_append]
  rfl
theorem row_low {r : List UInt8} (h : IsRow r) : ∀ c ∈ r, 48 ≤ c.toNat := fun c hc => by
  obtain ⟨i, hi, rfl⟩ := List.getElem_of_mem hc
  have := h.low hi
  rw [List.getD_eq_getElem?_getD, List.getElem?_eq_getElem hi] at this
  exact Nat.le_trans (by decide) this
theorem rowsU_rows {l : List UInt8} (h : IsRow l) (cs : List (List UInt8)) (k : Nat) : ∀ r ∈ rowsU l cs k, IsRow r ∧ r.length = l.length := fun r hr => by
  obtain ⟨i, hi, rfl⟩ := List.mem_map.1 hr
  exact ⟨underL_row _ h, underL_len _ _⟩
theorem ipathOf_ok (nm : List UInt8) (st : Nat) (v : Value) (cs : List (List UInt8)) (b : Int) (hm : IsMethod nm st cs) (w : World) (h : Sq fS 1 w v cs) : Fn 205 [mV nm st v, .int .i64 b] w (fun r w' => Own fI 1 3 w.heap.size w' r (pathP (rowsU (roundsL st) cs (cs.length + 1)) b)) := by
  (refine callsV_of mix Try.func205 c_ipathOf ?_; simp only [↓vsd, vsn, gW, qd, qv, ev, pick, argE, zipE, ne_eq, eq_self, forall_const, implies_true, if_true, if_false, reduceIte, reduceCtorEq, Nat.reduceEqDiff, Nat.reduceAdd, Nat.reduceLT, ↓us_ipathOf, r_ipathOf])
  refine m_al ?_
  rintro b1 w1 hb1 hblk1 hx1 hs1
  have h1 : Blk w1 b1 (fM nm st v) 41 := hblk1
  simp only [↓vsd, vsn, gW, qd, qv, ev, pick, argE, zipE, ne_eq, eq_self, forall_const, implies_true, if_true, if_false, reduceIte, reduceCtorEq, Nat.reduceEqDiff, Nat.reduceAdd, Nat.reduceLT, ↓us_ipathOf, r_ipathOf, h1.facts, fMg]
  have h8 := hm.2.1
  have hcl := hm.2.2.1
  refine m_bsl (by simp) ?_
  rintro b2 w2 hb2 hblk2 hx2 hs2
  have h12 := h1.ext hx2
  have hx12 := hx1.trans hx2
  have ho2 : Own fI 1 3 w.heap.size w2 (.slice (some ⟨b2, 0, none⟩) 0 0) ([] : List Int) := (Own.empty fI_len hblk2 (by have := hx1.size; omega)).to (by simp)
  simp only [↓vsd, vsn, gW, qd, qv, ev, pick, argE, zipE, ne_eq, eq_self, forall_const, implies_true, if_true, if_false, reduceIte, reduceCtorEq, Nat.reduceEqDiff, Nat.reduceAdd, Nat.reduceLT, ↓us_ipathOf, r_ipathOf, h12.facts, fMg]
  refine m_call (irounds_ok st (by omega) _) ?_
  rintro _ w3 hx3 rfl
  have hx3 := ud hx3
  have h13 := h12.ext hx3
  have hx13 := hx12.trans hx3
  simp only [↓vsd, vsn, gW, qd, qv, ev, pick, argE, zipE, ne_eq, eq_self, forall_const, implies_true, if_true, if_false, reduceIte, reduceCtorEq, Nat.reduceEqDiff, Nat.reduceAdd, Nat.reduceLT, ↓us_ipathOf, r_ipathOf, h13.facts, fMg]
  refine m_call (irowsUnder_ok _ v cs st (roundsL_row st (by omega)) hm.2.2.2 hm.2.2.1.2 _ (h.ext hx13)) ?_
  rintro y w4 hx4 ho4
  have hx14 := hx13.trans hx4
  have ho24 := (ho2.ext hx3).ext hx4
  have hRl := rowsU_len (roundsL st) cs (cs.length + 1)
  have hRr := rowsU_rows (roundsL_row st (by omega)) cs (cs.length + 1)
  simp only [↓vsd, vsn, gW, qd, qv, ev, pick, argE, zipE, ne_eq, eq_self, forall_const, implies_true, if_true, if_false, reduceIte, reduceCtorEq, Nat.reduceEqDiff, Nat.reduceAdd, Nat.reduceLT, ↓us_ipathOf, r_ipathOf, ho4.sq.facts]
  generalize rowsU (roundsL st) cs (cs.length + 1) = R at *
  refine m_upto R.length (fun k vs w' => ∃ x, vs = [x, .int .i64 k] ∧ Own fI 1 3 w.heap.size w' x (pathP (R.take k) b) ∧ Ext w w' ∧ Own fS 1 9 w3.heap.size w' y R ∧ ∀ c, x.ownBlock = some c → Away y c) ⟨_, rfl, ho24.to rfl, hx14, ho4, fun c hc => ho4.away' (by have := ho2.lt c hc; have := hx3.size; omega)⟩ ?_
  rintro k vs w5 hk ⟨x, rfl, ho, hx, hoy, haw⟩
  have hq := hoy.sq
  by_cases hlt : k < R.length
  · have hltI : (k : Int) < R.length := by omega
    have hltJ : ¬ (R.length : Int) ≤ k := by omega
    have hr := (hRr _ (getD_mem [] hlt)).1
    simp only [↓vsd, vsn, gW, qd, qv, ev, pick, argE, zipE, ne_eq, eq_self, forall_const, implies_true, if_true, if_false, reduceIte, reduceCtorEq, Nat.reduceEqDiff, Nat.reduceAdd, Nat.reduceLT, ↓us_ipathOf, r_ipathOf, hltI, hltJ, hq.facts, hq.at1 [] hlt]
    refine ⟨by omega, m_call (iplaceOf_ok _ b (by have := hr.1; omega) (row_low hr) _) ?_⟩
    rintro _ w6 hx6 ⟨p, rfl, hp⟩
    obtain rfl := hp.uniq (plcL_is _ b)
    simp only [↓vsd, vsn, gW, qd, qv, ev, pick, argE, zipE, ne_eq, eq_self, forall_const, implies_true, if_true, if_false, reduceIte, reduceCtorEq, Nat.reduceEqDiff, Nat.reduceAdd, Nat.reduceLT, ↓us_ipathOf, r_ipathOf]
    refine m_bsl (one_el rfl) ?_
    rintro b7 w7 hb7 hblk7 hx7 hs7
    simp only [↓vsd, vsn, gW, qd, qv, ev, pick, argE, zipE, ne_eq, eq_self, forall_const, implies_true, if_true, if_false, reduceIte, reduceCtorEq, Nat.reduceEqDiff, Nat.reduceAdd, Nat.reduceLT, ↓us_ipathOf, r_ipathOf]
    have hx67 := hx6.trans hx7
    have hok := ho.ext hx67
    have hyk := hoy.ext hx67
    have hpl := pathP_len (R.take k) b
    have hps := pathP_snoc R b k hlt
    refine m_app2 hok (Sq.one fI_len hblk7 rfl) fI_one (by decide) (by rw [hpl, List.length_take]; simp; omega) (by decide) (hx.trans hx67).size ?_
    rintro z w8 hoz hgz hnz
    have hx8 := hok.grown (hx.trans hx67) (Nat.le_refl _) hgz
    simp only [↓vsd, vsn, gW, qd, qv, ev, pick, argE, zipE, ne_eq, eq_self, forall_const, implies_true, if_true, if_false, reduceIte, reduceCtorEq, Nat.reduceEqDiff, Nat.reduceAdd, Nat.reduceLT, ↓us_ipathOf, r_ipathOf]
    exact ⟨inR_i64 (by omega), UpTo.next hlt ⟨z, rfl, hoz.to hps.symm, hx8, hyk.off hgz haw, fun c hc => by
      rcases hnz c hc with h' | h'
      · exact haw c h'
      · exact hyk.away h'⟩⟩
  · obtain rfl : k = R.length := by omega
    have hltI : ¬ (R.length : Int) < R.length := by omega
    simp only [↓vsd, vsn, gW, qd, qv, ev, pick, argE, zipE, ne_eq, eq_self, forall_const, implies_true, if_true, if_false, reduceIte, reduceCtorEq, Nat.reduceEqDiff, Nat.reduceAdd, Nat.reduceLT, ↓us_ipathOf, r_ipathOf, hltI]
    rw [List.take_length] at ho
    exact ⟨hx, ho⟩
theorem sl5Place_ok (r : List UInt8) (b : Int) (hr : IsRow r) (w : World) : Fn 291 [S r, .int .i64 b] w (fun v _ => v = .int .i64 (plcL r b : Nat)) := by
  have h8 := hr.1
  have hpl := plcL_is r b
  (refine callsV_of mix Try.func291 c_sl5Place ?_; simp only [↓vsd, vsn, gW, qd, qv, ev, pick, argE, zipE, ne_eq, eq_self, forall_const, implies_true, if_true, if_false, reduceIte, reduceCtorEq, Nat.reduceEqDiff, Nat.reduceAdd, Nat.reduceLT, ↓us_sl5Place, r_sl5Place])
  refine m_upto r.length (fun k vs w' => vs = [.int .i64 (k + 1 : Nat)] ∧ (∀ i < k, ((r.getD i 0).toNat : Int) - 48 ≠ b) ∧ Ext w w') ⟨rfl, by simp, Ext.refl _⟩ ?_
  rintro k vs w1 hk ⟨rfl, hall, hx⟩
  simp only [↓vsd, vsn, gW, qd, qv, ev, pick, argE, zipE, ne_eq, eq_self, forall_const, implies_true, if_true, if_false, reduceIte, reduceCtorEq, Nat.reduceEqDiff, Nat.reduceAdd, Nat.reduceLT, ↓us_sl5Place, r_sl5Place]
  refine ⟨fun hle => ?_, fun hgt => ?_⟩
  · have hlt : k < r.length := by omega
    have hlo := hr.low hlt
    refine m_call (sl1At_ok r (k + 1) (by omega) (by rw [Nat.add_sub_cancel]; omega) (by omega) _) ?_
    rintro _ w2 hx2 rfl
    simp only [↓vsd, vsn, gW, qd, qv, ev, pick, argE, zipE, ne_eq, eq_self, forall_const, implies_true, if_true, if_false, reduceIte, reduceCtorEq, Nat.reduceEqDiff, Nat.reduceAdd, Nat.reduceLT, ↓us_sl5Place, r_sl5Place]
    rw [Nat.add_sub_cancel]
    refine ⟨fun he => ⟨hx.trans hx2, ?_⟩, fun hne => ⟨inR_i64 (by omega), UpTo.next hlt ⟨rfl, fun i hi => ?_, hx.trans hx2⟩⟩⟩
    · rw [PlaceIs.uniq (p := k + 1) (.inr ⟨by omega, by omega, by rw [Nat.add_sub_cancel]; exact he, by rw [Nat.add_sub_cancel]; exact hall⟩) hpl]
    · rcases Nat.lt_succ_iff_lt_or_eq.1 hi with h | rfl
      · exact hall i h
      · exact hne
  · obtain rfl : k = r.length := by omega
    exact ⟨hx, by rw [← PlaceIs.uniq (p := 0) (.inl ⟨rfl, hall⟩) hpl]; rfl⟩
/-- Is a path asked of a bell of a method? -/
def pathOk (nm : List UInt8) (st : Int) (cs : List (List UInt8)) (b : Int) : Prop := IsMethod nm st cs ∧ 1 ≤ b ∧ b ≤ st
instance (nm : List UInt8) (st : Int) (cs : List (List UInt8)) (b : Int) : Decidable (pathOk nm st cs b) := by unfold pathOk; infer_instance
def pathR (nm : List UInt8) (st : Int) (cs : List (List UInt8)) (b : Int) : List Int := if pathOk nm st cs b then pathP (rowsU (roundsL st.toNat) cs (cs.length + 1)) b else []
theorem iPathOf_ok (nm : List UInt8) (st : Int) (v : Value) (cs : List (List UInt8)) (b : Int) (hnm : nm.length ≤ 1048576) (hs : ∀ c ∈ cs, c.length ≤ 1048576) (hl : cs.length ≤ 1000000000) (w : World) (h : Sq fS 1 w v cs) : Fn 67 [mV nm st v, .int .i64 b] w (fun r w' => ∃ x, r = .tuple ⟨[x, .bool (decide (pathOk nm st cs b))]⟩ ∧ Own fI 1 3 w.heap.size w' x (pathR nm st cs b)) := by
  (refine callsV_of mix Try.func67 c_iPathOf ?_; simp only [↓vsd, vsn, gW, qd, qv, ev, pick, argE, zipE, ne_eq, eq_self, forall_const, implies_true, if_true, if_false, reduceIte, reduceCtorEq, Nat.reduceEqDiff, Nat.reduceAdd, Nat.reduceLT, ↓us_iPathOf, r_iPathOf])
  refine m_al ?_
  rintro b1 w1 hb1 hblk1 hx1 hs1
  have h1 : Blk w1 b1 (fM nm st v) 41 := hblk1
  simp only [↓vsd, vsn, gW, qd, qv, ev, pick, argE, zipE, ne_eq, eq_self, forall_const, implies_true, if_true, if_false, reduceIte, reduceCtorEq, Nat.reduceEqDiff, Nat.reduceAdd, Nat.reduceLT, ↓us_iPathOf, r_iPathOf, h1.facts, fMg]
  have hno : ¬ pathOk nm st cs b → ∀ w', ∃ x, Value.tuple ⟨[.slice none 0 0, .bool false]⟩ = .tuple ⟨[x, .bool (decide (pathOk nm st cs b))]⟩ ∧ Own fI 1 3 w.heap.size w' x (pathR nm st cs b) := fun hn w' =>
    ⟨_, by rw [decide_eq_false hn], by rw [pathR, if_neg hn]; exact Own.nil fI_len⟩
  refine m_call (iGoodMethod_ok nm st v cs hnm hs hl _ (h.ext hx1)) ?_
  rintro _ w2 hx2 rfl
  have hx12 := hx1.trans hx2
  have h2 := h1.ext hx2
  by_cases hm : IsMethod nm st cs
  · obtain ⟨n, rfl⟩ : ∃ n : Nat, st = n := ⟨st.toNat, by have := hm.2.1; omega⟩
    simp only [↓vsd, vsn, gW, qd, qv, ev, pick, argE, zipE, ne_eq, eq_self, forall_const, implies_true, if_true, if_false, reduceIte, reduceCtorEq, Nat.reduceEqDiff, Nat.reduceAdd, Nat.reduceLT, ↓us_iPathOf, r_iPathOf, hm, h2.facts, fMg]
    refine m_call (iisBell_ok n b _) ?_
    rintro _ w3 hx3 rfl
    have hx13 := hx12.trans (by first | exact hx3 | exact ud hx3)
    have h3 := h2.ext (by first | exact hx3 | exact ud hx3)
    by_cases hb : 1 ≤ b ∧ b ≤ n
    · have hb1 := hb.1
      have hb2 := hb.2
      simp only [↓vsd, vsn, gW, qd, qv, ev, pick, argE, zipE, ne_eq, eq_self, forall_const, implies_true, if_true, if_false, reduceIte, reduceCtorEq, Nat.reduceEqDiff, Nat.reduceAdd, Nat.reduceLT, ↓us_iPathOf, r_iPathOf, hb1, hb2, h3.facts, fMg]
      refine m_call (ipathOf_ok nm n v cs b hm _ (h.ext hx13)) ?_
      rintro x w4 hx4 ho4
      simp only [↓vsd, vsn, gW, qd, qv, ev, pick, argE, zipE, ne_eq, eq_self, forall_const, implies_true, if_true, if_false, reduceIte, reduceCtorEq, Nat.reduceEqDiff, Nat.reduceAdd, Nat.reduceLT, ↓us_iPathOf, r_iPathOf]
      have hok : pathOk nm n cs b := ⟨hm, hb⟩
      exact ⟨hx13.trans hx4, x, by rw [decide_eq_true hok], by rw [pathR, if_pos hok]; exact ho4.mono hx13.size⟩
    · have hbD : (decide (1 ≤ b) && decide (b ≤ (n : Int))) = false := by rw [← Bool.decide_and]; exact decide_eq_false hb
      simp only [↓vsd, vsn, gW, qd, qv, ev, pick, argE, zipE, ne_eq, eq_self, forall_const, implies_true, if_true, if_false, reduceIte, reduceCtorEq, Nat.reduceEqDiff, Nat.reduceAdd, Nat.reduceLT, ↓us_iPathOf, r_iPathOf, hbD]
      exact ⟨hx13, hno (fun hh => hb hh.2) _⟩
  · simp only [↓vsd, vsn, gW, qd, qv, ev, pick, argE, zipE, ne_eq, eq_self, forall_const, implies_true, if_true, if_false, reduceIte, reduceCtorEq, Nat.reduceEqDiff, Nat.reduceAdd, Nat.reduceLT, ↓us_iPathOf, r_iPathOf, hm]
    exact ⟨hx12, hno (fun hh => hm hh.1) _⟩
theorem sl5Path_ok (nm : List UInt8) (st : Nat) (v : Value) (cs : List (List UInt8)) (b : Int) (hm : IsMethod nm st cs) (w : World) (h : Sq fS 1 w v cs) : Fn 206 [mV nm st v, .int .i64 b] w (fun r w' => Own fI 1 3 w.heap.size w' r (pathP (rowsU (roundsL st) cs (cs.length + 1)) b)) := by
  (refine callsV_of mix Try.func206 c_sl5Path ?_; simp only [↓vsd, vsn, gW, qd, qv, ev, pick, argE, zipE, ne_eq, eq_self, forall_const, implies_true, if_true, if_false, reduceIte, reduceCtorEq, Nat.reduceEqDiff, Nat.reduceAdd, Nat.reduceLT, ↓us_sl5Path, r_sl5Path])
  refine m_al ?_
  rintro b1 w1 hb1 hblk1 hx1 hs1
  have h1 : Blk w1 b1 (fM nm st v) 41 := hblk1
  simp only [↓vsd, vsn, gW, qd, qv, ev, pick, argE, zipE, ne_eq, eq_self, forall_const, implies_true, if_true, if_false, reduceIte, reduceCtorEq, Nat.reduceEqDiff, Nat.reduceAdd, Nat.reduceLT, ↓us_sl5Path, r_sl5Path, h1.facts, fMg]
  have h8 := hm.2.1
  have hcl := hm.2.2.1
  refine m_call (sl1Rounds_ok st (by omega) _) ?_
  rintro _ w2 hx2 rfl
  have hx2 : Ext w1 w2 := by first | exact hx2 | exact ud hx2
  have h2 := h1.ext hx2
  have hx12 := hx1.trans hx2
  simp only [↓vsd, vsn, gW, qd, qv, ev, pick, argE, zipE, ne_eq, eq_self, forall_const, implies_true, if_true, if_false, reduceIte, reduceCtorEq, Nat.reduceEqDiff, Nat.reduceAdd, Nat.reduceLT, ↓us_sl5Path, r_sl5Path, h2.facts, fMg]
  have hrr := roundsL_row st (by omega)
  refine m_call (sl4Lead_ok (roundsL st) v cs st hrr hm.2.2.2 hm.2.2.1.2 _ (h.ext hx12)) ?_
  rintro _ w3 hx3 ⟨y, rfl, ho3⟩
  have hx13 := hx12.trans hx3
  have hRl := rowsU_len (roundsL st) cs cs.length
  have hRr := rowsU_rows hrr cs cs.length
  have hlast : rowsU (roundsL st) cs (cs.length + 1) = rowsU (roundsL st) cs cs.length ++ [underL (roundsL st) cs] := by
    unfold rowsU
    rw [List.range_succ, List.map_append]
    simp
  have hur := underL_row cs hrr
  simp only [↓vsd, vsn, gW, qd, qv, ev, pick, argE, zipE, ne_eq, eq_self, forall_const, implies_true, if_true, if_false, reduceIte, reduceCtorEq, Nat.reduceEqDiff, Nat.reduceAdd, Nat.reduceLT, ↓us_sl5Path, r_sl5Path, ho3.sq.facts]
  generalize rowsU (roundsL st) cs cs.length = R at *
  refine m_upto R.length (fun k vs w' => ∃ x, vs = [x, .int .i64 k] ∧ Own fI 1 3 w3.heap.size w' x (pathP (R.take k) b) ∧ Ext w3 w') ⟨_, rfl, (Own.nil fI_len).to rfl, Ext.refl _⟩ ?_
  rintro k vs w5 hk ⟨x, rfl, ho, hx⟩
  have hq := ho3.sq.ext hx
  by_cases hlt : k < R.length
  · have hltI : (k : Int) < R.length := by omega
    have hltJ : ¬ (R.length : Int) ≤ k := by omega
    have hr := (hRr _ (getD_mem [] hlt)).1
    simp only [↓vsd, vsn, gW, qd, qv, ev, pick, argE, zipE, ne_eq, eq_self, forall_const, implies_true, if_true, if_false, reduceIte, reduceCtorEq, Nat.reduceEqDiff, Nat.reduceAdd, Nat.reduceLT, ↓us_sl5Path, r_sl5Path, hltI, hltJ, hq.facts, hq.at1 [] hlt]
    refine ⟨by omega, m_call (sl5Place_ok _ b hr _) ?_⟩
    rintro _ w6 hx6 rfl
    simp only [↓vsd, vsn, gW, qd, qv, ev, pick, argE, zipE, ne_eq, eq_self, forall_const, implies_true, if_true, if_false, reduceIte, reduceCtorEq, Nat.reduceEqDiff, Nat.reduceAdd, Nat.reduceLT, ↓us_sl5Path, r_sl5Path]
    refine m_bsl (one_el rfl) ?_
    rintro b7 w7 hb7 hblk7 hx7 hs7
    simp only [↓vsd, vsn, gW, qd, qv, ev, pick, argE, zipE, ne_eq, eq_self, forall_const, implies_true, if_true, if_false, reduceIte, reduceCtorEq, Nat.reduceEqDiff, Nat.reduceAdd, Nat.reduceLT, ↓us_sl5Path, r_sl5Path]
    have hx67 := hx6.trans hx7
    have hok := ho.ext hx67
    have hpl := pathP_len (R.take k) b
    have hps := pathP_snoc R b k hlt
    refine m_app hok (Sq.one fI_len hblk7 rfl) fI_one (by decide) (by rw [hpl, List.length_take]; simp; omega) (by decide) (hx.trans hx67).size ?_
    rintro z w8 hoz hgz
    have hx8 := hok.grown (hx.trans hx67) (Nat.le_refl _) hgz
    simp only [↓vsd, vsn, gW, qd, qv, ev, pick, argE, zipE, ne_eq, eq_self, forall_const, implies_true, if_true, if_false, reduceIte, reduceCtorEq, Nat.reduceEqDiff, Nat.reduceAdd, Nat.reduceLT, ↓us_sl5Path, r_sl5Path]
    exact ⟨inR_i64 (by omega), UpTo.next hlt ⟨z, rfl, hoz.to hps.symm, hx8⟩⟩
  · obtain rfl : k = R.length := by omega
    have hltI : ¬ (R.length : Int) < R.length := by omega
    simp only [↓vsd, vsn, gW, qd, qv, ev, pick, argE, zipE, ne_eq, eq_self, forall_const, implies_true, if_true, if_false, reduceIte, reduceCtorEq, Nat.reduceEqDiff, Nat.reduceAdd, Nat.reduceLT, ↓us_sl5Path, r_sl5Path, hltI]
    refine m_call (sl5Place_ok _ b hur _) ?_
    rintro _ w6 hx6 rfl
    simp only [↓vsd, vsn, gW, qd, qv, ev, pick, argE, zipE, ne_eq, eq_self, forall_const, implies_true, if_true, if_false, reduceIte, reduceCtorEq, Nat.reduceEqDiff, Nat.reduceAdd, Nat.reduceLT, ↓us_sl5Path, r_sl5Path]
    refine m_bsl (one_el rfl) ?_
    rintro b7 w7 hb7 hblk7 hx7 hs7
    simp only [↓vsd, vsn, gW, qd, qv, ev, pick, argE, zipE, ne_eq, eq_self, forall_const, implies_true, if_true, if_false, reduceIte, reduceCtorEq, Nat.reduceEqDiff, Nat.reduceAdd, Nat.reduceLT, ↓us_sl5Path, r_sl5Path]
    have hx67 := hx6.trans hx7
    have hok := ho.ext hx67
    have hpl := pathP_len (R.take R.length) b
    refine m_app hok (Sq.one fI_len hblk7 rfl) fI_one (by decide) (by rw [hpl, List.length_take]; simp; omega) (by decide) (hx.trans hx67).size ?_
    rintro z w8 hoz hgz
    have hx8 := hok.grown (hx.trans hx67) (Nat.le_refl _) hgz
    simp only [↓vsd, vsn, gW, qd, qv, ev, pick, argE, zipE, ne_eq, eq_self, forall_const, implies_true, if_true, if_false, reduceIte, reduceCtorEq, Nat.reduceEqDiff, Nat.reduceAdd, Nat.reduceLT, ↓us_sl5Path, r_sl5Path]
    exact ⟨hx13.trans hx8, (hoz.mono hx13.size).to (by rw [hlast, List.take_length, pathP, pathP, List.map_append]; rfl)⟩
theorem sl5Asked_ok (nm : List UInt8) (st : Int) (v : Value) (cs : List (List UInt8)) (b : Int) (hnm : nm.length ≤ 1048576) (hs : ∀ c ∈ cs, c.length ≤ 1048576) (hl : cs.length ≤ 1000000000) (w : World) (h : Sq fS 1 w v cs) : Fn 203 [mV nm st v, .int .i64 b] w (fun r _ => r = .bool (decide (pathOk nm st cs b))) := by
  (refine callsV_of mix Try.func203 c_sl5Asked ?_; simp only [↓vsd, vsn, gW, qd, qv, ev, pick, argE, zipE, ne_eq, eq_self, forall_const, implies_true, if_true, if_false, reduceIte, reduceCtorEq, Nat.reduceEqDiff, Nat.reduceAdd, Nat.reduceLT, ↓us_sl5Asked, r_sl5Asked])
  refine m_al ?_
  rintro b1 w1 hb1 hblk1 hx1 hs1
  have h1 : Blk w1 b1 (fM nm st v) 41 := hblk1
  simp only [↓vsd, vsn, gW, qd, qv, ev, pick, argE, zipE, ne_eq, eq_self, forall_const, implies_true, if_true, if_false, reduceIte, reduceCtorEq, Nat.reduceEqDiff, Nat.reduceAdd, Nat.reduceLT, ↓us_sl5Asked, r_sl5Asked, h1.facts, fMg]
  refine m_call (sl4Good_ok nm st v cs hnm hs hl _ (h.ext hx1)) ?_
  rintro _ w2 hx2 rfl
  have hx12 := hx1.trans hx2
  have h2 := h1.ext hx2
  by_cases hm : IsMethod nm st cs
  · simp only [↓vsd, vsn, gW, qd, qv, ev, pick, argE, zipE, ne_eq, eq_self, forall_const, implies_true, if_true, if_false, reduceIte, reduceCtorEq, Nat.reduceEqDiff, Nat.reduceAdd, Nat.reduceLT, ↓us_sl5Asked, r_sl5Asked, hm, h2.facts, fMg]
    refine m_call (sl1In_ok _ _ _ _) ?_
    rintro _ w3 hx3 rfl
    simp only [↓vsd, vsn, gW, qd, qv, ev, pick, argE, zipE, ne_eq, eq_self, forall_const, implies_true, if_true, if_false, reduceIte, reduceCtorEq, Nat.reduceEqDiff, Nat.reduceAdd, Nat.reduceLT, ↓us_sl5Asked, r_sl5Asked]
    refine ⟨hx12.trans (by first | exact hx3 | exact ud hx3), ?_⟩
    simp only [pathOk, hm, true_and, Bool.decide_and]
  · simp only [↓vsd, vsn, gW, qd, qv, ev, pick, argE, zipE, ne_eq, eq_self, forall_const, implies_true, if_true, if_false, reduceIte, reduceCtorEq, Nat.reduceEqDiff, Nat.reduceAdd, Nat.reduceLT, ↓us_sl5Asked, r_sl5Asked, hm]
    exact ⟨hx12, by rw [decide_eq_false (fun hh : pathOk nm st cs b => hm hh.1)]⟩
theorem sPathOf_ok (nm : List UInt8) (st : Int) (v : Value) (cs : List (List UInt8)) (b : Int) (hnm : nm.length ≤ 1048576) (hs : ∀ c ∈ cs, c.length ≤ 1048576) (hl : cs.length ≤ 1000000000) (w : World) (h : Sq fS 1 w v cs) : Fn 98 [mV nm st v, .int .i64 b] w (fun r w' => ∃ x, r = .tuple ⟨[x, .bool (decide (pathOk nm st cs b))]⟩ ∧ Own fI 1 3 w.heap.size w' x (pathR nm st cs b)) := by
  (refine callsV_of mix Try.func98 c_sPathOf ?_; simp only [↓vsd, vsn, gW, qd, qv, ev, pick, argE, zipE, ne_eq, eq_self, forall_const, implies_true, if_true, if_false, reduceIte, reduceCtorEq, Nat.reduceEqDiff, Nat.reduceAdd, Nat.reduceLT, ↓us_sPathOf, r_sPathOf])
  refine m_al ?_
  rintro b1 w1 hb1 hblk1 hx1 hs1
  have h1 : Blk w1 b1 (fM nm st v) 41 := hblk1
  simp only [↓vsd, vsn, gW, qd, qv, ev, pick, argE, zipE, ne_eq, eq_self, forall_const, implies_true, if_true, if_false, reduceIte, reduceCtorEq, Nat.reduceEqDiff, Nat.reduceAdd, Nat.reduceLT, ↓us_sPathOf, r_sPathOf, h1.facts, fMg]
  refine m_call (sl5Asked_ok nm st v cs b hnm hs hl _ (h.ext hx1)) ?_
  rintro _ w2 hx2 rfl
  have hx12 := hx1.trans hx2
  have h2 := h1.ext hx2
  by_cases hok : pathOk nm st cs b
  · have hD := decide_eq_true hok
    obtain ⟨n, rfl⟩ : ∃ n : Nat, st = n := ⟨st.toNat, by have := hok.1.2.1; omega⟩
    simp only [↓vsd, vsn, gW, qd, qv, ev, pick, argE, zipE, ne_eq, eq_self, forall_const, implies_true, if_true, if_false, reduceIte, reduceCtorEq, Nat.reduceEqDiff, Nat.reduceAdd, Nat.reduceLT, ↓us_sPathOf, r_sPathOf, hD, h2.facts, fMg]
    refine m_call (sl5Path_ok nm n v cs b hok.1 _ (h.ext hx12)) ?_
    rintro x w4 hx4 ho4
    simp only [↓vsd, vsn, gW, qd, qv, ev, pick, argE, zipE, ne_eq, eq_self, forall_const, implies_true, if_true, if_false, reduceIte, reduceCtorEq, Nat.reduceEqDiff, Nat.reduceAdd, Nat.reduceLT, ↓us_sPathOf, r_sPathOf]
    exact ⟨hx12.trans hx4, x, rfl, by rw [pathR, if_pos hok]; exact ho4.mono hx12.size⟩
  · have hD := decide_eq_false hok
    simp only [↓vsd, vsn, gW, qd, qv, ev, pick, argE, zipE, ne_eq, eq_self, forall_const, implies_true, if_true, if_false, reduceIte, reduceCtorEq, Nat.reduceEqDiff, Nat.reduceAdd, Nat.reduceLT, ↓us_sPathOf, r_sPathOf, hD]
    exact ⟨hx12, _, rfl, by rw [pathR, if_neg hok]; exact Own.nil fI_len⟩
end Go.Proofs.Ytpnopboffalfnaa
