/-
  Paths of bells, of both sides.
  Conditions: none.
-/
import Derived.Test.YtnincmnkdjlndaaA29
import Derived.Test.YtnincmnkdjlndaaA11
import Derived.Test.YtnincmnkdjlndaaVw
set_option linter.unusedSimpArgs false
set_option linter.unusedVariables false
set_option linter.defProp false
namespace Go.Proofs.Ytnincmnkdjlndaa
open Go Go.RowKit
section
variable (P : Program) (k : KT) (e : Env) (w : World)
abbrev b136_1 : X := (.reg [1, 5, 14, 15, 16] (.c (.q 20 [] (.mv (.t 5))) (.c (.q 21 [] (.mv (.t 7))) (.c (.q 22 [] (.mv (.t 1))) (.c (.e (some 23) [] (.call false 256 [(.t 21), (.t 22)])) (.c (.e (some 24) [] (.bsl 3 1 [(.t 23)])) (.c (.e (some 25) [] (.app 39 3 1 8 [(.int .i64 0)] 39 (.t 20) (.t 24))) (.c (.q 5 [] (.mv (.t 25))) .nil))))))))
def t136_1 := b136_1
theorem u136_1 : vcK P t136_1 k e w = vcK P b136_1 k e w := rfl
abbrev b136_2 : X := (.reg [1, 5, 14, 15, 16] (.c (.q 26 [] (.bin .add (.t 16) (.c (.int .i64 1)))) (.c (.q 16 [] (.mv (.t 26))) .nil)))
def t136_2 := b136_2
theorem u136_2 : vcK P t136_2 k e w = vcK P b136_2 k e w := rfl
abbrev b136_3 : X := (.seq (.blk 1 (.seq (.reg [1, 5, 7, 14, 15, 16] (.c (.q 18 [] (.ia 1 (.t 14) (.t 16))) (.c (.q 19 [] (.ld (.t 18))) (.c (.q 7 [] (.mv (.t 19))) .nil)))) t136_1)) t136_2)
def t136_3 := b136_3
theorem u136_3 : vcK P t136_3 k e w = vcK P b136_3 k e w := rfl
abbrev b136_4 : X := (.seq (.cond (.t 17) .skip (.exit 0)) t136_3)
def t136_4 := b136_4
theorem u136_4 : vcK P t136_4 k e w = vcK P b136_4 k e w := rfl
abbrev b136_5 : X := (.seq (.reg [1, 5, 14, 15, 16, 17] (.c (.q 17 [] (.bin .lss (.t 16) (.t 15))) .nil)) t136_4)
def t136_5 := b136_5
theorem u136_5 : vcK P t136_5 k e w = vcK P b136_5 k e w := rfl
abbrev b136_6 : X := (.blk 0 (.loop [5, 16] [1, 14, 15] t136_5))
def t136_6 := b136_6
theorem u136_6 : vcK P t136_6 k e w = vcK P b136_6 k e w := rfl
abbrev b136_7 : X := (.seq (.reg [4] (.c (.q 27 [] (.mv (.t 5))) (.c (.q 4 [] (.mv (.t 27))) .nil))) .ret)
def t136_7 := b136_7
theorem u136_7 : vcK P t136_7 k e w = vcK P b136_7 k e w := rfl
abbrev b136_8 : X := (.seq (.seq (.drw [1, 5, 14, 15, 16] (.c (.q 9 [] (.fa 1 (.t 2))) (.c (.q 10 [] (.ld (.t 9))) (.c (.q 12 [] (.fa 2 (.t 2))) (.c (.q 13 [] (.ld (.t 12))) (.c (.q 16 [] (.mv (.c (.int .i64 0)))) (.c (.e (some 11) [] (.call false 142 [(.t 10)])) (.c (.e (some 14) [] (.call false 255 [(.t 11), (.t 13)])) (.c (.q 15 [] (.lens (.t 14))) .nil))))))))) t136_6) t136_7)
def t136_8 := b136_8
theorem u136_8 : vcK P t136_8 k e w = vcK P b136_8 k e w := rfl
abbrev b136_9 : X := (.seq (.reg [1, 2, 5] (.c (.e (some 8) [] (.bsl 3 1 [])) (.c (.q 5 [] (.mv (.t 8))) .nil))) t136_8)
def t136_9 := b136_9
theorem u136_9 : vcK P t136_9 k e w = vcK P b136_9 k e w := rfl
abbrev b136_0 : X := (.seq (.reg [1, 2] (.c (.e (some 2) [] (.box 26 (.t 0))) (.c (.q 4 [] (.mv (.c (.slice none 0 0)))) .nil))) t136_9)
def x_ipathOf := b136_0
theorem u136_0 : vcK P x_ipathOf k e w = vcK P b136_0 k e w := rfl
def r_ipathOf : List XO := [(.mv (.t 4))]
theorem c_ipathOf : convF Try.prog [147, 148, 152, 160, 162, 163, 170, 178, 206, 208, 210, 224, 233, 235, 236, 251, 264, 265, 268, 270, 287, 322] Try.f136 [([1, 2], []), ([1, 2, 5], []), ([1, 5, 14, 15, 16], []), ([5, 16], [1, 14, 15]), ([1, 5, 14, 15, 16, 17], []), ([1, 5, 7, 14, 15, 16], []), ([1, 5, 14, 15, 16], []), ([1, 5, 14, 15, 16], []), ([4], [])] = some (x_ipathOf, r_ipathOf) := by kernel_rfl
def us_ipathOf :=  (aI (aI (aI @u136_0 @u136_1) (aI @u136_2 (aI @u136_3 @u136_4))) (aI (aI @u136_5 @u136_6) (aI @u136_7 (aI @u136_8 @u136_9))))
abbrev b24_1 : X := (.cond (.t 15) (.seq (.reg [4, 5] (.c (.q 4 [] (.mv (.c (.slice none 0 0)))) (.c (.q 5 [] (.mv (.c (.bool false)))) .nil))) .ret) .skip)
def t24_1 := b24_1
theorem u24_1 : vcK P t24_1 k e w = vcK P b24_1 k e w := rfl
abbrev b24_2 : X := (.seq (.reg [4, 5] (.c (.q 16 [] (.lda 3 (.t 2))) (.c (.q 17 [] (.mv (.t 1))) (.c (.e (some 18) [] (.call false 136 [(.t 16), (.t 17)])) (.c (.q 4 [] (.mv (.t 18))) (.c (.q 5 [] (.mv (.c (.bool true)))) .nil)))))) .ret)
def t24_2 := b24_2
theorem u24_2 : vcK P t24_2 k e w = vcK P b24_2 k e w := rfl
abbrev b24_3 : X := (.seq (.seq (.reg [1, 2, 15] (.c (.q 6 [] (.lda 3 (.t 2))) (.c (.e (some 7) [] (.call false 135 [(.t 6)])) (.c (.q 8 [] (.not (.t 7))) (.c (.q 9 [] (.mv (.t 8))) (.c (.q 10 [(9, false)] (.fa 1 (.t 2))) (.c (.q 11 [(9, false)] (.ld (.t 10))) (.c (.q 12 [(9, false)] (.mv (.t 1))) (.c (.e (some 13) [(9, false)] (.call false 140 [(.t 11), (.t 12)])) (.c (.q 14 [(9, false)] (.not (.t 13))) (.c (.q 15 [] (.pick (.t 9) (.c (.bool true)) (.t 14))) .nil))))))))))) t24_1) t24_2)
def t24_3 := b24_3
theorem u24_3 : vcK P t24_3 k e w = vcK P b24_3 k e w := rfl
abbrev b24_0 : X := (.seq (.reg [1, 2] (.c (.e (some 2) [] (.box 26 (.t 0))) (.c (.q 4 [] (.mv (.c (.slice none 0 0)))) (.c (.q 5 [] (.mv (.c (.bool false)))) .nil)))) t24_3)
def x_iPathOf := b24_0
theorem u24_0 : vcK P x_iPathOf k e w = vcK P b24_0 k e w := rfl
def r_iPathOf : List XO := [(.mv (.t 4)), (.mv (.t 5))]
theorem c_iPathOf : convF Try.prog [147, 148, 152, 160, 162, 163, 170, 178, 206, 208, 210, 224, 233, 235, 236, 251, 264, 265, 268, 270, 287, 322] Try.f24 [([1, 2], []), ([1, 2, 15], []), ([4, 5], []), ([4, 5], [])] = some (x_iPathOf, r_iPathOf) := by kernel_rfl
def us_iPathOf :=  (aI (aI @u24_0 @u24_1) (aI @u24_2 @u24_3))
abbrev b261_1 : X := (.cond (.t 9) .skip (.exit 0))
def t261_1 := b261_1
theorem u261_1 : vcK P t261_1 k e w = vcK P b261_1 k e w := rfl
abbrev b261_2 : X := (.cond (.t 16) (.seq (.reg [4] (.c (.q 17 [] (.mv (.t 5))) (.c (.q 4 [] (.mv (.t 17))) .nil))) .ret) .skip)
def t261_2 := b261_2
theorem u261_2 : vcK P t261_2 k e w = vcK P b261_2 k e w := rfl
abbrev b261_3 : X := (.reg [0, 1, 5] (.c (.q 10 [] (.mv (.t 5))) (.c (.q 11 [] (.bin .add (.t 10) (.c (.int .i64 1)))) (.c (.q 5 [] (.mv (.t 11))) .nil))))
def t261_3 := b261_3
theorem u261_3 : vcK P t261_3 k e w = vcK P b261_3 k e w := rfl
abbrev b261_4 : X := (.seq (.blk 1 (.seq (.reg [0, 1, 5, 16] (.c (.q 12 [] (.mv (.t 0))) (.c (.q 13 [] (.mv (.t 5))) (.c (.e (some 14) [] (.call false 253 [(.t 12), (.t 13)])) (.c (.q 15 [] (.mv (.t 1))) (.c (.q 16 [] (.bin .eql (.t 14) (.t 15))) .nil)))))) t261_2)) t261_3)
def t261_4 := b261_4
theorem u261_4 : vcK P t261_4 k e w = vcK P b261_4 k e w := rfl
abbrev b261_5 : X := (.seq (.seq (.reg [0, 1, 5, 9] (.c (.q 6 [] (.mv (.t 5))) (.c (.q 7 [] (.mv (.t 0))) (.c (.q 8 [] (.len (.t 7))) (.c (.q 9 [] (.bin .leq (.t 6) (.t 8))) .nil))))) t261_1) t261_4)
def t261_5 := b261_5
theorem u261_5 : vcK P t261_5 k e w = vcK P b261_5 k e w := rfl
abbrev b261_6 : X := (.blk 0 (.loop [5] [0, 1] t261_5))
def t261_6 := b261_6
theorem u261_6 : vcK P t261_6 k e w = vcK P b261_6 k e w := rfl
abbrev b261_7 : X := (.seq (.reg [4] (.c (.q 4 [] (.mv (.c (.int .i64 0)))) .nil)) .ret)
def t261_7 := b261_7
theorem u261_7 : vcK P t261_7 k e w = vcK P b261_7 k e w := rfl
abbrev b261_8 : X := (.seq (.seq (.reg [0, 1, 5] (.c (.q 5 [] (.mv (.c (.int .i64 1)))) .nil)) t261_6) t261_7)
def t261_8 := b261_8
theorem u261_8 : vcK P t261_8 k e w = vcK P b261_8 k e w := rfl
abbrev b261_0 : X := (.seq (.reg [0, 1] (.c (.q 4 [] (.mv (.c (.int .i64 0)))) .nil)) t261_8)
def x_sl5Place := b261_0
theorem u261_0 : vcK P x_sl5Place k e w = vcK P b261_0 k e w := rfl
def r_sl5Place : List XO := [(.mv (.t 4))]
theorem c_sl5Place : convF Try.prog [147, 148, 152, 160, 162, 163, 170, 178, 206, 208, 210, 224, 233, 235, 236, 251, 264, 265, 268, 270, 287, 322] Try.f261 [([0, 1], []), ([0, 1, 5], []), ([5], [0, 1]), ([0, 1, 5, 9], []), ([0, 1, 5, 16], []), ([4], []), ([0, 1, 5], []), ([4], [])] = some (x_sl5Place, r_sl5Place) := by kernel_rfl
def us_sl5Place :=  (aI (aI (aI @u261_0 @u261_1) (aI @u261_2 @u261_3)) (aI (aI @u261_4 @u261_5) (aI @u261_6 (aI @u261_7 @u261_8))))
abbrev b153_1 : X := (.seq (.reg [4] (.c (.q 5 [] (.lda 3 (.t 2))) (.c (.e (some 6) [] (.call false 137 [(.t 5)])) (.c (.q 7 [] (.mv (.t 6))) (.c (.q 8 [(7, true)] (.mv (.t 1))) (.c (.q 9 [(7, true)] (.fa 1 (.t 2))) (.c (.q 10 [(7, true)] (.ld (.t 9))) (.c (.e (some 11) [(7, true)] (.call false 149 [(.t 8), (.c (.int .i64 1)), (.t 10)])) (.c (.q 12 [] (.pick (.t 7) (.t 11) (.c (.bool false)))) (.c (.q 4 [] (.mv (.t 12))) .nil)))))))))) .ret)
def t153_1 := b153_1
theorem u153_1 : vcK P t153_1 k e w = vcK P b153_1 k e w := rfl
abbrev b153_0 : X := (.seq (.reg [1, 2] (.c (.e (some 2) [] (.box 26 (.t 0))) (.c (.q 4 [] (.mv (.c (.bool false)))) .nil))) t153_1)
def x_sl5Asked := b153_0
theorem u153_0 : vcK P x_sl5Asked k e w = vcK P b153_0 k e w := rfl
def r_sl5Asked : List XO := [(.mv (.t 4))]
theorem c_sl5Asked : convF Try.prog [147, 148, 152, 160, 162, 163, 170, 178, 206, 208, 210, 224, 233, 235, 236, 251, 264, 265, 268, 270, 287, 322] Try.f153 [([1, 2], []), ([4], [])] = some (x_sl5Asked, r_sl5Asked) := by kernel_rfl
def us_sl5Asked :=  (aI @u153_0 @u153_1)
abbrev b138_1 : X := (.reg [1, 6, 7, 19, 20, 21] (.c (.q 25 [] (.mv (.t 7))) (.c (.q 26 [] (.mv (.t 9))) (.c (.q 27 [] (.mv (.t 1))) (.c (.e (some 28) [] (.call false 261 [(.t 26), (.t 27)])) (.c (.e (some 29) [] (.bsl 3 1 [(.t 28)])) (.c (.e (some 30) [] (.app 39 3 1 8 [(.int .i64 0)] 39 (.t 25) (.t 29))) (.c (.q 7 [] (.mv (.t 30))) .nil))))))))
def t138_1 := b138_1
theorem u138_1 : vcK P t138_1 k e w = vcK P b138_1 k e w := rfl
abbrev b138_2 : X := (.reg [1, 6, 7, 19, 20, 21] (.c (.q 31 [] (.bin .add (.t 21) (.c (.int .i64 1)))) (.c (.q 21 [] (.mv (.t 31))) .nil)))
def t138_2 := b138_2
theorem u138_2 : vcK P t138_2 k e w = vcK P b138_2 k e w := rfl
abbrev b138_3 : X := (.seq (.blk 1 (.seq (.reg [1, 6, 7, 9, 19, 20, 21] (.c (.q 23 [] (.ia 1 (.t 19) (.t 21))) (.c (.q 24 [] (.ld (.t 23))) (.c (.q 9 [] (.mv (.t 24))) .nil)))) t138_1)) t138_2)
def t138_3 := b138_3
theorem u138_3 : vcK P t138_3 k e w = vcK P b138_3 k e w := rfl
abbrev b138_4 : X := (.seq (.cond (.t 22) .skip (.exit 0)) t138_3)
def t138_4 := b138_4
theorem u138_4 : vcK P t138_4 k e w = vcK P b138_4 k e w := rfl
abbrev b138_5 : X := (.seq (.reg [1, 6, 7, 19, 20, 21, 22] (.c (.q 22 [] (.bin .lss (.t 21) (.t 20))) .nil)) t138_4)
def t138_5 := b138_5
theorem u138_5 : vcK P t138_5 k e w = vcK P b138_5 k e w := rfl
abbrev b138_6 : X := (.blk 0 (.loop [7, 21] [1, 6, 19, 20] t138_5))
def t138_6 := b138_6
theorem u138_6 : vcK P t138_6 k e w = vcK P b138_6 k e w := rfl
abbrev b138_7 : X := (.seq (.reg [4] (.c (.q 32 [] (.mv (.t 7))) (.c (.q 33 [] (.mv (.t 6))) (.c (.q 34 [] (.mv (.t 1))) (.c (.e (some 35) [] (.call false 261 [(.t 33), (.t 34)])) (.c (.e (some 36) [] (.bsl 3 1 [(.t 35)])) (.c (.e (some 37) [] (.app 39 3 1 8 [(.int .i64 0)] 39 (.t 32) (.t 36))) (.c (.q 4 [] (.mv (.t 37))) .nil)))))))) .ret)
def t138_7 := b138_7
theorem u138_7 : vcK P t138_7 k e w = vcK P b138_7 k e w := rfl
abbrev b138_8 : X := (.seq (.seq (.reg [1, 6, 7, 19, 20, 21] (.c (.q 19 [] (.mv (.t 5))) (.c (.q 20 [] (.lens (.t 19))) (.c (.q 21 [] (.mv (.c (.int .i64 0)))) .nil)))) t138_6) t138_7)
def t138_8 := b138_8
theorem u138_8 : vcK P t138_8 k e w = vcK P b138_8 k e w := rfl
abbrev b138_9 : X := (.seq (.reg [1, 5, 6, 7] (.c (.q 7 [] (.mv (.c (.slice none 0 0)))) .nil)) t138_8)
def t138_9 := b138_9
theorem u138_9 : vcK P t138_9 k e w = vcK P b138_9 k e w := rfl
abbrev b138_10 : X := (.seq (.drw [1, 5, 6] (.c (.q 11 [] (.fa 2 (.t 2))) (.c (.q 12 [] (.ld (.t 11))) (.c (.q 13 [] (.fa 1 (.t 2))) (.c (.q 14 [] (.ld (.t 13))) (.c (.e (some 15) [] (.call false 260 [(.t 14)])) (.c (.e (some 16) [] (.call false 259 [(.t 12), (.t 15)])) (.c (.q 10 [] (.mv (.t 16))) (.c (.q 17 [] (.ext 0 (.t 10))) (.c (.q 18 [] (.ext 1 (.t 10))) (.c (.q 5 [] (.mv (.t 17))) (.c (.q 6 [] (.mv (.t 18))) .nil)))))))))))) t138_9)
def t138_10 := b138_10
theorem u138_10 : vcK P t138_10 k e w = vcK P b138_10 k e w := rfl
abbrev b138_0 : X := (.seq (.reg [1, 2] (.c (.e (some 2) [] (.box 26 (.t 0))) (.c (.q 4 [] (.mv (.c (.slice none 0 0)))) .nil))) t138_10)
def x_sl5Path := b138_0
theorem u138_0 : vcK P x_sl5Path k e w = vcK P b138_0 k e w := rfl
def r_sl5Path : List XO := [(.mv (.t 4))]
theorem c_sl5Path : convF Try.prog [147, 148, 152, 160, 162, 163, 170, 178, 206, 208, 210, 224, 233, 235, 236, 251, 264, 265, 268, 270, 287, 322] Try.f138 [([1, 2], []), ([1, 5, 6], []), ([1, 5, 6, 7], []), ([1, 6, 7, 19, 20, 21], []), ([7, 21], [1, 6, 19, 20]), ([1, 6, 7, 19, 20, 21, 22], []), ([1, 6, 7, 9, 19, 20, 21], []), ([1, 6, 7, 19, 20, 21], []), ([1, 6, 7, 19, 20, 21], []), ([4], [])] = some (x_sl5Path, r_sl5Path) := by kernel_rfl
def us_sl5Path :=  (aI (aI (aI @u138_0 @u138_1) (aI @u138_2 (aI @u138_3 @u138_4))) (aI (aI @u138_5 (aI @u138_6 @u138_7)) (aI @u138_8 (aI @u138_9 @u138_10))))
abbrev b30_1 : X := (.cond (.t 9) (.seq (.reg [4, 5] (.c (.q 4 [] (.mv (.c (.slice none 0 0)))) (.c (.q 5 [] (.mv (.c (.bool false)))) .nil))) .ret) .skip)
def t30_1 := b30_1
theorem u30_1 : vcK P t30_1 k e w = vcK P b30_1 k e w := rfl
abbrev b30_2 : X := (.seq (.reg [4, 5] (.c (.q 10 [] (.lda 3 (.t 2))) (.c (.q 11 [] (.mv (.t 1))) (.c (.e (some 12) [] (.call false 138 [(.t 10), (.t 11)])) (.c (.q 4 [] (.mv (.t 12))) (.c (.q 5 [] (.mv (.c (.bool true)))) .nil)))))) .ret)
def t30_2 := b30_2
theorem u30_2 : vcK P t30_2 k e w = vcK P b30_2 k e w := rfl
abbrev b30_3 : X := (.seq (.seq (.reg [1, 2, 9] (.c (.q 6 [] (.lda 3 (.t 2))) (.c (.q 7 [] (.mv (.t 1))) (.c (.e (some 8) [] (.call false 153 [(.t 6), (.t 7)])) (.c (.q 9 [] (.not (.t 8))) .nil))))) t30_1) t30_2)
def t30_3 := b30_3
theorem u30_3 : vcK P t30_3 k e w = vcK P b30_3 k e w := rfl
abbrev b30_0 : X := (.seq (.reg [1, 2] (.c (.e (some 2) [] (.box 26 (.t 0))) (.c (.q 4 [] (.mv (.c (.slice none 0 0)))) (.c (.q 5 [] (.mv (.c (.bool false)))) .nil)))) t30_3)
def x_sPathOf := b30_0
theorem u30_0 : vcK P x_sPathOf k e w = vcK P b30_0 k e w := rfl
def r_sPathOf : List XO := [(.mv (.t 4)), (.mv (.t 5))]
theorem c_sPathOf : convF Try.prog [147, 148, 152, 160, 162, 163, 170, 178, 206, 208, 210, 224, 233, 235, 236, 251, 264, 265, 268, 270, 287, 322] Try.f30 [([1, 2], []), ([1, 2, 9], []), ([4, 5], []), ([4, 5], [])] = some (x_sPathOf, r_sPathOf) := by kernel_rfl
def us_sPathOf :=  (aI (aI @u30_0 @u30_1) (aI @u30_2 @u30_3))
end

/-- The places of a bell in some rows. -/
def pathP (R : List (List UInt8)) (b : Int) : List Int := R.map fun r => (plcL r b : Nat)
theorem pathP_len (R : List (List UInt8)) (b : Int) : (pathP R b).length = R.length := by rw [pathP, List.length_map]
theorem pathP_snoc (R : List (List UInt8)) (b : Int) (k : Nat) (h : k < R.length) : pathP (R.take (k + 1)) b = pathP (R.take k) b ++ [((plcL (R.getD k []) b : Nat) : Int)] := by
  rw [pathP, List.take_add_one, List.getElem?_eq_getElem h, List.getD_eq_getElem?_getD, List.getElem?_eq_getElem h, List.map_append]
  rfl
theorem row_low {r : List UInt8} (h : IsRow r) : ∀ c ∈ r, 48 ≤ c.toNat := fun c hc => by
  obtain ⟨i, hi, rfl⟩ := List.getElem_of_mem hc
  have := h.low hi
  rw [List.getD_eq_getElem?_getD, List.getElem?_eq_getElem hi] at this
  exact Nat.le_trans (by decide) this
theorem rowsU_rows {l : List UInt8} (h : IsRow l) (cs : List (List UInt8)) (k : Nat) : ∀ r ∈ rowsU l cs k, IsRow r ∧ r.length = l.length := fun r hr => by
  obtain ⟨i, hi, rfl⟩ := List.mem_map.1 hr
  exact ⟨underL_row _ h, underL_len _ _⟩
theorem ipathOf_ok (nm : List UInt8) (st : Nat) (v : Value) (cs : List (List UInt8)) (b : Int) (hm : IsMethod nm st cs) (w : World) (h : Sq fS 1 w v cs) : Fn 136 [mV nm st v, .int .i64 b] w (fun r w' => Own fI 1 3 w.heap.size w' r (pathP (rowsU (roundsL st) cs (cs.length + 1)) b)) := by
  (refine callsV_of mix Try.func136 c_ipathOf ?_; simp only [↓vsd, vsn, gW, qd, qv, ev, pick, argE, zipE, ne_eq, eq_self, forall_const, implies_true, if_true, if_false, reduceIte, reduceCtorEq, Nat.reduceEqDiff, Nat.reduceAdd, Nat.reduceLT, ↓us_ipathOf, r_ipathOf])
  refine m_al ?_
  rintro b1 w1 hb1 hblk1 hx1 hs1
  have h1 : Blk w1 b1 (fM nm st v) 26 := hblk1
  simp only [↓vsd, vsn, gW, qd, qv, ev, pick, argE, zipE, ne_eq, eq_self, forall_const, implies_true, if_true, if_false, reduceIte, reduceCtorEq, Nat.reduceEqDiff, Nat.reduceAdd, Nat.reduceLT, ↓us_ipathOf, r_ipathOf, h1.facts, fMg]
  have h8 := hm.2.1
  have hcl := hm.2.2.1
  refine m_bsl (by simp) ?_
  rintro b2 w2 hb2 hblk2 hx2 hs2
  have h12 := h1.ext hx2
  have hx12 := hx1.trans hx2
  have ho2 : Own fI 1 3 w.heap.size w2 (.slice (some ⟨b2, 0, none⟩) 0 0) ([] : List Int) := (Own.empty fI_len hblk2 (by have := hx1.size; omega)).to (by simp)
  simp only [↓vsd, vsn, gW, qd, qv, ev, pick, argE, zipE, ne_eq, eq_self, forall_const, implies_true, if_true, if_false, reduceIte, reduceCtorEq, Nat.reduceEqDiff, Nat.reduceAdd, Nat.reduceLT, ↓us_ipathOf, r_ipathOf, h12.facts, fMg]
  refine m_call (irounds_ok st (by omega) _) ?_
  rintro _ w3 hx3 rfl
  have hx3 := ud hx3
  have h13 := h12.ext hx3
  have hx13 := hx12.trans hx3
  simp only [↓vsd, vsn, gW, qd, qv, ev, pick, argE, zipE, ne_eq, eq_self, forall_const, implies_true, if_true, if_false, reduceIte, reduceCtorEq, Nat.reduceEqDiff, Nat.reduceAdd, Nat.reduceLT, ↓us_ipathOf, r_ipathOf, h13.facts, fMg]
  refine m_call (irowsUnder_ok _ v cs st (roundsL_row st (by omega)) hm.2.2.2 hm.2.2.1.2 _ (h.ext hx13)) ?_
  rintro y w4 hx4 ho4
  have hx14 := hx13.trans hx4
  have ho24 := (ho2.ext hx3).ext hx4
  have hRl := rowsU_len (roundsL st) cs (cs.length + 1)
  have hRr := rowsU_rows (roundsL_row st (by omega)) cs (cs.length + 1)
  simp only [↓vsd, vsn, gW, qd, qv, ev, pick, argE, zipE, ne_eq, eq_self, forall_const, implies_true, if_true, if_false, reduceIte, reduceCtorEq, Nat.reduceEqDiff, Nat.reduceAdd, Nat.reduceLT, ↓us_ipathOf, r_ipathOf, ho4.sq.facts]
  generalize rowsU (roundsL st) cs (cs.length + 1) = R at *
  refine m_upto R.length (fun k vs w' => ∃ x, vs = [x, .int .i64 k] ∧ Own fI 1 3 w.heap.size w' x (pathP (R.take k) b) ∧ Ext w w' ∧ Own fS 1 9 w3.heap.size w' y R ∧ ∀ c, x.ownBlock = some c → Away y c) ⟨_, rfl, ho24.to rfl, hx14, ho4, fun c hc => ho4.away' (by have := ho2.lt c hc; have := hx3.size; omega)⟩ ?_
  rintro k vs w5 hk ⟨x, rfl, ho, hx, hoy, haw⟩
  have hq := hoy.sq
  by_cases hlt : k < R.length
  · have hltI : (k : Int) < R.length := by omega
    have hltJ : ¬ (R.length : Int) ≤ k := by omega
    have hr := (hRr _ (getD_mem [] hlt)).1
    simp only [↓vsd, vsn, gW, qd, qv, ev, pick, argE, zipE, ne_eq, eq_self, forall_const, implies_true, if_true, if_false, reduceIte, reduceCtorEq, Nat.reduceEqDiff, Nat.reduceAdd, Nat.reduceLT, ↓us_ipathOf, r_ipathOf, hltI, hltJ, hq.facts, hq.at1 [] hlt]
    refine ⟨by omega, m_call (iplaceOf_ok _ b (by have := hr.1; omega) (row_low hr) _) ?_⟩
    rintro _ w6 hx6 ⟨p, rfl, hp⟩
    obtain rfl := hp.uniq (plcL_is _ b)
    simp only [↓vsd, vsn, gW, qd, qv, ev, pick, argE, zipE, ne_eq, eq_self, forall_const, implies_true, if_true, if_false, reduceIte, reduceCtorEq, Nat.reduceEqDiff, Nat.reduceAdd, Nat.reduceLT, ↓us_ipathOf, r_ipathOf]
    refine m_bsl (one_el rfl) ?_
    rintro b7 w7 hb7 hblk7 hx7 hs7
    simp only [↓vsd, vsn, gW, qd, qv, ev, pick, argE, zipE, ne_eq, eq_self, forall_const, implies_true, if_true, if_false, reduceIte, reduceCtorEq, Nat.reduceEqDiff, Nat.reduceAdd, Nat.reduceLT, ↓us_ipathOf, r_ipathOf]
    have hx67 := hx6.trans hx7
    have hok := ho.ext hx67
    have hyk := hoy.ext hx67
    have hpl := pathP_len (R.take k) b
    have hps := pathP_snoc R b k hlt
    refine m_app2 hok (Sq.one fI_len hblk7 rfl) fI_one (by decide) (by rw [hpl, List.length_take]; simp; omega) (by decide) (hx.trans hx67).size ?_
    rintro z w8 hoz hgz hnz
    have hx8 := hok.grown (hx.trans hx67) (Nat.le_refl _) hgz
    simp only [↓vsd, vsn, gW, qd, qv, ev, pick, argE, zipE, ne_eq, eq_self, forall_const, implies_true, if_true, if_false, reduceIte, reduceCtorEq, Nat.reduceEqDiff, Nat.reduceAdd, Nat.reduceLT, ↓us_ipathOf, r_ipathOf]
    exact ⟨inR_i64 (by omega), UpTo.next hlt ⟨z, rfl, hoz.to hps.symm, hx8, hyk.off hgz haw, fun c hc => by
      rcases hnz c hc with h' | h'
      · exact haw c h'
      · exact hyk.away h'⟩⟩
  · obtain rfl : k = R.length := by omega
    have hltI : ¬ (R.length : Int) < R.length := by omega
    simp only [↓vsd, vsn, gW, qd, qv, ev, pick, argE, zipE, ne_eq, eq_self, forall_const, implies_true, if_true, if_false, reduceIte, reduceCtorEq, Nat.reduceEqDiff, Nat.reduceAdd, Nat.reduceLT, ↓us_ipathOf, r_ipathOf, hltI]
    rw [List.take_length] at ho
    exact ⟨hx, ho⟩
theorem sl5Place_ok (r : List UInt8) (b : Int) (hr : IsRow r) (w : World) : Fn 261 [S r, .int .i64 b] w (fun v _ => v = .int .i64 (plcL r b : Nat)) := by
  have h8 := hr.1
  have hpl := plcL_is r b
  (refine callsV_of mix Try.func261 c_sl5Place ?_; simp only [↓vsd, vsn, gW, qd, qv, ev, pick, argE, zipE, ne_eq, eq_self, forall_const, implies_true, if_true, if_false, reduceIte, reduceCtorEq, Nat.reduceEqDiff, Nat.reduceAdd, Nat.reduceLT, ↓us_sl5Place, r_sl5Place])
  refine m_upto r.length (fun k vs w' => vs = [.int .i64 (k + 1 : Nat)] ∧ (∀ i < k, ((r.getD i 0).toNat : Int) - 48 ≠ b) ∧ Ext w w') ⟨rfl, by simp, Ext.refl _⟩ ?_
  rintro k vs w1 hk ⟨rfl, hall, hx⟩
  simp only [↓vsd, vsn, gW, qd, qv, ev, pick, argE, zipE, ne_eq, eq_self, forall_const, implies_true, if_true, if_false, reduceIte, reduceCtorEq, Nat.reduceEqDiff, Nat.reduceAdd, Nat.reduceLT, ↓us_sl5Place, r_sl5Place]
  refine ⟨fun hle => ?_, fun hgt => ?_⟩
  · have hlt : k < r.length := by omega
    have hlo := hr.low hlt
    refine m_call (sl1At_ok r (k + 1) (by omega) (by rw [Nat.add_sub_cancel]; omega) (by omega) _) ?_
    rintro _ w2 hx2 rfl
    simp only [↓vsd, vsn, gW, qd, qv, ev, pick, argE, zipE, ne_eq, eq_self, forall_const, implies_true, if_true, if_false, reduceIte, reduceCtorEq, Nat.reduceEqDiff, Nat.reduceAdd, Nat.reduceLT, ↓us_sl5Place, r_sl5Place]
    rw [Nat.add_sub_cancel]
    refine ⟨fun he => ⟨hx.trans hx2, ?_⟩, fun hne => ⟨inR_i64 (by omega), UpTo.next hlt ⟨rfl, fun i hi => ?_, hx.trans hx2⟩⟩⟩
    · rw [PlaceIs.uniq (p := k + 1) (.inr ⟨by omega, by omega, by rw [Nat.add_sub_cancel]; exact he, by rw [Nat.add_sub_cancel]; exact hall⟩) hpl]
    · rcases Nat.lt_succ_iff_lt_or_eq.1 hi with h | rfl
      · exact hall i h
      · exact hne
  · obtain rfl : k = r.length := by omega
    exact ⟨hx, by rw [← PlaceIs.uniq (p := 0) (.inl ⟨rfl, hall⟩) hpl]; rfl⟩
/-- Is a path asked of a bell of a method? -/
def pathOk (nm : List UInt8) (st : Int) (cs : List (List UInt8)) (b : Int) : Prop := IsMethod nm st cs ∧ 1 ≤ b ∧ b ≤ st
instance (nm : List UInt8) (st : Int) (cs : List (List UInt8)) (b : Int) : Decidable (pathOk nm st cs b) := by unfold pathOk; infer_instance
def pathR (nm : List UInt8) (st : Int) (cs : List (List UInt8)) (b : Int) : List Int := if pathOk nm st cs b then pathP (rowsU (roundsL st.toNat) cs (cs.length + 1)) b else []
theorem iPathOf_ok (nm : List UInt8) (st : Int) (v : Value) (cs : List (List UInt8)) (b : Int) (hnm : nm.length ≤ 1048576) (hs : ∀ c ∈ cs, c.length ≤ 1048576) (hl : cs.length ≤ 1000000000) (w : World) (h : Sq fS 1 w v cs) : Fn 24 [mV nm st v, .int .i64 b] w (fun r w' => ∃ x, r = .tuple ⟨[x, .bool (decide (pathOk nm st cs b))]⟩ ∧ Own fI 1 3 w.heap.size w' x (pathR nm st cs b)) := by
  (refine callsV_of mix Try.func24 c_iPathOf ?_; simp only [↓vsd, vsn, gW, qd, qv, ev, pick, argE, zipE, ne_eq, eq_self, forall_const, implies_true, if_true, if_false, reduceIte, reduceCtorEq, Nat.reduceEqDiff, Nat.reduceAdd, Nat.reduceLT, ↓us_iPathOf, r_iPathOf])
  refine m_al ?_
  rintro b1 w1 hb1 hblk1 hx1 hs1
  have h1 : Blk w1 b1 (fM nm st v) 26 := hblk1
  simp only [↓vsd, vsn, gW, qd, qv, ev, pick, argE, zipE, ne_eq, eq_self, forall_const, implies_true, if_true, if_false, reduceIte, reduceCtorEq, Nat.reduceEqDiff, Nat.reduceAdd, Nat.reduceLT, ↓us_iPathOf, r_iPathOf, h1.facts, fMg]
  have hno : ¬ pathOk nm st cs b → ∀ w', ∃ x, Value.tuple ⟨[.slice none 0 0, .bool false]⟩ = .tuple ⟨[x, .bool (decide (pathOk nm st cs b))]⟩ ∧ Own fI 1 3 w.heap.size w' x (pathR nm st cs b) := fun hn w' =>
    ⟨_, by rw [decide_eq_false hn], by rw [pathR, if_neg hn]; exact Own.nil fI_len⟩
  refine m_call (iGoodMethod_ok nm st v cs hnm hs hl _ (h.ext hx1)) ?_
  rintro _ w2 hx2 rfl
  have hx12 := hx1.trans hx2
  have h2 := h1.ext hx2
  by_cases hm : IsMethod nm st cs
  · obtain ⟨n, rfl⟩ : ∃ n : Nat, st = n := ⟨st.toNat, by have := hm.2.1; omega⟩
    simp only [↓vsd, vsn, gW, qd, qv, ev, pick, argE, zipE, ne_eq, eq_self, forall_const, implies_true, if_true, if_false, reduceIte, reduceCtorEq, Nat.reduceEqDiff, Nat.reduceAdd, Nat.reduceLT, ↓us_iPathOf, r_iPathOf, hm, h2.facts, fMg]
    refine m_call (iisBell_ok n b _) ?_
    rintro _ w3 hx3 rfl
    have hx13 := hx12.trans (by first | exact hx3 | exact ud hx3)
    have h3 := h2.ext (by first | exact hx3 | exact ud hx3)
    by_cases hb : 1 ≤ b ∧ b ≤ n
    · have hb1 := hb.1
      have hb2 := hb.2
      simp only [↓vsd, vsn, gW, qd, qv, ev, pick, argE, zipE, ne_eq, eq_self, forall_const, implies_true, if_true, if_false, reduceIte, reduceCtorEq, Nat.reduceEqDiff, Nat.reduceAdd, Nat.reduceLT, ↓us_iPathOf, r_iPathOf, hb1, hb2, h3.facts, fMg]
      refine m_call (ipathOf_ok nm n v cs b hm _ (h.ext hx13)) ?_
      rintro x w4 hx4 ho4
      simp only [↓vsd, vsn, gW, qd, qv, ev, pick, argE, zipE, ne_eq, eq_self, forall_const, implies_true, if_true, if_false, reduceIte, reduceCtorEq, Nat.reduceEqDiff, Nat.reduceAdd, Nat.reduceLT, ↓us_iPathOf, r_iPathOf]
      have hok : pathOk nm n cs b := ⟨hm, hb⟩
      exact ⟨hx13.trans hx4, x, by rw [decide_eq_true hok], by rw [pathR, if_pos hok]; exact ho4.mono hx13.size⟩
    · have hbD : (decide (1 ≤ b) && decide (b ≤ (n : Int))) = false := by rw [← Bool.decide_and]; exact decide_eq_false hb
      simp only [↓vsd, vsn, gW, qd, qv, ev, pick, argE, zipE, ne_eq, eq_self, forall_const, implies_true, if_true, if_false, reduceIte, reduceCtorEq, Nat.reduceEqDiff, Nat.reduceAdd, Nat.reduceLT, ↓us_iPathOf, r_iPathOf, hbD]
      exact ⟨hx13, hno (fun hh => hb hh.2) _⟩
  · simp only [↓vsd, vsn, gW, qd, qv, ev, pick, argE, zipE, ne_eq, eq_self, forall_const, implies_true, if_true, if_false, reduceIte, reduceCtorEq, Nat.reduceEqDiff, Nat.reduceAdd, Nat.reduceLT, ↓us_iPathOf, r_iPathOf, hm]
    exact ⟨hx12, hno (fun hh => hm hh.1) _⟩
theorem sl5Path_ok (nm : List UInt8) (st : Nat) (v : Value) (cs : List (List UInt8)) (b : Int) (hm : IsMethod nm st cs) (w : World) (h : Sq fS 1 w v cs) : Fn 138 [mV nm st v, .int .i64 b] w (fun r w' => Own fI 1 3 w.heap.size w' r (pathP (rowsU (roundsL st) cs (cs.length + 1)) b)) := by
  (refine callsV_of mix Try.func138 c_sl5Path ?_; simp only [↓vsd, vsn, gW, qd, qv, ev, pick, argE, zipE, ne_eq, eq_self, forall_const, implies_true, if_true, if_false, reduceIte, reduceCtorEq, Nat.reduceEqDiff, Nat.reduceAdd, Nat.reduceLT, ↓us_sl5Path, r_sl5Path])
  refine m_al ?_
  rintro b1 w1 hb1 hblk1 hx1 hs1
  have h1 : Blk w1 b1 (fM nm st v) 26 := hblk1
  simp only [↓vsd, vsn, gW, qd, qv, ev, pick, argE, zipE, ne_eq, eq_self, forall_const, implies_true, if_true, if_false, reduceIte, reduceCtorEq, Nat.reduceEqDiff, Nat.reduceAdd, Nat.reduceLT, ↓us_sl5Path, r_sl5Path, h1.facts, fMg]
  have h8 := hm.2.1
  have hcl := hm.2.2.1
  refine m_call (sl1Rounds_ok st (by omega) _) ?_
  rintro _ w2 hx2 rfl
  have hx2 : Ext w1 w2 := by first | exact hx2 | exact ud hx2
  have h2 := h1.ext hx2
  have hx12 := hx1.trans hx2
  simp only [↓vsd, vsn, gW, qd, qv, ev, pick, argE, zipE, ne_eq, eq_self, forall_const, implies_true, if_true, if_false, reduceIte, reduceCtorEq, Nat.reduceEqDiff, Nat.reduceAdd, Nat.reduceLT, ↓us_sl5Path, r_sl5Path, h2.facts, fMg]
  have hrr := roundsL_row st (by omega)
  refine m_call (sl4Lead_ok (roundsL st) v cs st hrr hm.2.2.2 hm.2.2.1.2 _ (h.ext hx12)) ?_
  rintro _ w3 hx3 ⟨y, rfl, ho3⟩
  have hx13 := hx12.trans hx3
  have hRl := rowsU_len (roundsL st) cs cs.length
  have hRr := rowsU_rows hrr cs cs.length
  have hlast : rowsU (roundsL st) cs (cs.length + 1) = rowsU (roundsL st) cs cs.length ++ [underL (roundsL st) cs] := by
    unfold rowsU
    rw [List.range_succ, List.map_append]
    simp
  have hur := underL_row cs hrr
  simp only [↓vsd, vsn, gW, qd, qv, ev, pick, argE, zipE, ne_eq, eq_self, forall_const, implies_true, if_true, if_false, reduceIte, reduceCtorEq, Nat.reduceEqDiff, Nat.reduceAdd, Nat.reduceLT, ↓us_sl5Path, r_sl5Path, ho3.sq.facts]
  generalize rowsU (roundsL st) cs cs.length = R at *
  refine m_upto R.length (fun k vs w' => ∃ x, vs = [x, .int .i64 k] ∧ Own fI 1 3 w3.heap.size w' x (pathP (R.take k) b) ∧ Ext w3 w') ⟨_, rfl, (Own.nil fI_len).to rfl, Ext.refl _⟩ ?_
  rintro k vs w5 hk ⟨x, rfl, ho, hx⟩
  have hq := ho3.sq.ext hx
  by_cases hlt : k < R.length
  · have hltI : (k : Int) < R.length := by omega
    have hltJ : ¬ (R.length : Int) ≤ k := by omega
    have hr := (hRr _ (getD_mem [] hlt)).1
    simp only [↓vsd, vsn, gW, qd, qv, ev, pick, argE, zipE, ne_eq, eq_self, forall_const, implies_true, if_true, if_false, reduceIte, reduceCtorEq, Nat.reduceEqDiff, Nat.reduceAdd, Nat.reduceLT, ↓us_sl5Path, r_sl5Path, hltI, hltJ, hq.facts, hq.at1 [] hlt]
    refine ⟨by omega, m_call (sl5Place_ok _ b hr _) ?_⟩
    rintro _ w6 hx6 rfl
    simp only [↓vsd, vsn, gW, qd, qv, ev, pick, argE, zipE, ne_eq, eq_self, forall_const, implies_true, if_true, if_false, reduceIte, reduceCtorEq, Nat.reduceEqDiff, Nat.reduceAdd, Nat.reduceLT, ↓us_sl5Path, r_sl5Path]
    refine m_bsl (one_el rfl) ?_
    rintro b7 w7 hb7 hblk7 hx7 hs7
    simp only [↓vsd, vsn, gW, qd, qv, ev, pick, argE, zipE, ne_eq, eq_self, forall_const, implies_true, if_true, if_false, reduceIte, reduceCtorEq, Nat.reduceEqDiff, Nat.reduceAdd, Nat.reduceLT, ↓us_sl5Path, r_sl5Path]
    have hx67 := hx6.trans hx7
    have hok := ho.ext hx67
    have hpl := pathP_len (R.take k) b
    have hps := pathP_snoc R b k hlt
    refine m_app hok (Sq.one fI_len hblk7 rfl) fI_one (by decide) (by rw [hpl, List.length_take]; simp; omega) (by decide) (hx.trans hx67).size ?_
    rintro z w8 hoz hgz
    have hx8 := hok.grown (hx.trans hx67) (Nat.le_refl _) hgz
    simp only [↓vsd, vsn, gW, qd, qv, ev, pick, argE, zipE, ne_eq, eq_self, forall_const, implies_true, if_true, if_false, reduceIte, reduceCtorEq, Nat.reduceEqDiff, Nat.reduceAdd, Nat.reduceLT, ↓us_sl5Path, r_sl5Path]
    exact ⟨inR_i64 (by omega), UpTo.next hlt ⟨z, rfl, hoz.to hps.symm, hx8⟩⟩
  · obtain rfl : k = R.length := by omega
    have hltI : ¬ (R.length : Int) < R.length := by omega
    simp only [↓vsd, vsn, gW, qd, qv, ev, pick, argE, zipE, ne_eq, eq_self, forall_const, implies_true, if_true, if_false, reduceIte, reduceCtorEq, Nat.reduceEqDiff, Nat.reduceAdd, Nat.reduceLT, ↓us_sl5Path, r_sl5Path, hltI]
    refine m_call (sl5Place_ok _ b hur _) ?_
    rintro _ w6 hx6 rfl
    simp only [↓vsd, vsn, gW, qd, qv, ev, pick, argE, zipE, ne_eq, eq_self, forall_const, implies_true, if_true, if_false, reduceIte, reduceCtorEq, Nat.reduceEqDiff, Nat.reduceAdd, Nat.reduceLT, ↓us_sl5Path, r_sl5Path]
    refine m_bsl (one_el rfl) ?_
    rintro b7 w7 hb7 hblk7 hx7 hs7
    simp only [↓vsd, vsn, gW, qd, qv, ev, pick, argE, zipE, ne_eq, eq_self, forall_const, implies_true, if_true, if_false, reduceIte, reduceCtorEq, Nat.reduceEqDiff, Nat.reduceAdd, Nat.reduceLT, ↓us_sl5Path, r_sl5Path]
    have hx67 := hx6.trans hx7
    have hok := ho.ext hx67
    have hpl := pathP_len (R.take R.length) b
    refine m_app hok (Sq.one fI_len hblk7 rfl) fI_one (by decide) (by rw [hpl, List.length_take]; simp; omega) (by decide) (hx.trans hx67).size ?_
    rintro z w8 hoz hgz
    have hx8 := hok.grown (hx.trans hx67) (Nat.le_refl _) hgz
    simp only [↓vsd, vsn, gW, qd, qv, ev, pick, argE, zipE, ne_eq, eq_self, forall_const, implies_true, if_true, if_false, reduceIte, reduceCtorEq, Nat.reduceEqDiff, Nat.reduceAdd, Nat.reduceLT, ↓us_sl5Path, r_sl5Path]
    exact ⟨hx13.trans hx8, (hoz.mono hx13.size).to (by rw [hlast, List.take_length, pathP, pathP, List.map_append]; rfl)⟩
theorem sl5Asked_ok (nm : List UInt8) (st : Int) (v : Value) (cs : List (List UInt8)) (b : Int) (hnm : nm.length ≤ 1048576) (hs : ∀ c ∈ cs, c.length ≤ 1048576) (hl : cs.length ≤ 1000000000) (w : World) (h : Sq fS 1 w v cs) : Fn 153 [mV nm st v, .int .i64 b] w (fun r _ => r = .bool (decide (pathOk nm st cs b))) := by
  (refine callsV_of mix Try.func153 c_sl5Asked ?_; simp only [↓vsd, vsn, gW, qd, qv, ev, pick, argE, zipE, ne_eq, eq_self, forall_const, implies_true, if_true, if_false, reduceIte, reduceCtorEq, Nat.reduceEqDiff, Nat.reduceAdd, Nat.reduceLT, ↓us_sl5Asked, r_sl5Asked])
  refine m_al ?_
  rintro b1 w1 hb1 hblk1 hx1 hs1
  have h1 : Blk w1 b1 (fM nm st v) 26 := hblk1
  simp only [↓vsd, vsn, gW, qd, qv, ev, pick, argE, zipE, ne_eq, eq_self, forall_const, implies_true, if_true, if_false, reduceIte, reduceCtorEq, Nat.reduceEqDiff, Nat.reduceAdd, Nat.reduceLT, ↓us_sl5Asked, r_sl5Asked, h1.facts, fMg]
  refine m_call (sl4Good_ok nm st v cs hnm hs hl _ (h.ext hx1)) ?_
  rintro _ w2 hx2 rfl
  have hx12 := hx1.trans hx2
  have h2 := h1.ext hx2
  by_cases hm : IsMethod nm st cs
  · simp only [↓vsd, vsn, gW, qd, qv, ev, pick, argE, zipE, ne_eq, eq_self, forall_const, implies_true, if_true, if_false, reduceIte, reduceCtorEq, Nat.reduceEqDiff, Nat.reduceAdd, Nat.reduceLT, ↓us_sl5Asked, r_sl5Asked, hm, h2.facts, fMg]
    refine m_call (sl1In_ok _ _ _ _) ?_
    rintro _ w3 hx3 rfl
    simp only [↓vsd, vsn, gW, qd, qv, ev, pick, argE, zipE, ne_eq, eq_self, forall_const, implies_true, if_true, if_false, reduceIte, reduceCtorEq, Nat.reduceEqDiff, Nat.reduceAdd, Nat.reduceLT, ↓us_sl5Asked, r_sl5Asked]
    refine ⟨hx12.trans (by first | exact hx3 | exact ud hx3), ?_⟩
    simp only [pathOk, hm, true_and, Bool.decide_and]
  · simp only [↓vsd, vsn, gW, qd, qv, ev, pick, argE, zipE, ne_eq, eq_self, forall_const, implies_true, if_true, if_false, reduceIte, reduceCtorEq, Nat.reduceEqDiff, Nat.reduceAdd, Nat.reduceLT, ↓us_sl5Asked, r_sl5Asked, hm]
    exact ⟨hx12, by rw [decide_eq_false (fun hh : pathOk nm st cs b => hm hh.1)]⟩
theorem sPathOf_ok (nm : List UInt8) (st : Int) (v : Value) (cs : List (List UInt8)) (b : Int) (hnm : nm.length ≤ 1048576) (hs : ∀ c ∈ cs, c.length ≤ 1048576) (hl : cs.length ≤ 1000000000) (w : World) (h : Sq fS 1 w v cs) : Fn 30 [mV nm st v, .int .i64 b] w (fun r w' => ∃ x, r = .tuple ⟨[x, .bool (decide (pathOk nm st cs b))]⟩ ∧ Own fI 1 3 w.heap.size w' x (pathR nm st cs b)) := by
  (refine callsV_of mix Try.func30 c_sPathOf ?_; simp only [↓vsd, vsn, gW, qd, qv, ev, pick, argE, zipE, ne_eq, eq_self, forall_const, implies_true, if_true, if_false, reduceIte, reduceCtorEq, Nat.reduceEqDiff, Nat.reduceAdd, Nat.reduceLT, ↓us_sPathOf, r_sPathOf])
  refine m_al ?_
  rintro b1 w1 hb1 hblk1 hx1 hs1
  have h1 : Blk w1 b1 (fM nm st v) 26 := hblk1
  simp only [↓vsd, vsn, gW, qd, qv, ev, pick, argE, zipE, ne_eq, eq_self, forall_const, implies_true, if_true, if_false, reduceIte, reduceCtorEq, Nat.reduceEqDiff, Nat.reduceAdd, Nat.reduceLT, ↓us_sPathOf, r_sPathOf, h1.facts, fMg]
  refine m_call (sl5Asked_ok nm st v cs b hnm hs hl _ (h.ext hx1)) ?_
  rintro _ w2 hx2 rfl
  have hx12 := hx1.trans hx2
  have h2 := h1.ext hx2
  by_cases hok : pathOk nm st cs b
  · have hD := decide_eq_true hok
    obtain ⟨n, rfl⟩ : ∃ n : Nat, st = n := ⟨st.toNat, by have := hok.1.2.1; omega⟩
    simp only [↓vsd, vsn, gW, qd, qv, ev, pick, argE, zipE, ne_eq, eq_self, forall_const, implies_true, if_true, if_false, reduceIte, reduceCtorEq, Nat.reduceEqDiff, Nat.reduceAdd, Nat.reduceLT, ↓us_sPathOf, r_sPathOf, hD, h2.facts, fMg]
    refine m_call (sl5Path_ok nm n v cs b hok.1 _ (h.ext hx12)) ?_
    rintro x w4 hx4 ho4
    simp only [↓vsd, vsn, gW, qd, qv, ev, pick, argE, zipE, ne_eq, eq_self, forall_const, implies_true, if_true, if_false, reduceIte, reduceCtorEq, Nat.reduceEqDiff, Nat.reduceAdd, Nat.reduceLT, ↓us_sPathOf, r_sPathOf]
    exact ⟨hx12.trans hx4, x, rfl, by rw [pathR, if_pos hok]; exact ho4.mono hx12.size⟩
  · have hD := decide_eq_false hok
    simp only [↓vsd, vsn, gW, qd, qv, ev, pick, argE, zipE, ne_eq, eq_self, forall_const, implies_true, if_true, if_false, reduceIte, reduceCtorEq, Nat.reduceEqDiff, Nat.reduceAdd, Nat.reduceLT, ↓us_sPathOf, r_sPathOf, hD]
    exact ⟨hx12, _, rfl, by rw [pathR, if_neg hok]; exact Own.nil fI_len⟩
end Go.Proofs.Ytnincmnkdjlndaa
