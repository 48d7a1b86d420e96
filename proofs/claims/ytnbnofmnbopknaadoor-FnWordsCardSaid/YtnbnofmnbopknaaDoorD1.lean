/-
  The drawing of inputs: the cursor over the code.
  Conditions: none.
-/
import Derived.Test.YtnbnofmnbopknaaDoorA9
set_option linter.unusedSimpArgs false
set_option linter.unusedVariables false
set_option linter.defProp false
namespace Go.Proofs.YtnbnofmnbopknaaDoor
open Go Go.RowKit
section
variable (P : Program) (k : KT) (e : Env) (w : World)
abbrev b61_1 : X := (.cond (.t 13) (.drw [0, 3] (.c (.q 14 [] (.mv (.t 0))) (.c (.q 15 [] (.nil (.t 14))) (.c (.q 16 [] (.fa 0 (.t 15))) (.c (.q 17 [] (.ld (.t 16))) (.c (.q 18 [] (.mv (.t 0))) (.c (.q 19 [] (.nil (.t 18))) (.c (.q 20 [] (.fa 1 (.t 19))) (.c (.q 21 [] (.ld (.t 20))) (.c (.q 22 [] (.ia 1 (.t 17) (.t 21))) (.c (.q 23 [] (.ld (.t 22))) (.c (.q 24 [] (.cvi .i64 (.t 23))) (.c (.q 3 [] (.mv (.t 24))) .nil))))))))))))) .skip)
def t61_1 := b61_1
theorem u61_1 : vcK P t61_1 k e w = vcK P b61_1 k e w := rfl
abbrev b61_2 : X := (.cond (.t 53) (.seq (.reg [2] (.c (.q 54 [] (.mv (.t 3))) (.c (.q 2 [] (.mv (.t 54))) .nil))) .ret) .skip)
def t61_2 := b61_2
theorem u61_2 : vcK P t61_2 k e w = vcK P b61_2 k e w := rfl
abbrev b61_3 : X := (.seq (.reg [2] (.c (.q 55 [] (.mv (.t 0))) (.c (.q 56 [] (.nil (.t 55))) (.c (.q 57 [] (.fa 2 (.t 56))) (.c (.q 58 [] (.ld (.t 57))) (.c (.q 59 [] (.bin .shr (.t 58) (.c (.int .u64 40)))) (.c (.q 60 [] (.bin .and (.t 59) (.c (.int .u64 255)))) (.c (.q 61 [] (.cvi .i64 (.t 60))) (.c (.q 2 [] (.mv (.t 61))) .nil))))))))) .ret)
def t61_3 := b61_3
theorem u61_3 : vcK P t61_3 k e w = vcK P b61_3 k e w := rfl
abbrev b61_4 : X := (.seq (.seq (.drw [0, 3, 53] (.c (.q 44 [] (.mv (.t 0))) (.c (.q 45 [] (.nil (.t 44))) (.c (.q 46 [] (.fa 1 (.t 45))) (.c (.q 47 [] (.ld (.t 46))) (.c (.q 48 [] (.mv (.t 0))) (.c (.q 49 [] (.nil (.t 48))) (.c (.q 50 [] (.fa 0 (.t 49))) (.c (.q 51 [] (.ld (.t 50))) (.c (.q 52 [] (.lens (.t 51))) (.c (.q 53 [] (.bin .leq (.t 47) (.t 52))) .nil))))))))))) t61_2) t61_3)
def t61_4 := b61_4
theorem u61_4 : vcK P t61_4 k e w = vcK P b61_4 k e w := rfl
abbrev b61_5 : X := (.seq (.reg [0, 3] (.c (.q 32 [] (.mv (.t 0))) (.c (.q 33 [] (.mv (.t 0))) (.c (.q 34 [] (.nil (.t 33))) (.c (.q 35 [] (.fa 2 (.t 34))) (.c (.q 36 [] (.ld (.t 35))) (.c (.q 37 [] (.bin .mul (.t 36) (.c (.int .u64 6364136223846793005)))) (.c (.q 38 [] (.mv (.t 3))) (.c (.q 39 [] (.cvi .u64 (.t 38))) (.c (.q 40 [] (.bin .add (.t 37) (.t 39))) (.c (.q 41 [] (.bin .add (.t 40) (.c (.int .u64 1442695040888963407)))) (.c (.q 42 [] (.nil (.t 32))) (.c (.q 43 [] (.fa 2 (.t 42))) (.c (.e none [] (.st 1 (.t 43) (.t 41))) .nil)))))))))))))) t61_4)
def t61_5 := b61_5
theorem u61_5 : vcK P t61_5 k e w = vcK P b61_5 k e w := rfl
abbrev b61_6 : X := (.seq (.reg [0, 3] (.c (.q 25 [] (.mv (.t 0))) (.c (.q 26 [] (.nil (.t 25))) (.c (.q 27 [] (.fa 1 (.t 26))) (.c (.q 28 [] (.ld (.t 27))) (.c (.q 29 [] (.bin .add (.t 28) (.c (.int .i64 1)))) (.c (.q 30 [] (.nil (.t 25))) (.c (.q 31 [] (.fa 1 (.t 30))) (.c (.e none [] (.st 1 (.t 31) (.t 29))) .nil))))))))) t61_5)
def t61_6 := b61_6
theorem u61_6 : vcK P t61_6 k e w = vcK P b61_6 k e w := rfl
abbrev b61_7 : X := (.seq (.seq (.drw [0, 3, 13] (.c (.q 4 [] (.mv (.t 0))) (.c (.q 5 [] (.nil (.t 4))) (.c (.q 6 [] (.fa 1 (.t 5))) (.c (.q 7 [] (.ld (.t 6))) (.c (.q 8 [] (.mv (.t 0))) (.c (.q 9 [] (.nil (.t 8))) (.c (.q 10 [] (.fa 0 (.t 9))) (.c (.q 11 [] (.ld (.t 10))) (.c (.q 12 [] (.lens (.t 11))) (.c (.q 13 [] (.bin .lss (.t 7) (.t 12))) .nil))))))))))) t61_1) t61_6)
def t61_7 := b61_7
theorem u61_7 : vcK P t61_7 k e w = vcK P b61_7 k e w := rfl
abbrev b61_8 : X := (.seq (.reg [0, 3] (.c (.q 3 [] (.mv (.c (.int .i64 0)))) .nil)) t61_7)
def t61_8 := b61_8
theorem u61_8 : vcK P t61_8 k e w = vcK P b61_8 k e w := rfl
abbrev b61_0 : X := (.seq (.reg [0] (.c (.q 2 [] (.mv (.c (.int .i64 0)))) .nil)) t61_8)
def x_sl1Cur_next := b61_0
theorem u61_0 : vcK P x_sl1Cur_next k e w = vcK P b61_0 k e w := rfl
def r_sl1Cur_next : List XO := [(.mv (.t 2))]
theorem c_sl1Cur_next : convF Tryd.prog [27, 28, 29, 30, 32, 36, 40, 45, 46, 47, 50, 51, 52, 61, 62, 98] Tryd.f61 [([0], []), ([0, 3], []), ([0, 3, 13], []), ([0, 3], []), ([0, 3], []), ([0, 3], []), ([0, 3, 53], []), ([2], []), ([2], [])] = some (x_sl1Cur_next, r_sl1Cur_next) := by kernel_rfl
def us_sl1Cur_next :=  (aI (aI (aI @u61_0 @u61_1) (aI @u61_2 @u61_3)) (aI (aI @u61_4 @u61_5) (aI @u61_6 (aI @u61_7 @u61_8))))
abbrev b46_1 : X := (.cond (.t 7) (.seq (.reg [4] (.c (.q 4 [] (.mv (.c (.int .i64 0)))) .nil)) .ret) .skip)
def t46_1 := b46_1
theorem u46_1 : vcK P t46_1 k e w = vcK P b46_1 k e w := rfl
abbrev b46_2 : X := (.cond (.t 11) (.reg [1, 5] (.c (.q 12 [] (.mv (.t 5))) (.c (.q 13 [] (.bin .mul (.t 12) (.c (.int .i64 256)))) (.c (.q 14 [] (.mv (.t 0))) (.c (.e (some 15) [] (.call true 61 [(.t 14)])) (.c (.q 16 [] (.bin .add (.t 13) (.t 15))) (.c (.q 5 [] (.mv (.t 16))) .nil))))))) .skip)
def t46_2 := b46_2
theorem u46_2 : vcK P t46_2 k e w = vcK P b46_2 k e w := rfl
abbrev b46_3 : X := (.seq (.reg [4] (.c (.q 17 [] (.mv (.t 5))) (.c (.q 18 [] (.mv (.t 1))) (.c (.q 19 [] (.bin .rem (.t 17) (.t 18))) (.c (.q 4 [] (.mv (.t 19))) .nil))))) .ret)
def t46_3 := b46_3
theorem u46_3 : vcK P t46_3 k e w = vcK P b46_3 k e w := rfl
abbrev b46_4 : X := (.seq (.seq (.reg [0, 1, 5, 11] (.c (.q 10 [] (.mv (.t 1))) (.c (.q 11 [] (.bin .gtr (.t 10) (.c (.int .i64 200)))) .nil))) t46_2) t46_3)
def t46_4 := b46_4
theorem u46_4 : vcK P t46_4 k e w = vcK P b46_4 k e w := rfl
abbrev b46_5 : X := (.seq (.reg [0, 1, 5] (.c (.q 8 [] (.mv (.t 0))) (.c (.e (some 9) [] (.call true 61 [(.t 8)])) (.c (.q 5 [] (.mv (.t 9))) .nil)))) t46_4)
def t46_5 := b46_5
theorem u46_5 : vcK P t46_5 k e w = vcK P b46_5 k e w := rfl
abbrev b46_6 : X := (.seq (.seq (.reg [0, 1, 7] (.c (.q 6 [] (.mv (.t 1))) (.c (.q 7 [] (.bin .leq (.t 6) (.c (.int .i64 1)))) .nil))) t46_1) t46_5)
def t46_6 := b46_6
theorem u46_6 : vcK P t46_6 k e w = vcK P b46_6 k e w := rfl
abbrev b46_0 : X := (.seq (.reg [0, 1] (.c (.q 4 [] (.mv (.c (.int .i64 0)))) .nil)) t46_6)
def x_sl1Cur_pick := b46_0
theorem u46_0 : vcK P x_sl1Cur_pick k e w = vcK P b46_0 k e w := rfl
def r_sl1Cur_pick : List XO := [(.mv (.t 4))]
theorem c_sl1Cur_pick : convF Tryd.prog [27, 28, 29, 30, 32, 36, 40, 45, 46, 47, 50, 51, 52, 61, 62, 98] Tryd.f46 [([0, 1], []), ([0, 1, 7], []), ([4], []), ([0, 1, 5], []), ([0, 1, 5, 11], []), ([1, 5], []), ([4], [])] = some (x_sl1Cur_pick, r_sl1Cur_pick) := by kernel_rfl
def us_sl1Cur_pick :=  (aI (aI @u46_0 (aI @u46_1 @u46_2)) (aI (aI @u46_3 @u46_4) (aI @u46_5 @u46_6)))
abbrev b28_1 : X := (.seq (.reg [4] (.c (.q 5 [] (.mv (.t 0))) (.c (.q 6 [] (.mv (.t 1))) (.c (.e (some 7) [] (.call true 46 [(.t 5), (.t 6)])) (.c (.q 8 [] (.bin .eql (.t 7) (.c (.int .i64 0)))) (.c (.q 4 [] (.mv (.t 8))) .nil)))))) .ret)
def t28_1 := b28_1
theorem u28_1 : vcK P t28_1 k e w = vcK P b28_1 k e w := rfl
abbrev b28_0 : X := (.seq (.reg [0, 1] (.c (.q 4 [] (.mv (.c (.bool false)))) .nil)) t28_1)
def x_sl1Cur_one := b28_0
theorem u28_0 : vcK P x_sl1Cur_one k e w = vcK P b28_0 k e w := rfl
def r_sl1Cur_one : List XO := [(.mv (.t 4))]
theorem c_sl1Cur_one : convF Tryd.prog [27, 28, 29, 30, 32, 36, 40, 45, 46, 47, 50, 51, 52, 61, 62, 98] Tryd.f28 [([0, 1], []), ([4], [])] = some (x_sl1Cur_one, r_sl1Cur_one) := by kernel_rfl
def us_sl1Cur_one :=  (aI @u28_0 @u28_1)
abbrev b51_1 : X := (.seq (.reg [4] (.c (.q 5 [] (.mv (.t 1))) (.c (.q 6 [] (.mv (.t 0))) (.c (.q 7 [] (.mv (.t 1))) (.c (.q 8 [] (.lens (.t 7))) (.c (.e (some 9) [] (.call true 46 [(.t 6), (.t 8)])) (.c (.q 10 [] (.ia 1 (.t 5) (.t 9))) (.c (.q 11 [] (.ld (.t 10))) (.c (.q 4 [] (.mv (.t 11))) .nil))))))))) .ret)
def t51_1 := b51_1
theorem u51_1 : vcK P t51_1 k e w = vcK P b51_1 k e w := rfl
abbrev b51_0 : X := (.seq (.reg [0, 1] (.c (.q 4 [] (.mv (.s []))) .nil)) t51_1)
def x_sl1Cur_of := b51_0
theorem u51_0 : vcK P x_sl1Cur_of k e w = vcK P b51_0 k e w := rfl
def r_sl1Cur_of : List XO := [(.mv (.t 4))]
theorem c_sl1Cur_of : convF Tryd.prog [27, 28, 29, 30, 32, 36, 40, 45, 46, 47, 50, 51, 52, 61, 62, 98] Tryd.f51 [([0, 1], []), ([4], [])] = some (x_sl1Cur_of, r_sl1Cur_of) := by kernel_rfl
def us_sl1Cur_of :=  (aI @u51_0 @u51_1)
abbrev b30_1 : X := (.seq (.reg [4] (.c (.q 5 [] (.mv (.t 1))) (.c (.q 6 [] (.mv (.t 0))) (.c (.q 7 [] (.mv (.t 1))) (.c (.q 8 [] (.lens (.t 7))) (.c (.e (some 9) [] (.call true 46 [(.t 6), (.t 8)])) (.c (.q 10 [] (.ia 1 (.t 5) (.t 9))) (.c (.q 11 [] (.ld (.t 10))) (.c (.q 4 [] (.mv (.t 11))) .nil))))))))) .ret)
def t30_1 := b30_1
theorem u30_1 : vcK P t30_1 k e w = vcK P b30_1 k e w := rfl
abbrev b30_0 : X := (.seq (.reg [0, 1] (.c (.q 4 [] (.mv (.c (.int .i64 0)))) .nil)) t30_1)
def x_sl1Cur_among := b30_0
theorem u30_0 : vcK P x_sl1Cur_among k e w = vcK P b30_0 k e w := rfl
def r_sl1Cur_among : List XO := [(.mv (.t 4))]
theorem c_sl1Cur_among : convF Tryd.prog [27, 28, 29, 30, 32, 36, 40, 45, 46, 47, 50, 51, 52, 61, 62, 98] Tryd.f30 [([0, 1], []), ([4], [])] = some (x_sl1Cur_among, r_sl1Cur_among) := by kernel_rfl
def us_sl1Cur_among :=  (aI @u30_0 @u30_1)
abbrev b29_1 : X := (.cond (.t 19) .skip (.exit 0))
def t29_1 := b29_1
theorem u29_1 : vcK P t29_1 k e w = vcK P b29_1 k e w := rfl
abbrev b29_2 : X := (.cond (.t 55) (.drw [0, 1, 2, 7] (.c (.q 57 [] (.mv (.t 1))) (.c (.q 58 [] (.mv (.t 8))) (.c (.q 59 [] (.sub (.t 57) none (some (.t 58)))) (.c (.q 60 [] (.mv (.t 9))) (.c (.q 61 [] (.bin .add (.t 59) (.t 60))) (.c (.q 62 [] (.mv (.t 1))) (.c (.q 63 [] (.mv (.t 8))) (.c (.q 64 [] (.bin .add (.t 63) (.c (.int .i64 1)))) (.c (.q 65 [] (.sub (.t 62) (some (.t 64)) none)) (.c (.q 66 [] (.bin .add (.t 61) (.t 65))) (.c (.q 1 [] (.mv (.t 66))) .nil)))))))))))) (.drw [0, 1, 2, 7] (.c (.q 36 [] (.mv (.t 1))) (.c (.q 37 [] (.mv (.t 8))) (.c (.q 38 [] (.sub (.t 36) none (some (.t 37)))) (.c (.q 39 [] (.mv (.t 1))) (.c (.q 40 [] (.mv (.t 8))) (.c (.q 41 [] (.bin .add (.t 40) (.c (.int .i64 1)))) (.c (.q 42 [] (.sub (.t 39) (some (.t 41)) none)) (.c (.q 43 [] (.bin .add (.t 38) (.t 42))) (.c (.q 1 [] (.mv (.t 43))) .nil)))))))))))
def t29_2 := b29_2
theorem u29_2 : vcK P t29_2 k e w = vcK P b29_2 k e w := rfl
abbrev b29_3 : X := (.cond (.t 44) (.drw [0, 1, 2, 7] (.c (.q 46 [] (.mv (.t 1))) (.c (.q 47 [] (.mv (.t 8))) (.c (.q 48 [] (.sub (.t 46) none (some (.t 47)))) (.c (.q 49 [] (.mv (.t 9))) (.c (.q 50 [] (.bin .add (.t 48) (.t 49))) (.c (.q 51 [] (.mv (.t 1))) (.c (.q 52 [] (.mv (.t 8))) (.c (.q 53 [] (.sub (.t 51) (some (.t 52)) none)) (.c (.q 54 [] (.bin .add (.t 50) (.t 53))) (.c (.q 1 [] (.mv (.t 54))) .nil))))))))))) (.seq (.reg [0, 1, 2, 7, 8, 9, 55] (.c (.q 56 [] (.bin .eql (.t 35) (.c (.int .i64 1)))) (.c (.q 55 [] (.mv (.t 56))) .nil))) t29_2))
def t29_3 := b29_3
theorem u29_3 : vcK P t29_3 k e w = vcK P b29_3 k e w := rfl
abbrev b29_4 : X := (.blk 2 (.seq (.reg [0, 1, 2, 7, 8, 9, 35, 44] (.c (.q 45 [] (.bin .eql (.t 35) (.c (.int .i64 0)))) (.c (.q 44 [] (.mv (.t 45))) .nil))) t29_3))
def t29_4 := b29_4
theorem u29_4 : vcK P t29_4 k e w = vcK P b29_4 k e w := rfl
abbrev b29_5 : X := (.seq (.reg [0, 1, 2, 7, 8, 9, 35] (.c (.q 34 [] (.mv (.t 0))) (.c (.e (some 35) [] (.call true 46 [(.t 34), (.c (.int .i64 3))])) .nil))) t29_4)
def t29_5 := b29_5
theorem u29_5 : vcK P t29_5 k e w = vcK P b29_5 k e w := rfl
abbrev b29_6 : X := (.seq (.reg [0, 1, 2, 7, 8, 9] (.c (.q 26 [] (.mv (.t 2))) (.c (.q 27 [] (.mv (.t 0))) (.c (.q 28 [] (.mv (.t 2))) (.c (.q 29 [] (.len (.t 28))) (.c (.e (some 30) [] (.call true 46 [(.t 27), (.t 29)])) (.c (.q 31 [] (.idx (.t 26) (.t 30))) (.c (.e (some 32) [] (.bsl 5 1 [(.t 31)])) (.c (.e (some 33) [] (.b2s (.t 32))) (.c (.q 9 [] (.mv (.t 33))) .nil)))))))))) t29_5)
def t29_6 := b29_6
theorem u29_6 : vcK P t29_6 k e w = vcK P b29_6 k e w := rfl
abbrev b29_7 : X := (.reg [0, 1, 2, 7] (.c (.q 20 [] (.mv (.t 7))) (.c (.q 21 [] (.bin .sub (.t 20) (.c (.int .i64 1)))) (.c (.q 7 [] (.mv (.t 21))) .nil))))
def t29_7 := b29_7
theorem u29_7 : vcK P t29_7 k e w = vcK P b29_7 k e w := rfl
abbrev b29_8 : X := (.seq (.blk 1 (.seq (.reg [0, 1, 2, 7, 8] (.c (.q 22 [] (.mv (.t 0))) (.c (.q 23 [] (.mv (.t 1))) (.c (.q 24 [] (.len (.t 23))) (.c (.e (some 25) [] (.call true 46 [(.t 22), (.t 24)])) (.c (.q 8 [] (.mv (.t 25))) .nil)))))) t29_6)) t29_7)
def t29_8 := b29_8
theorem u29_8 : vcK P t29_8 k e w = vcK P b29_8 k e w := rfl
abbrev b29_9 : X := (.seq (.seq (.reg [0, 1, 2, 7, 19] (.c (.q 13 [] (.mv (.t 7))) (.c (.q 14 [] (.bin .gtr (.t 13) (.c (.int .i64 0)))) (.c (.q 15 [] (.mv (.t 14))) (.c (.q 16 [(15, true)] (.mv (.t 1))) (.c (.q 17 [(15, true)] (.len (.t 16))) (.c (.q 18 [(15, true)] (.bin .gtr (.t 17) (.c (.int .i64 0)))) (.c (.q 19 [] (.pick (.t 15) (.t 18) (.c (.bool false)))) .nil)))))))) t29_1) t29_8)
def t29_9 := b29_9
theorem u29_9 : vcK P t29_9 k e w = vcK P b29_9 k e w := rfl
abbrev b29_10 : X := (.blk 0 (.loop [1, 7] [0, 2] t29_9))
def t29_10 := b29_10
theorem u29_10 : vcK P t29_10 k e w = vcK P b29_10 k e w := rfl
abbrev b29_11 : X := (.seq (.reg [6] (.c (.q 67 [] (.mv (.t 1))) (.c (.q 6 [] (.mv (.t 67))) .nil))) .ret)
def t29_11 := b29_11
theorem u29_11 : vcK P t29_11 k e w = vcK P b29_11 k e w := rfl
abbrev b29_12 : X := (.seq (.seq (.reg [0, 1, 2, 7] (.c (.q 10 [] (.mv (.t 0))) (.c (.e (some 11) [] (.call true 46 [(.t 10), (.c (.int .i64 2))])) (.c (.q 12 [] (.bin .add (.c (.int .i64 1)) (.t 11))) (.c (.q 7 [] (.mv (.t 12))) .nil))))) t29_10) t29_11)
def t29_12 := b29_12
theorem u29_12 : vcK P t29_12 k e w = vcK P b29_12 k e w := rfl
abbrev b29_0 : X := (.seq (.reg [0, 1, 2] (.c (.q 6 [] (.mv (.s []))) .nil)) t29_12)
def x_sl1Cur_spoilt := b29_0
theorem u29_0 : vcK P x_sl1Cur_spoilt k e w = vcK P b29_0 k e w := rfl
def r_sl1Cur_spoilt : List XO := [(.mv (.t 6))]
theorem c_sl1Cur_spoilt : convF Tryd.prog [27, 28, 29, 30, 32, 36, 40, 45, 46, 47, 50, 51, 52, 61, 62, 98] Tryd.f29 [([0, 1, 2], []), ([0, 1, 2, 7], []), ([1, 7], [0, 2]), ([0, 1, 2, 7, 19], []), ([0, 1, 2, 7, 8], []), ([0, 1, 2, 7, 8, 9], []), ([0, 1, 2, 7, 8, 9, 35], []), ([0, 1, 2, 7, 8, 9, 35, 44], []), ([0, 1, 2, 7], []), ([0, 1, 2, 7, 8, 9, 55], []), ([0, 1, 2, 7], []), ([0, 1, 2, 7], []), ([0, 1, 2, 7], []), ([6], [])] = some (x_sl1Cur_spoilt, r_sl1Cur_spoilt) := by kernel_rfl
def us_sl1Cur_spoilt :=  (aI (aI (aI @u29_0 (aI @u29_1 @u29_2)) (aI @u29_3 (aI @u29_4 @u29_5))) (aI (aI @u29_6 (aI @u29_7 @u29_8)) (aI (aI @u29_9 @u29_10) (aI @u29_11 @u29_12))))
end

/-- A cursor's cells. -/
def fC (v : Value) (a s : Int) : List Value := [v, .int .i64 a, .int .u64 s]
theorem fCg (v : Value) (a s : Int) : (∀ u, (fC v a s).getD 0 u = v) ∧ (∀ u, (fC v a s).getD 1 u = .int .i64 a) ∧ (∀ u, (fC v a s).getD 2 u = .int .u64 s) ∧ (fC v a s).length = 3 := ⟨fun _ => rfl, fun _ => rfl, fun _ => rfl, rfl⟩
/-- Block b holds a cursor over the code, made behind W, at place n or ahead of it. -/
def Cur (W : World) (b n : Nat) (w : World) : Prop := ∃ (v : Value) (code : List UInt8) (at_ : Nat) (seed : Int), Blk w b (fC v at_ seed) 52 ∧ Sq fU 1 W v code ∧ code.length ≤ 1048576 ∧ at_ ≤ n ∧ W.heap.size ≤ b ∧ Ext W w
theorem Cur.mono {W : World} {b n m : Nat} {w : World} (h : Cur W b n w) (hm : n ≤ m) : Cur W b m w := by
  obtain ⟨v, code, a, s, hb, hq, hc, ha, hW, hx⟩ := h
  exact ⟨v, code, a, s, hb, hq, hc, by omega, hW, hx⟩
theorem Cur.ext {W : World} {b n : Nat} {w w' : World} (h : Cur W b n w) (hx' : Ext w w') : Cur W b n w' := by
  obtain ⟨v, code, a, s, hb, hq, hc, ha, hW, hx⟩ := h
  exact ⟨v, code, a, s, hb.ext hx', hq, hc, ha, hW, hx.trans hx'⟩
theorem Cur.base {W : World} {b n : Nat} {w : World} (h : Cur W b n w) : Ext W w := by
  obtain ⟨v, code, a, s, hb, hq, hc, ha, hW, hx⟩ := h
  exact hx
theorem Cur.lt {W : World} {b n : Nat} {w : World} (h : Cur W b n w) : W.heap.size ≤ b ∧ b < w.heap.size := by
  obtain ⟨v, code, a, s, hb, hq, hc, ha, hW, hx⟩ := h
  exact ⟨hW, hb.lt⟩
theorem gdr {w w' : World} {r : Option Nat} (h : w.grownBy w' r) : w.grownBy w'.drew r := ⟨h.os, h.tape, h.output, h.size, h.block⟩
theorem gud {w w' : World} {r : Option Nat} (h : w.drew.grownBy w' r) : w.grownBy w' r := ⟨h.os, h.tape, h.output, h.size, h.block⟩
theorem grown_new {w w1 w2 : World} {r r' : Option Nat} (h : w.grownBy w1 r) (h2 : w1.grownBy w2 r') (hr : ∀ b, r' = some b → w.heap.size ≤ b) : w.grownBy w2 r :=
  ⟨h2.os.trans h.os, h2.tape.trans h.tape, h2.output.trans h.output, Nat.le_trans h.size h2.size, fun i hi hne => (h2.block i (Nat.lt_of_lt_of_le hi h.size) (fun e => by have := hr i e.symm; omega)).trans (h.block i hi hne)⟩
/-- A cursor stays where another block behind it was written. -/
theorem Cur.keep {W : World} {b n : Nat} {w w' : World} {r : Option Nat} (h : Cur W b n w) (hg : w.grownBy w' r) (hr : ∀ c, r = some c → b < c) : Cur W b n w' := by
  obtain ⟨v, code, a, s, hb, hq, hc, ha, hW, hx⟩ := h
  exact ⟨v, code, a, s, hb.same (hg.block b hb.lt (fun e => by have := hr b e.symm; omega)), hq, hc, ha, hW, Below.trans hx ⟨hg.os, hg.tape, hg.output, hg.size, fun i hi => hg.block i (by have := hx.size; omega) (fun e => by have := hr i e.symm; omega)⟩⟩
theorem and_255 (a : Int) : ∃ x : Nat, bitV .and .u64 a 255 = x ∧ x < 256 := by
  have h := (BitVec.ofInt 64 a &&& BitVec.ofInt 64 255).isLt
  have h2 : (BitVec.ofInt 64 a &&& BitVec.ofInt 64 255).toNat < 256 := by
    rw [BitVec.toNat_and]
    exact Nat.lt_of_le_of_lt Nat.and_le_right (by decide)
  refine ⟨(BitVec.ofInt 64 a &&& BitVec.ofInt 64 255).toNat, ?_, h2⟩
  show IntKind.u64.wrap (((BitVec.ofInt 64 a &&& BitVec.ofInt 64 255).toNat : Nat) : Int) = _
  rw [IntKind.wrap_u64, Int.emod_eq_of_lt (by omega) (by omega)]
/-- The call of f with a cursor: the cursor has gone on, its block alone was written. -/
def CurFn (f : Nat) (args : List Value) (W : World) (b n k : Nat) (w : World) (R : Value → World → Prop) : Prop := CallsV Tryd.prog f args w fun r w' => Cur W b (n + k) w' ∧ w.grownBy w' (some b) ∧ R r w'
/-- The cursor's value. -/
abbrev cV (b : Nat) : Value := .pointer (some ⟨b, 0, none⟩)
theorem sl1Cur_next_ok (W : World) (b n : Nat) (w : World) (hn : n ≤ 1000000000) (hc : Cur W b n w) : CurFn 61 [cV b] W b n 1 w (fun r _ => ∃ x : Nat, r = .int .i64 x ∧ x < 256) := by
  obtain ⟨v, code, at_, seed, hb, hq, hcl, hat, hWb, hx⟩ := hc
  have hqw := hq.ext hx
  (refine callsV_of mix Tryd.func61 c_sl1Cur_next ?_; simp only [↓vsd, vsn, gW, qd, qv, ev, pick, argE, zipE, ne_eq, eq_self, forall_const, implies_true, if_true, if_false, reduceIte, reduceCtorEq, Nat.reduceEqDiff, Nat.reduceAdd, Nat.reduceLT, ↓us_sl1Cur_next, r_sl1Cur_next])
  by_cases hlt : at_ < code.length
  · have hltI : (at_ : Int) < code.length := by omega
    simp only [↓vsd, vsn, gW, qd, qv, ev, pick, argE, zipE, ne_eq, eq_self, forall_const, implies_true, if_true, if_false, reduceIte, reduceCtorEq, Nat.reduceEqDiff, Nat.reduceAdd, Nat.reduceLT, ↓us_sl1Cur_next, r_sl1Cur_next, hb.facts, fCg, hqw.facts, hqw.at1 0 hlt, hltI]
    refine ⟨by omega, inR_i64 (by omega), ?_⟩
    have hbd : Blk w.drew.drew b (fC v at_ seed) 52 := hb
    refine m_st hbd rfl (by decide : 1 + 1 ≤ 3) (fI_one _) ?_
    rintro w1 hb1' hu1
    have hb1 : Blk w1 b (fC v (at_ + 1 : Nat) seed) 52 := hb1'
    have hxW1 : Ext W w1 := hu1.below (dr (dr hx)) hWb
    have hq1 := hq.ext hxW1
    have hg1 : w.grownBy w1 (some b) := gud (gud hu1.grown)
    simp only [↓vsd, vsn, gW, qd, qv, ev, pick, argE, zipE, ne_eq, eq_self, forall_const, implies_true, if_true, if_false, reduceIte, reduceCtorEq, Nat.reduceEqDiff, Nat.reduceAdd, Nat.reduceLT, ↓us_sl1Cur_next, r_sl1Cur_next, hb1.facts, fCg]
    refine m_st hb1 rfl (by decide : 2 + 1 ≤ 3) (by intro u hu; simp only [cells_int, List.mem_singleton] at hu; subst hu; rfl) ?_
    rintro w2 hb2' hu2
    obtain ⟨s2, hb2⟩ : ∃ s2, Blk w2 b (fC v (at_ + 1 : Nat) s2) 52 := ⟨_, hb2'⟩
    have hxW2 : Ext W w2 := hu2.below (hxW1) hWb
    have hq2 := hq.ext hxW2
    have hg2 : w.grownBy w2 (some b) := grown_trans hg1 (hu2.grown)
    obtain ⟨y, hy, hy2⟩ := and_255 (s2.fdiv (2 ^ min (Int.toNat 40) IntKind.u64.bits))
    simp only [↓vsd, vsn, gW, qd, qv, ev, pick, argE, zipE, ne_eq, eq_self, forall_const, implies_true, if_true, if_false, reduceIte, reduceCtorEq, Nat.reduceEqDiff, Nat.reduceAdd, Nat.reduceLT, ↓us_sl1Cur_next, r_sl1Cur_next, hb2.facts, fCg, hq2.facts]
    rw [hy]
    have hcur : Cur W b (n + 1) w2.drew := ⟨v, code, at_ + 1, s2, hb2, hq, hcl, by omega, hWb, dr hxW2⟩
    refine ⟨fun _ => ⟨hcur, gdr hg2, _, rfl, (code.getD at_ 0).toNat_lt⟩, fun _ => ⟨by decide, inR_i64 (by omega), hcur, gdr hg2, y, rfl, hy2⟩⟩
  · have hltI : ¬ (at_ : Int) < code.length := by omega
    simp only [↓vsd, vsn, gW, qd, qv, ev, pick, argE, zipE, ne_eq, eq_self, forall_const, implies_true, if_true, if_false, reduceIte, reduceCtorEq, Nat.reduceEqDiff, Nat.reduceAdd, Nat.reduceLT, ↓us_sl1Cur_next, r_sl1Cur_next, hb.facts, fCg, hqw.facts, hltI]
    refine ⟨inR_i64 (by omega), ?_⟩
    have hbd : Blk w.drew b (fC v at_ seed) 52 := hb
    refine m_st hbd rfl (by decide : 1 + 1 ≤ 3) (fI_one _) ?_
    rintro w1 hb1' hu1
    have hb1 : Blk w1 b (fC v (at_ + 1 : Nat) seed) 52 := hb1'
    have hxW1 : Ext W w1 := hu1.below (dr hx) hWb
    have hq1 := hq.ext hxW1
    have hg1 : w.grownBy w1 (some b) := gud hu1.grown
    simp only [↓vsd, vsn, gW, qd, qv, ev, pick, argE, zipE, ne_eq, eq_self, forall_const, implies_true, if_true, if_false, reduceIte, reduceCtorEq, Nat.reduceEqDiff, Nat.reduceAdd, Nat.reduceLT, ↓us_sl1Cur_next, r_sl1Cur_next, hb1.facts, fCg]
    refine m_st hb1 rfl (by decide : 2 + 1 ≤ 3) (by intro u hu; simp only [cells_int, List.mem_singleton] at hu; subst hu; rfl) ?_
    rintro w2 hb2' hu2
    obtain ⟨s2, hb2⟩ : ∃ s2, Blk w2 b (fC v (at_ + 1 : Nat) s2) 52 := ⟨_, hb2'⟩
    have hxW2 : Ext W w2 := hu2.below (hxW1) hWb
    have hq2 := hq.ext hxW2
    have hg2 : w.grownBy w2 (some b) := grown_trans hg1 (hu2.grown)
    obtain ⟨y, hy, hy2⟩ := and_255 (s2.fdiv (2 ^ min (Int.toNat 40) IntKind.u64.bits))
    simp only [↓vsd, vsn, gW, qd, qv, ev, pick, argE, zipE, ne_eq, eq_self, forall_const, implies_true, if_true, if_false, reduceIte, reduceCtorEq, Nat.reduceEqDiff, Nat.reduceAdd, Nat.reduceLT, ↓us_sl1Cur_next, r_sl1Cur_next, hb2.facts, fCg, hq2.facts]
    rw [hy]
    have hcur : Cur W b (n + 1) w2.drew := ⟨v, code, at_ + 1, s2, hb2, hq, hcl, by omega, hWb, dr hxW2⟩
    refine ⟨fun _ => ⟨hcur, gdr hg2, 0, rfl, by omega⟩, fun _ => ⟨by decide, inR_i64 (by omega), hcur, gdr hg2, y, rfl, hy2⟩⟩
theorem sl1Cur_pick_ok (W : World) (b n : Nat) (m : Int) (hm : m ≤ 1000000) (w : World) (hn : n ≤ 900000000) (hc : Cur W b n w) : CurFn 46 [cV b, .int .i64 m] W b n 2 w (fun r _ => ∃ x : Nat, r = .int .i64 x ∧ (x = 0 ∨ (x : Int) < m)) := by
  (refine callsV_of mix Tryd.func46 c_sl1Cur_pick ?_; simp only [↓vsd, vsn, gW, qd, qv, ev, pick, argE, zipE, ne_eq, eq_self, forall_const, implies_true, if_true, if_false, reduceIte, reduceCtorEq, Nat.reduceEqDiff, Nat.reduceAdd, Nat.reduceLT, ↓us_sl1Cur_pick, r_sl1Cur_pick])
  refine ⟨fun h => ⟨hc.mono (by omega), grown_refl _ _, 0, rfl, .inl rfl⟩, fun h1 => ?_⟩
  obtain ⟨m, rfl⟩ : ∃ k : Nat, m = k := ⟨m.toNat, by omega⟩
  have hmod (x : Nat) : x % m < m := Nat.mod_lt _ (by omega)
  refine m_callw (.inl rfl) (sl1Cur_next_ok W b n w (by omega) hc) ?_
  rintro _ w1 ⟨hc1, hg1, x, rfl, hx⟩
  simp only [↓vsd, vsn, gW, qd, qv, ev, pick, argE, zipE, ne_eq, eq_self, forall_const, implies_true, if_true, if_false, reduceIte, reduceCtorEq, Nat.reduceEqDiff, Nat.reduceAdd, Nat.reduceLT, ↓us_sl1Cur_pick, r_sl1Cur_pick]
  refine ⟨fun hbig => ⟨inR_i64 (by omega), m_callw (.inr rfl) (sl1Cur_next_ok W b (n + 1) w1 (by omega) hc1) ?_⟩, fun hsm => ⟨by omega, hc1.mono (by omega), hg1, x % m, rfl, .inr (by have := hmod x; omega)⟩⟩
  rintro _ w2 ⟨hc2, hg2, y, rfl, hy⟩
  have e : (x : Int) * 256 + (y : Nat) = ((x * 256 + y : Nat) : Int) := by omega
  simp only [↓vsd, vsn, gW, qd, qv, ev, pick, argE, zipE, ne_eq, eq_self, forall_const, implies_true, if_true, if_false, reduceIte, reduceCtorEq, Nat.reduceEqDiff, Nat.reduceAdd, Nat.reduceLT, ↓us_sl1Cur_pick, r_sl1Cur_pick, e]
  exact ⟨inR_i64 (by omega), by omega, hc2, grown_trans hg1 hg2, _, rfl, .inr (by have := hmod (x * 256 + y); omega)⟩
theorem sl1Cur_one_ok (W : World) (b n : Nat) (m : Int) (hm : m ≤ 1000000) (w : World) (hn : n ≤ 900000000) (hc : Cur W b n w) : CurFn 28 [cV b, .int .i64 m] W b n 2 w (fun r _ => ∃ x : Bool, r = .bool x) := by
  (refine callsV_of mix Tryd.func28 c_sl1Cur_one ?_; simp only [↓vsd, vsn, gW, qd, qv, ev, pick, argE, zipE, ne_eq, eq_self, forall_const, implies_true, if_true, if_false, reduceIte, reduceCtorEq, Nat.reduceEqDiff, Nat.reduceAdd, Nat.reduceLT, ↓us_sl1Cur_one, r_sl1Cur_one])
  refine m_callw (.inl rfl) (sl1Cur_pick_ok W b n m hm w hn hc) ?_
  rintro _ w1 ⟨hc1, hg1, x, rfl, hx⟩
  simp only [↓vsd, vsn, gW, qd, qv, ev, pick, argE, zipE, ne_eq, eq_self, forall_const, implies_true, if_true, if_false, reduceIte, reduceCtorEq, Nat.reduceEqDiff, Nat.reduceAdd, Nat.reduceLT, ↓us_sl1Cur_one, r_sl1Cur_one]
  exact ⟨hc1, hg1, _, rfl⟩
/-- A slice that is read and that a cursor at block b does not touch. -/
def Off (b : Nat) (v : Value) : Prop := ∀ g : Nat, v.ownBlock = some g → g ≠ b
theorem sl1Cur_of_ok (W : World) (b n : Nat) (v : Value) (l : List (List UInt8)) (w : World) (hn : n ≤ 900000000) (hl : 0 < l.length ∧ l.length ≤ 1000) (hc : Cur W b n w) (hv : ∀ w', w.grownBy w' (some b) → Sq fS 1 w' v l) : CurFn 51 [cV b, v] W b n 2 w (fun r _ => ∃ x, r = S x ∧ x ∈ l) := by
  (refine callsV_of mix Tryd.func51 c_sl1Cur_of ?_; simp only [↓vsd, vsn, gW, qd, qv, ev, pick, argE, zipE, ne_eq, eq_self, forall_const, implies_true, if_true, if_false, reduceIte, reduceCtorEq, Nat.reduceEqDiff, Nat.reduceAdd, Nat.reduceLT, ↓us_sl1Cur_of, r_sl1Cur_of])
  have h0 := hv w (grown_refl _ _)
  simp only [↓vsd, vsn, gW, qd, qv, ev, pick, argE, zipE, ne_eq, eq_self, forall_const, implies_true, if_true, if_false, reduceIte, reduceCtorEq, Nat.reduceEqDiff, Nat.reduceAdd, Nat.reduceLT, ↓us_sl1Cur_of, r_sl1Cur_of, h0.facts]
  refine m_callw (.inl rfl) (sl1Cur_pick_ok W b n l.length (by omega) w hn hc) ?_
  rintro _ w1 ⟨hc1, hg1, x, rfl, hx⟩
  have h1 := hv w1 hg1
  have hlt : x < l.length := by omega
  simp only [↓vsd, vsn, gW, qd, qv, ev, pick, argE, zipE, ne_eq, eq_self, forall_const, implies_true, if_true, if_false, reduceIte, reduceCtorEq, Nat.reduceEqDiff, Nat.reduceAdd, Nat.reduceLT, ↓us_sl1Cur_of, r_sl1Cur_of, h1.facts, h1.at1 [] hlt]
  exact ⟨by omega, hc1, hg1, _, rfl, getD_mem _ hlt⟩
theorem sl1Cur_among_ok (W : World) (b n : Nat) (v : Value) (l : List Int) (w : World) (hn : n ≤ 900000000) (hl : 0 < l.length ∧ l.length ≤ 1000) (hc : Cur W b n w) (hv : ∀ w', w.grownBy w' (some b) → Sq fI 1 w' v l) : CurFn 30 [cV b, v] W b n 2 w (fun r _ => ∃ x : Int, r = .int .i64 x ∧ x ∈ l) := by
  (refine callsV_of mix Tryd.func30 c_sl1Cur_among ?_; simp only [↓vsd, vsn, gW, qd, qv, ev, pick, argE, zipE, ne_eq, eq_self, forall_const, implies_true, if_true, if_false, reduceIte, reduceCtorEq, Nat.reduceEqDiff, Nat.reduceAdd, Nat.reduceLT, ↓us_sl1Cur_among, r_sl1Cur_among])
  have h0 := hv w (grown_refl _ _)
  simp only [↓vsd, vsn, gW, qd, qv, ev, pick, argE, zipE, ne_eq, eq_self, forall_const, implies_true, if_true, if_false, reduceIte, reduceCtorEq, Nat.reduceEqDiff, Nat.reduceAdd, Nat.reduceLT, ↓us_sl1Cur_among, r_sl1Cur_among, h0.facts]
  refine m_callw (.inl rfl) (sl1Cur_pick_ok W b n l.length (by omega) w hn hc) ?_
  rintro _ w1 ⟨hc1, hg1, x, rfl, hx⟩
  have h1 := hv w1 hg1
  have hlt : x < l.length := by omega
  simp only [↓vsd, vsn, gW, qd, qv, ev, pick, argE, zipE, ne_eq, eq_self, forall_const, implies_true, if_true, if_false, reduceIte, reduceCtorEq, Nat.reduceEqDiff, Nat.reduceAdd, Nat.reduceLT, ↓us_sl1Cur_among, r_sl1Cur_among, h1.facts, h1.at1 0 hlt]
  exact ⟨by omega, hc1, hg1, _, rfl, getD_mem _ hlt⟩
theorem sl1Cur_spoilt_ok (W : World) (b n : Nat) (t s : List UInt8) (w : World) (hn : n ≤ 800000000) (ht : t.length ≤ 1000) (hs : 0 < s.length ∧ s.length ≤ 100) (hc : Cur W b n w) : CurFn 29 [cV b, S t, S s] W b n 20 w (fun r _ => ∃ x, r = S x ∧ x.length ≤ t.length + 2) := by
  (refine callsV_of mix Tryd.func29 c_sl1Cur_spoilt ?_; simp only [↓vsd, vsn, gW, qd, qv, ev, pick, argE, zipE, ne_eq, eq_self, forall_const, implies_true, if_true, if_false, reduceIte, reduceCtorEq, Nat.reduceEqDiff, Nat.reduceAdd, Nat.reduceLT, ↓us_sl1Cur_spoilt, r_sl1Cur_spoilt])
  refine m_callw (.inl rfl) (sl1Cur_pick_ok W b n 2 (by omega) w (by omega) hc) ?_
  rintro _ w1 ⟨hc1, hg1, x, rfl, hx⟩
  simp only [↓vsd, vsn, gW, qd, qv, ev, pick, argE, zipE, ne_eq, eq_self, forall_const, implies_true, if_true, if_false, reduceIte, reduceCtorEq, Nat.reduceEqDiff, Nat.reduceAdd, Nat.reduceLT, ↓us_sl1Cur_spoilt, r_sl1Cur_spoilt]
  refine ⟨inR_i64 (by omega), ?_⟩
  refine m_loop (fun m vs w' => ∃ t' : List UInt8, vs = [S t', .int .i64 m] ∧ m ≤ 2 ∧ t'.length + m ≤ t.length + 2 ∧ Cur W b (n + 14 - 6 * m) w' ∧ w.grownBy w' (some b)) (1 + x) ⟨t, by first | rfl | (simp; done) | (simp; omega), by omega, by omega, hc1.mono (by omega), hg1⟩ ?_
  rintro m vs w2 ⟨t', rfl, hm, htl, hc2, hg2⟩
  simp only [↓vsd, vsn, gW, qd, qv, ev, pick, argE, zipE, ne_eq, eq_self, forall_const, implies_true, if_true, if_false, reduceIte, reduceCtorEq, Nat.reduceEqDiff, Nat.reduceAdd, Nat.reduceLT, ↓us_sl1Cur_spoilt, r_sl1Cur_spoilt]
  refine ⟨fun hlt => ?_, fun hge => ?_⟩
  · have htI : (t'.length : Int) ≤ 1000000 := by omega
    have h0 : 0 < t'.length := by omega
    refine m_callw (.inl rfl) (sl1Cur_pick_ok W b _ t'.length htI w2 (by omega) hc2) ?_
    rintro _ w3 ⟨hc3, hg3, i, rfl, hi⟩
    have hil : i < t'.length := by omega
    simp only [↓vsd, vsn, gW, qd, qv, ev, pick, argE, zipE, ne_eq, eq_self, forall_const, implies_true, if_true, if_false, reduceIte, reduceCtorEq, Nat.reduceEqDiff, Nat.reduceAdd, Nat.reduceLT, ↓us_sl1Cur_spoilt, r_sl1Cur_spoilt]
    refine m_callw (.inl rfl) (sl1Cur_pick_ok W b _ s.length (by omega) w3 (by omega) hc3) ?_
    rintro _ w4 ⟨hc4, hg4, j, rfl, hj⟩
    have hjl : j < s.length := by omega
    simp only [↓vsd, vsn, gW, qd, qv, ev, pick, argE, zipE, ne_eq, eq_self, forall_const, implies_true, if_true, if_false, reduceIte, reduceCtorEq, Nat.reduceEqDiff, Nat.reduceAdd, Nat.reduceLT, ↓us_sl1Cur_spoilt, r_sl1Cur_spoilt]
    refine ⟨by omega, m_bsl (one_el rfl) ?_⟩
    rintro b5 w5 hb5 hblk5 hx5 hs5
    simp only [↓vsd, vsn, gW, qd, qv, ev, pick, argE, zipE, ne_eq, eq_self, forall_const, implies_true, if_true, if_false, reduceIte, reduceCtorEq, Nat.reduceEqDiff, Nat.reduceAdd, Nat.reduceLT, ↓us_sl1Cur_spoilt, r_sl1Cur_spoilt]
    refine m_b2s (l := [s.getD j 0]) (Sq.one (f := fU) fU_len hblk5 rfl) ?_
    simp only [↓vsd, vsn, gW, qd, qv, ev, pick, argE, zipE, ne_eq, eq_self, forall_const, implies_true, if_true, if_false, reduceIte, reduceCtorEq, Nat.reduceEqDiff, Nat.reduceAdd, Nat.reduceLT, ↓us_sl1Cur_spoilt, r_sl1Cur_spoilt]
    refine m_callw (.inl rfl) (sl1Cur_pick_ok W b _ 3 (by omega) w5 (by omega) (hc4.ext hx5)) ?_
    rintro _ w6 ⟨hc6, hg6, q, rfl, hq⟩
    have hg26 : w.grownBy w6 (some b) := grown_trans (grown_trans (grown_trans (grown_trans hg2 hg3) hg4) (grown_ext _ hx5)) hg6
    simp only [↓vsd, vsn, gW, qd, qv, ev, pick, argE, zipE, ne_eq, eq_self, forall_const, implies_true, if_true, if_false, reduceIte, reduceCtorEq, Nat.reduceEqDiff, Nat.reduceAdd, Nat.reduceLT, ↓us_sl1Cur_spoilt, r_sl1Cur_spoilt]
    obtain ⟨p, rfl⟩ : ∃ p, m = p + 1 := ⟨m - 1, by omega⟩
    have hp1 : ((p + 1 : Nat) : Int) - 1 = (p : Nat) := by omega
    have hcd : Cur W b (n + 14 - 6 * p) w6.drew := (hc6.mono (by omega)).ext (dr (Ext.refl _))
    have l1 : (t'.take i).length = i := by rw [List.length_take]; omega
    have l2 : (t'.drop i).length = t'.length - i := List.length_drop
    have l3 : (t'.drop (i + 1)).length = t'.length - (i + 1) := List.length_drop
    rw [hp1]
    refine ⟨fun _ => ⟨by omega, by omega, by omega, by simp only [List.length_append, List.length_singleton]; omega, inR_i64 (by omega), p, by omega, _, ⟨rfl, rfl⟩, by omega, by simp only [List.length_append, List.length_singleton]; omega, hcd, gdr hg26⟩,
      fun _ => ⟨fun _ => ⟨by omega, by omega, inR_i64 (by omega), by omega, by simp only [List.length_append, List.length_singleton]; omega, inR_i64 (by omega), p, by omega, _, ⟨rfl, rfl⟩, by omega, by simp only [List.length_append, List.length_singleton]; omega, hcd, gdr hg26⟩,
      fun _ => ⟨by omega, inR_i64 (by omega), by omega, by omega, inR_i64 (by omega), p, by omega, _, ⟨rfl, rfl⟩, by omega, by simp only [List.length_append]; omega, hcd, gdr hg26⟩⟩⟩
  · exact ⟨hc2.mono (by omega), hg2, _, rfl, by omega⟩
end Go.Proofs.YtnbnofmnbopknaaDoor
