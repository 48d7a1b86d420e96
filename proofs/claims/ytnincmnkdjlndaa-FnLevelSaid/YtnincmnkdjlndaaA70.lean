/-
  All changes of a stage, and the change between two rows, of both sides.
  Conditions: none.
-/
import Derived.Test.YtnincmnkdjlndaaPy
import Derived.Test.YtnincmnkdjlndaaA27
import Derived.Test.YtnincmnkdjlndaaA53
import Derived.Test.YtnincmnkdjlndaaD3
set_option linter.unusedSimpArgs false
set_option linter.unusedVariables false
set_option linter.defProp false
namespace Go.Proofs.Ytnincmnkdjlndaa
open Go Go.RowKit
section
variable (P : Program) (k : KT) (e : Env) (w : World)
abbrev b84_1 : X := (.cond (.t 10) (.seq (.reg [2, 3] (.c (.q 2 [] (.mv (.c (.slice none 0 0)))) (.c (.q 3 [] (.mv (.c (.bool false)))) .nil))) .ret) .skip)
def t84_1 := b84_1
theorem u84_1 : vcK P t84_1 k e w = vcK P b84_1 k e w := rfl
abbrev b84_2 : X := (.cond (.t 25) (.reg [0, 4, 5, 6, 13, 14, 17, 18] (.c (.q 26 [] (.mv (.t 6))) (.c (.q 27 [] (.mv (.t 0))) (.c (.e (some 28) [] (.call false 142 [(.t 27)])) (.c (.q 29 [] (.mv (.t 7))) (.c (.q 30 [] (.mv (.t 7))) (.c (.q 31 [] (.bin .add (.t 30) (.c (.int .i64 1)))) (.c (.q 32 [] (.sub (.t 28) (some (.t 29)) (some (.t 31)))) (.c (.q 33 [] (.bin .add (.t 26) (.t 32))) (.c (.q 6 [] (.mv (.t 33))) .nil)))))))))) .skip)
def t84_2 := b84_2
theorem u84_2 : vcK P t84_2 k e w = vcK P b84_2 k e w := rfl
abbrev b84_3 : X := (.seq (.reg [0, 4, 5, 6, 7, 13, 14, 17, 18, 25] (.c (.q 21 [] (.mv (.t 5))) (.c (.q 22 [] (.mv (.t 7))) (.c (.q 23 [] (.bin .shr (.t 21) (.t 22))) (.c (.q 24 [] (.bin .and (.t 23) (.c (.int .i64 1)))) (.c (.q 25 [] (.bin .eql (.t 24) (.c (.int .i64 1)))) .nil)))))) t84_2)
def t84_3 := b84_3
theorem u84_3 : vcK P t84_3 k e w = vcK P b84_3 k e w := rfl
abbrev b84_4 : X := (.reg [0, 4, 5, 6, 13, 14, 17, 18] (.c (.q 34 [] (.bin .add (.t 18) (.c (.int .i64 1)))) (.c (.q 18 [] (.mv (.t 34))) .nil)))
def t84_4 := b84_4
theorem u84_4 : vcK P t84_4 k e w = vcK P b84_4 k e w := rfl
abbrev b84_5 : X := (.seq (.blk 3 (.seq (.reg [0, 4, 5, 6, 7, 13, 14, 17, 18] (.c (.q 20 [] (.mv (.t 18))) (.c (.q 7 [] (.mv (.t 20))) .nil))) t84_3)) t84_4)
def t84_5 := b84_5
theorem u84_5 : vcK P t84_5 k e w = vcK P b84_5 k e w := rfl
abbrev b84_6 : X := (.seq (.cond (.t 19) .skip (.exit 2)) t84_5)
def t84_6 := b84_6
theorem u84_6 : vcK P t84_6 k e w = vcK P b84_6 k e w := rfl
abbrev b84_7 : X := (.seq (.reg [0, 4, 5, 6, 13, 14, 17, 18, 19] (.c (.q 19 [] (.bin .lss (.t 18) (.t 17))) .nil)) t84_6)
def t84_7 := b84_7
theorem u84_7 : vcK P t84_7 k e w = vcK P b84_7 k e w := rfl
abbrev b84_8 : X := (.blk 2 (.loop [6, 18] [0, 4, 5, 13, 14, 17] t84_7))
def t84_8 := b84_8
theorem u84_8 : vcK P t84_8 k e w = vcK P b84_8 k e w := rfl
abbrev b84_9 : X := (.cond (.t 36) (.reg [0, 4, 6, 13, 14] (.c (.q 6 [] (.mv (.s [45]))) .nil)) .skip)
def t84_9 := b84_9
theorem u84_9 : vcK P t84_9 k e w = vcK P b84_9 k e w := rfl
abbrev b84_10 : X := (.cond (.t 39) (.reg [0, 4, 13, 14] (.c (.q 40 [] (.mv (.t 4))) (.c (.q 41 [] (.mv (.t 6))) (.c (.e (some 42) [] (.bsl 9 1 [(.t 41)])) (.c (.e (some 43) [] (.app 24 9 1 16 [(S [])] 24 (.t 40) (.t 42))) (.c (.q 4 [] (.mv (.t 43))) .nil)))))) .skip)
def t84_10 := b84_10
theorem u84_10 : vcK P t84_10 k e w = vcK P b84_10 k e w := rfl
abbrev b84_11 : X := (.seq (.reg [0, 4, 6, 13, 14, 39] (.c (.q 37 [] (.mv (.t 0))) (.c (.q 38 [] (.mv (.t 6))) (.c (.e (some 39) [] (.call false 41 [(.t 37), (.t 38)])) .nil)))) t84_10)
def t84_11 := b84_11
theorem u84_11 : vcK P t84_11 k e w = vcK P b84_11 k e w := rfl
abbrev b84_12 : X := (.seq (.seq (.reg [0, 4, 6, 13, 14, 36] (.c (.q 35 [] (.mv (.t 6))) (.c (.q 36 [] (.bin .eql (.t 35) (.s []))) .nil))) t84_9) t84_11)
def t84_12 := b84_12
theorem u84_12 : vcK P t84_12 k e w = vcK P b84_12 k e w := rfl
abbrev b84_13 : X := (.seq (.seq (.reg [0, 4, 5, 6, 13, 14, 17, 18] (.c (.q 17 [] (.mv (.t 0))) (.c (.q 18 [] (.mv (.c (.int .i64 0)))) .nil))) t84_8) t84_12)
def t84_13 := b84_13
theorem u84_13 : vcK P t84_13 k e w = vcK P b84_13 k e w := rfl
abbrev b84_14 : X := (.seq (.reg [0, 4, 5, 6, 13, 14] (.c (.q 6 [] (.mv (.s []))) .nil)) t84_13)
def t84_14 := b84_14
theorem u84_14 : vcK P t84_14 k e w = vcK P b84_14 k e w := rfl
abbrev b84_15 : X := (.reg [0, 4, 13, 14] (.c (.q 44 [] (.bin .add (.t 14) (.c (.int .i64 1)))) (.c (.q 14 [] (.mv (.t 44))) .nil)))
def t84_15 := b84_15
theorem u84_15 : vcK P t84_15 k e w = vcK P b84_15 k e w := rfl
abbrev b84_16 : X := (.seq (.blk 1 (.seq (.reg [0, 4, 5, 13, 14] (.c (.q 16 [] (.mv (.t 14))) (.c (.q 5 [] (.mv (.t 16))) .nil))) t84_14)) t84_15)
def t84_16 := b84_16
theorem u84_16 : vcK P t84_16 k e w = vcK P b84_16 k e w := rfl
abbrev b84_17 : X := (.seq (.cond (.t 15) .skip (.exit 0)) t84_16)
def t84_17 := b84_17
theorem u84_17 : vcK P t84_17 k e w = vcK P b84_17 k e w := rfl
abbrev b84_18 : X := (.seq (.reg [0, 4, 13, 14, 15] (.c (.q 15 [] (.bin .lss (.t 14) (.t 13))) .nil)) t84_17)
def t84_18 := b84_18
theorem u84_18 : vcK P t84_18 k e w = vcK P b84_18 k e w := rfl
abbrev b84_19 : X := (.blk 0 (.loop [4, 14] [0, 13] t84_18))
def t84_19 := b84_19
theorem u84_19 : vcK P t84_19 k e w = vcK P b84_19 k e w := rfl
abbrev b84_20 : X := (.seq (.reg [2, 3] (.c (.q 47 [] (.mv (.t 4))) (.c (.q 2 [] (.mv (.t 47))) (.c (.q 3 [] (.mv (.c (.bool true)))) .nil)))) .ret)
def t84_20 := b84_20
theorem u84_20 : vcK P t84_20 k e w = vcK P b84_20 k e w := rfl
abbrev b84_21 : X := (.seq (.reg [4] (.c (.q 45 [] (.mv (.t 4))) (.c (.e (some 46) [] (.call true 206 [(.t 45)])) .nil))) t84_20)
def t84_21 := b84_21
theorem u84_21 : vcK P t84_21 k e w = vcK P b84_21 k e w := rfl
abbrev b84_22 : X := (.seq (.seq (.reg [0, 4, 13, 14] (.c (.q 12 [] (.mv (.t 0))) (.c (.q 13 [] (.bin .shl (.c (.int .i64 1)) (.t 12))) (.c (.q 14 [] (.mv (.c (.int .i64 0)))) .nil)))) t84_19) t84_21)
def t84_22 := b84_22
theorem u84_22 : vcK P t84_22 k e w = vcK P b84_22 k e w := rfl
abbrev b84_23 : X := (.seq (.reg [0, 4] (.c (.e (some 11) [] (.bsl 9 1 [])) (.c (.q 4 [] (.mv (.t 11))) .nil))) t84_22)
def t84_23 := b84_23
theorem u84_23 : vcK P t84_23 k e w = vcK P b84_23 k e w := rfl
abbrev b84_24 : X := (.seq (.seq (.reg [0, 10] (.c (.q 8 [] (.mv (.t 0))) (.c (.e (some 9) [] (.call false 139 [(.t 8)])) (.c (.q 10 [] (.not (.t 9))) .nil)))) t84_1) t84_23)
def t84_24 := b84_24
theorem u84_24 : vcK P t84_24 k e w = vcK P b84_24 k e w := rfl
abbrev b84_0 : X := (.seq (.reg [0] (.c (.q 2 [] (.mv (.c (.slice none 0 0)))) (.c (.q 3 [] (.mv (.c (.bool false)))) .nil))) t84_24)
def x_iAllChanges := b84_0
theorem u84_0 : vcK P x_iAllChanges k e w = vcK P b84_0 k e w := rfl
def r_iAllChanges : List XO := [(.mv (.t 2)), (.mv (.t 3))]
theorem c_iAllChanges : convF Try.prog [147, 148, 152, 160, 162, 163, 170, 178, 206, 208, 210, 224, 233, 235, 236, 251, 264, 265, 268, 270, 287, 322] Try.f84 [([0], []), ([0, 10], []), ([2, 3], []), ([0, 4], []), ([0, 4, 13, 14], []), ([4, 14], [0, 13]), ([0, 4, 13, 14, 15], []), ([0, 4, 5, 13, 14], []), ([0, 4, 5, 6, 13, 14], []), ([0, 4, 5, 6, 13, 14, 17, 18], []), ([6, 18], [0, 4, 5, 13, 14, 17]), ([0, 4, 5, 6, 13, 14, 17, 18, 19], []), ([0, 4, 5, 6, 7, 13, 14, 17, 18], []), ([0, 4, 5, 6, 7, 13, 14, 17, 18, 25], []), ([0, 4, 5, 6, 13, 14, 17, 18], []), ([0, 4, 5, 6, 13, 14, 17, 18], []), ([0, 4, 6, 13, 14, 36], []), ([0, 4, 6, 13, 14], []), ([0, 4, 6, 13, 14, 39], []), ([0, 4, 13, 14], []), ([0, 4, 13, 14], []), ([4], []), ([2, 3], [])] = some (x_iAllChanges, r_iAllChanges) := by kernel_rfl
def us_iAllChanges :=  (aI (aI (aI (aI @u84_0 (aI @u84_1 @u84_2)) (aI @u84_3 (aI @u84_4 @u84_5))) (aI (aI @u84_6 (aI @u84_7 @u84_8)) (aI @u84_9 (aI @u84_10 @u84_11)))) (aI (aI (aI @u84_12 (aI @u84_13 @u84_14)) (aI @u84_15 (aI @u84_16 @u84_17))) (aI (aI @u84_18 (aI @u84_19 @u84_20)) (aI (aI @u84_21 @u84_22) (aI @u84_23 @u84_24)))))
abbrev b85_1 : X := (.cond (.t 6) (.seq (.reg [2, 3] (.c (.q 2 [] (.mv (.c (.slice none 0 0)))) (.c (.q 3 [] (.mv (.c (.bool false)))) .nil))) .ret) .skip)
def t85_1 := b85_1
theorem u85_1 : vcK P t85_1 k e w = vcK P b85_1 k e w := rfl
abbrev b85_2 : X := (.seq (.reg [2, 3] (.c (.q 7 [] (.mv (.t 0))) (.c (.e (some 8) [] (.call false 207 [(.t 7)])) (.c (.q 2 [] (.mv (.t 8))) (.c (.q 3 [] (.mv (.c (.bool true)))) .nil))))) .ret)
def t85_2 := b85_2
theorem u85_2 : vcK P t85_2 k e w = vcK P b85_2 k e w := rfl
abbrev b85_3 : X := (.seq (.seq (.reg [0, 6] (.c (.q 4 [] (.mv (.t 0))) (.c (.e (some 5) [] (.call false 149 [(.t 4), (.c (.int .i64 3)), (.c (.int .i64 8))])) (.c (.q 6 [] (.not (.t 5))) .nil)))) t85_1) t85_2)
def t85_3 := b85_3
theorem u85_3 : vcK P t85_3 k e w = vcK P b85_3 k e w := rfl
abbrev b85_0 : X := (.seq (.reg [0] (.c (.q 2 [] (.mv (.c (.slice none 0 0)))) (.c (.q 3 [] (.mv (.c (.bool false)))) .nil))) t85_3)
def x_sAllChanges := b85_0
theorem u85_0 : vcK P x_sAllChanges k e w = vcK P b85_0 k e w := rfl
def r_sAllChanges : List XO := [(.mv (.t 2)), (.mv (.t 3))]
theorem c_sAllChanges : convF Try.prog [147, 148, 152, 160, 162, 163, 170, 178, 206, 208, 210, 224, 233, 235, 236, 251, 264, 265, 268, 270, 287, 322] Try.f85 [([0], []), ([0, 6], []), ([2, 3], []), ([2, 3], [])] = some (x_sAllChanges, r_sAllChanges) := by kernel_rfl
def us_sAllChanges :=  (aI (aI @u85_0 @u85_1) (aI @u85_2 @u85_3))
abbrev b88_1 : X := (.cond (.t 11) (.seq (.reg [4, 5] (.c (.q 4 [] (.mv (.s []))) (.c (.q 5 [] (.mv (.c (.bool false)))) .nil))) .ret) .skip)
def t88_1 := b88_1
theorem u88_1 : vcK P t88_1 k e w = vcK P b88_1 k e w := rfl
abbrev b88_2 : X := (.cond (.t 24) (.seq (.reg [4, 5] (.c (.q 25 [] (.mv (.t 7))) (.c (.q 4 [] (.mv (.t 25))) (.c (.q 5 [] (.mv (.c (.bool true)))) .nil)))) .ret) .skip)
def t88_2 := b88_2
theorem u88_2 : vcK P t88_2 k e w = vcK P b88_2 k e w := rfl
abbrev b88_3 : X := (.seq (.reg [0, 1, 7, 14, 15, 16, 24] (.c (.q 20 [] (.mv (.t 0))) (.c (.q 21 [] (.mv (.t 7))) (.c (.e (some 22) [] (.call false 209 [(.t 20), (.t 21)])) (.c (.q 23 [] (.mv (.t 1))) (.c (.q 24 [] (.bin .eql (.t 22) (.t 23))) .nil)))))) t88_2)
def t88_3 := b88_3
theorem u88_3 : vcK P t88_3 k e w = vcK P b88_3 k e w := rfl
abbrev b88_4 : X := (.reg [0, 1, 14, 15, 16] (.c (.q 26 [] (.bin .add (.t 16) (.c (.int .i64 1)))) (.c (.q 16 [] (.mv (.t 26))) .nil)))
def t88_4 := b88_4
theorem u88_4 : vcK P t88_4 k e w = vcK P b88_4 k e w := rfl
abbrev b88_5 : X := (.seq (.blk 1 (.seq (.reg [0, 1, 7, 14, 15, 16] (.c (.q 18 [] (.ia 1 (.t 14) (.t 16))) (.c (.q 19 [] (.ld (.t 18))) (.c (.q 7 [] (.mv (.t 19))) .nil)))) t88_3)) t88_4)
def t88_5 := b88_5
theorem u88_5 : vcK P t88_5 k e w = vcK P b88_5 k e w := rfl
abbrev b88_6 : X := (.seq (.cond (.t 17) .skip (.exit 0)) t88_5)
def t88_6 := b88_6
theorem u88_6 : vcK P t88_6 k e w = vcK P b88_6 k e w := rfl
abbrev b88_7 : X := (.seq (.reg [0, 1, 14, 15, 16, 17] (.c (.q 17 [] (.bin .lss (.t 16) (.t 15))) .nil)) t88_6)
def t88_7 := b88_7
theorem u88_7 : vcK P t88_7 k e w = vcK P b88_7 k e w := rfl
abbrev b88_8 : X := (.blk 0 (.loop [16] [0, 1, 14, 15] t88_7))
def t88_8 := b88_8
theorem u88_8 : vcK P t88_8 k e w = vcK P b88_8 k e w := rfl
abbrev b88_9 : X := (.seq (.reg [4, 5] (.c (.q 4 [] (.mv (.s []))) (.c (.q 5 [] (.mv (.c (.bool false)))) .nil))) .ret)
def t88_9 := b88_9
theorem u88_9 : vcK P t88_9 k e w = vcK P b88_9 k e w := rfl
abbrev b88_10 : X := (.seq (.seq (.reg [0, 1, 14, 15, 16] (.c (.q 12 [] (.mv (.t 0))) (.c (.q 13 [] (.len (.t 12))) (.c (.e (some 14) [] (.call false 207 [(.t 13)])) (.c (.q 15 [] (.lens (.t 14))) (.c (.q 16 [] (.mv (.c (.int .i64 0)))) .nil)))))) t88_8) t88_9)
def t88_10 := b88_10
theorem u88_10 : vcK P t88_10 k e w = vcK P b88_10 k e w := rfl
abbrev b88_11 : X := (.seq (.seq (.reg [0, 1, 11] (.c (.q 8 [] (.mv (.t 0))) (.c (.q 9 [] (.mv (.t 1))) (.c (.e (some 10) [] (.call false 213 [(.t 8), (.t 9)])) (.c (.q 11 [] (.not (.t 10))) .nil))))) t88_1) t88_10)
def t88_11 := b88_11
theorem u88_11 : vcK P t88_11 k e w = vcK P b88_11 k e w := rfl
abbrev b88_0 : X := (.seq (.reg [0, 1] (.c (.q 4 [] (.mv (.s []))) (.c (.q 5 [] (.mv (.c (.bool false)))) .nil))) t88_11)
def x_sBetweenRows := b88_0
theorem u88_0 : vcK P x_sBetweenRows k e w = vcK P b88_0 k e w := rfl
def r_sBetweenRows : List XO := [(.mv (.t 4)), (.mv (.t 5))]
theorem c_sBetweenRows : convF Try.prog [147, 148, 152, 160, 162, 163, 170, 178, 206, 208, 210, 224, 233, 235, 236, 251, 264, 265, 268, 270, 287, 322] Try.f88 [([0, 1], []), ([0, 1, 11], []), ([4, 5], []), ([0, 1, 14, 15, 16], []), ([16], [0, 1, 14, 15]), ([0, 1, 14, 15, 16, 17], []), ([0, 1, 7, 14, 15, 16], []), ([0, 1, 7, 14, 15, 16, 24], []), ([4, 5], []), ([0, 1, 14, 15, 16], []), ([4, 5], [])] = some (x_sBetweenRows, r_sBetweenRows) := by kernel_rfl
def us_sBetweenRows :=  (aI (aI (aI @u88_0 (aI @u88_1 @u88_2)) (aI @u88_3 (aI @u88_4 @u88_5))) (aI (aI @u88_6 (aI @u88_7 @u88_8)) (aI @u88_9 (aI @u88_10 @u88_11))))
end

def allV (n : Int) (w : World) (r : Value) : Prop :=
  if 3 ≤ n ∧ n ≤ 8 then ∃ x, r = .tuple ⟨[x, .bool true]⟩ ∧ Sq fS 1 w x (allL n.toNat) else r = .tuple ⟨[.slice none 0 0, .bool false]⟩
theorem shl_two : ∀ n < 9, IntKind.i64.wrap (1 * 2 ^ (min n IntKind.i64.bits)) = ((2 ^ n : Nat) : Int) := by decide +kernel
theorem pow_le8 : ∀ n < 9, 2 ^ n ≤ 256 := by decide +kernel
theorem bits_snoc (n s p : Nat) (h : p < n) : bitsB (p + 1) s = bitsB p s ++ [s.testBit p] := by
  rw [bitsB, List.range_succ, List.map_append]; rfl
theorem digB_snoc : ∀ (bs : List Bool) (b : Bool) (k : Nat), digB (bs ++ [b]) k = digB bs k ++ if b then [UInt8.ofNat (48 + k + bs.length)] else []
  | [], b, k => by cases b <;> rfl
  | true :: bs, b, k => by
    rw [List.cons_append, digB, digB, digB_snoc bs b (k + 1), List.length_cons, List.cons_append, show 48 + (k + 1) + bs.length = 48 + k + (bs.length + 1) by omega]
  | false :: bs, b, k => by
    rw [List.cons_append, digB, digB, digB_snoc bs b (k + 1), List.length_cons, show 48 + (k + 1) + bs.length = 48 + k + (bs.length + 1) by omega]
theorem digB_len : ∀ (bs : List Bool) (k : Nat), (digB bs k).length ≤ bs.length
  | [], _ => Nat.le_refl _
  | true :: bs, k => by have := digB_len bs (k + 1); simp only [digB, List.length_cons]; omega
  | false :: bs, k => by have := digB_len bs (k + 1); simp only [digB, List.length_cons]; omega
theorem bits_len (n s : Nat) : (bitsB n s).length = n := by simp [bitsB]
theorem iAllChanges_ok (n : Int) (w : World) : Fn 84 [.int .i64 n] w (fun r w' => allV n w' r) := by
  (refine callsV_of mix Try.func84 c_iAllChanges ?_; simp only [↓vsd, vsn, gW, qd, qv, ev, pick, argE, zipE, ne_eq, eq_self, forall_const, implies_true, if_true, if_false, reduceIte, reduceCtorEq, Nat.reduceEqDiff, Nat.reduceAdd, Nat.reduceLT, ↓us_iAllChanges, r_iAllChanges])
  refine m_call (iisStage_ok n _) ?_
  rintro _ w1 hx1 rfl
  by_cases hn : 3 ≤ n ∧ n ≤ 8
  · obtain ⟨k, rfl⟩ : ∃ k : Nat, n = k := ⟨n.toNat, by omega⟩
    have hn3 : (3 : Int) ≤ k := hn.1
    have hn8 : (k : Int) ≤ 8 := hn.2
    simp only [↓vsd, vsn, gW, qd, qv, ev, pick, argE, zipE, ne_eq, eq_self, forall_const, implies_true, if_true, if_false, reduceIte, reduceCtorEq, Nat.reduceEqDiff, Nat.reduceAdd, Nat.reduceLT, ↓us_iAllChanges, r_iAllChanges, hn3, hn8]
    refine m_bsl (fun _ hm => by cases hm) ?_
    rintro b2 w2 hb2 hblk2 hx2 hs2
    have hsh := shl_two k (by omega)
    have hp8 := pow_le8 k (by omega)
    have hk0 : ¬ (k : Int) < 0 := by omega
    simp only [↓vsd, vsn, gW, qd, qv, ev, pick, argE, zipE, ne_eq, eq_self, forall_const, implies_true, if_true, if_false, reduceIte, reduceCtorEq, Nat.reduceEqDiff, Nat.reduceAdd, Nat.reduceLT, ↓us_iAllChanges, r_iAllChanges, hsh]
    have ho2 : Own fS 1 9 w.heap.size w2 (.slice (some ⟨b2, 0, none⟩) 0 0) ([] : List (List UInt8)) := (Own.empty fS_len hblk2 (by have := hx1.size; omega)).to (by simp)
    refine ⟨by omega, ?_⟩
    refine m_upto (2 ^ k) (fun s vs w' => ∃ x, vs = [x, .int .i64 s] ∧ Own fS 1 9 w.heap.size w' x (chsOf k s) ∧ x ≠ .slice none 0 0 ∧ Ext w w') ⟨_, rfl, ho2, (by simp), hx1.trans hx2⟩ ?_
    rintro s vs w3 hs ⟨x, rfl, ho3, hne, hx3⟩
    by_cases hlt : s < 2 ^ k
    · have hltI : (s : Int) < (2 ^ k : Nat) := by omega
      simp only [↓vsd, vsn, gW, qd, qv, ev, pick, argE, zipE, ne_eq, eq_self, forall_const, implies_true, if_true, if_false, reduceIte, reduceCtorEq, Nat.reduceEqDiff, Nat.reduceAdd, Nat.reduceLT, ↓us_iAllChanges, r_iAllChanges, hltI]
      refine m_upto k (fun p vs w' => vs = [S (digB (bitsB p s) 1), .int .i64 p] ∧ Ext w3 w') ⟨rfl, Ext.refl _⟩ ?_
      rintro p vs w4 hp ⟨rfl, hx4⟩
      by_cases hlp : p < k
      · have hlpI : (p : Int) < k := by omega
        have hba := bit_and ⟨s, by omega⟩ ⟨p, by omega⟩
        simp only at hba
        have hsn := bits_snoc k s p hlp
        have hdl := digB_len (bitsB p s) 1
        rw [bits_len] at hdl
        by_cases hbit : s.testBit p = true
        · have hba1 := hba.2 hbit
          simp only [↓vsd, vsn, gW, qd, qv, ev, pick, argE, zipE, ne_eq, eq_self, forall_const, implies_true, if_true, if_false, reduceIte, reduceCtorEq, Nat.reduceEqDiff, Nat.reduceAdd, Nat.reduceLT, ↓us_iAllChanges, r_iAllChanges, hlpI, hba1]
          refine ⟨by omega, m_call (irounds_ok k (by omega) _) ?_⟩
          rintro _ w5 hx5 rfl
          have hrl := roundsL_len k
          have hso := sub_one (roundsL k) p (by rw [hrl]; exact hlp)
          simp only [↓vsd, vsn, gW, qd, qv, ev, pick, argE, zipE, ne_eq, eq_self, forall_const, implies_true, if_true, if_false, reduceIte, reduceCtorEq, Nat.reduceEqDiff, Nat.reduceAdd, Nat.reduceLT, ↓us_iAllChanges, r_iAllChanges, hrl]
          rw [hso, roundsL_get _ _ hlp]
          refine ⟨inR_i64 (by omega), by omega, by simp only [List.length_cons, List.length_nil]; omega, inR_i64 (by omega), UpTo.next hlp ⟨?_, by first | exact hx4.trans hx5 | exact hx4.trans (ud hx5)⟩⟩
          rw [hsn, hbit, digB_snoc, bits_len, show 48 + 1 + p = 49 + p by omega]; rfl
        · have hba0 : ¬ (bitV .and .i64 (((s : Int)).fdiv (2 ^ (min p IntKind.i64.bits))) 1 = 1) := fun e => hbit (hba.1 e)
          simp only [↓vsd, vsn, gW, qd, qv, ev, pick, argE, zipE, ne_eq, eq_self, forall_const, implies_true, if_true, if_false, reduceIte, reduceCtorEq, Nat.reduceEqDiff, Nat.reduceAdd, Nat.reduceLT, ↓us_iAllChanges, r_iAllChanges, hlpI, hba0]
          refine ⟨by omega, inR_i64 (by omega), UpTo.next hlp ⟨?_, by first | exact hx4 | exact dr hx4⟩⟩
          have hbf : s.testBit p = false := by simpa using hbit
          rw [hsn, hbf, digB_snoc]; simp
      · obtain rfl : p = k := by omega
        have hlpI : ¬ (p : Int) < p := by omega
        have hcs : chS p s = if digB (bitsB p s) 1 = [] then [45] else digB (bitsB p s) 1 := rfl
        have hdl := digB_len (bitsB p s) 1
        rw [bits_len] at hdl
        have hsucc := chsOf_succ p s
        have hcl := chsOf_len p s
        have hx04 := hx3.trans hx4
        by_cases hd : digB (bitsB p s) 1 = []
        · rw [if_pos hd] at hcs
          rw [hcs] at hsucc
          simp only [↓vsd, vsn, gW, qd, qv, ev, pick, argE, zipE, ne_eq, eq_self, forall_const, implies_true, if_true, if_false, reduceIte, reduceCtorEq, Nat.reduceEqDiff, Nat.reduceAdd, Nat.reduceLT, ↓us_iAllChanges, r_iAllChanges, hlpI, hd]
          refine m_call (iGoodChange_ok p [45] (by simp) _) ?_
          rintro _ w5 hx5 rfl
          have hx5 : Ext w4 w5 := by first | exact hx5 | exact ud hx5 | exact ud (ud hx5)
          have hx05 := hx04.trans hx5
          have ho5 := ho3.ext (hx4.trans hx5)
          split at hsucc
          · rename_i hg
            simp only [↓vsd, vsn, gW, qd, qv, ev, pick, argE, zipE, ne_eq, eq_self, forall_const, implies_true, if_true, if_false, reduceIte, reduceCtorEq, Nat.reduceEqDiff, Nat.reduceAdd, Nat.reduceLT, ↓us_iAllChanges, r_iAllChanges, hg]
            refine m_bsl (one_el rfl) ?_
            rintro b6 w6 hb6 hblk6 hx6 hs6
            have hx6 : Ext w5 w6 := by first | exact hx6 | exact ud hx6 | exact ud (ud hx6)
            simp only [↓vsd, vsn, gW, qd, qv, ev, pick, argE, zipE, ne_eq, eq_self, forall_const, implies_true, if_true, if_false, reduceIte, reduceCtorEq, Nat.reduceEqDiff, Nat.reduceAdd, Nat.reduceLT, ↓us_iAllChanges, r_iAllChanges]
            refine m_app (ho5.ext hx6) (Sq.one fS_len hblk6 rfl) fS_one (by decide) (by rw [List.length_singleton]; omega) (by decide) (hx05.trans hx6).size ?_
            rintro x7 w7 ho7 hg7
            have hx7 := (ho5.ext hx6).grown (hx05.trans hx6) (Nat.le_refl _) hg7
            simp only [↓vsd, vsn, gW, qd, qv, ev, pick, argE, zipE, ne_eq, eq_self, forall_const, implies_true, if_true, if_false, reduceIte, reduceCtorEq, Nat.reduceEqDiff, Nat.reduceAdd, Nat.reduceLT, ↓us_iAllChanges, r_iAllChanges]
            exact ⟨inR_i64 (by omega), UpTo.next hlt ⟨x7, rfl, ho7.to hsucc.symm, own_ne ho7 (by simp), hx7⟩⟩
          · rename_i hg
            simp only [↓vsd, vsn, gW, qd, qv, ev, pick, argE, zipE, ne_eq, eq_self, forall_const, implies_true, if_true, if_false, reduceIte, reduceCtorEq, Nat.reduceEqDiff, Nat.reduceAdd, Nat.reduceLT, ↓us_iAllChanges, r_iAllChanges, hg]
            exact ⟨inR_i64 (by omega), UpTo.next hlt ⟨x, rfl, ho5.to (by rw [hsucc, List.append_nil]), hne, hx05⟩⟩
        · rw [if_neg hd] at hcs
          rw [hcs] at hsucc
          simp only [↓vsd, vsn, gW, qd, qv, ev, pick, argE, zipE, ne_eq, eq_self, forall_const, implies_true, if_true, if_false, reduceIte, reduceCtorEq, Nat.reduceEqDiff, Nat.reduceAdd, Nat.reduceLT, ↓us_iAllChanges, r_iAllChanges, hlpI, hd]
          generalize digB (bitsB p s) 1 = c at *
          refine m_call (iGoodChange_ok p c (by omega) _) ?_
          rintro _ w5 hx5 rfl
          have hx5 : Ext w4 w5 := by first | exact hx5 | exact ud hx5 | exact ud (ud hx5)
          have hx05 := hx04.trans hx5
          have ho5 := ho3.ext (hx4.trans hx5)
          split at hsucc
          · rename_i hg
            simp only [↓vsd, vsn, gW, qd, qv, ev, pick, argE, zipE, ne_eq, eq_self, forall_const, implies_true, if_true, if_false, reduceIte, reduceCtorEq, Nat.reduceEqDiff, Nat.reduceAdd, Nat.reduceLT, ↓us_iAllChanges, r_iAllChanges, hg]
            refine m_bsl (one_el rfl) ?_
            rintro b6 w6 hb6 hblk6 hx6 hs6
            have hx6 : Ext w5 w6 := by first | exact hx6 | exact ud hx6 | exact ud (ud hx6)
            simp only [↓vsd, vsn, gW, qd, qv, ev, pick, argE, zipE, ne_eq, eq_self, forall_const, implies_true, if_true, if_false, reduceIte, reduceCtorEq, Nat.reduceEqDiff, Nat.reduceAdd, Nat.reduceLT, ↓us_iAllChanges, r_iAllChanges]
            refine m_app (ho5.ext hx6) (Sq.one fS_len hblk6 rfl) fS_one (by decide) (by rw [List.length_singleton]; omega) (by decide) (hx05.trans hx6).size ?_
            rintro x7 w7 ho7 hg7
            have hx7 := (ho5.ext hx6).grown (hx05.trans hx6) (Nat.le_refl _) hg7
            simp only [↓vsd, vsn, gW, qd, qv, ev, pick, argE, zipE, ne_eq, eq_self, forall_const, implies_true, if_true, if_false, reduceIte, reduceCtorEq, Nat.reduceEqDiff, Nat.reduceAdd, Nat.reduceLT, ↓us_iAllChanges, r_iAllChanges]
            exact ⟨inR_i64 (by omega), UpTo.next hlt ⟨x7, rfl, ho7.to hsucc.symm, own_ne ho7 (by simp), hx7⟩⟩
          · rename_i hg
            simp only [↓vsd, vsn, gW, qd, qv, ev, pick, argE, zipE, ne_eq, eq_self, forall_const, implies_true, if_true, if_false, reduceIte, reduceCtorEq, Nat.reduceEqDiff, Nat.reduceAdd, Nat.reduceLT, ↓us_iAllChanges, r_iAllChanges, hg]
            exact ⟨inR_i64 (by omega), UpTo.next hlt ⟨x, rfl, ho5.to (by rw [hsucc, List.append_nil]), hne, hx05⟩⟩
    · obtain rfl : s = 2 ^ k := by omega
      have hltI : ¬ ((2 ^ k : Nat) : Int) < (2 ^ k : Nat) := by omega
      simp only [↓vsd, vsn, gW, qd, qv, ev, pick, argE, zipE, ne_eq, eq_self, forall_const, implies_true, if_true, if_false, reduceIte, reduceCtorEq, Nat.reduceEqDiff, Nat.reduceAdd, Nat.reduceLT, ↓us_iAllChanges, r_iAllChanges, hltI]
      refine m_callw (by first | exact .inl rfl | exact .inr rfl) (xslices_Sort_string_string_ok x _ (by have := chsOf_len k (2 ^ k); omega) hne _ ho3) ?_
      rintro _ w4 ⟨ho4, hg4⟩
      have hx4 := ho3.grown hx3 (Nat.le_refl _) hg4
      simp only [↓vsd, vsn, gW, qd, qv, ev, pick, argE, zipE, ne_eq, eq_self, forall_const, implies_true, if_true, if_false, reduceIte, reduceCtorEq, Nat.reduceEqDiff, Nat.reduceAdd, Nat.reduceLT, ↓us_iAllChanges, r_iAllChanges]
      exact ⟨hx4, by rw [allV, if_pos hn]; exact ⟨_, rfl, by rw [Int.toNat_natCast, ← chs_all k (by omega)]; exact ho4.sq⟩⟩
  · have hn' : (decide (3 ≤ n) && decide (n ≤ 8)) = false := by
      rw [Bool.and_eq_false_iff, decide_eq_false_iff_not, decide_eq_false_iff_not]; omega
    simp only [↓vsd, vsn, gW, qd, qv, ev, pick, argE, zipE, ne_eq, eq_self, forall_const, implies_true, if_true, if_false, reduceIte, reduceCtorEq, Nat.reduceEqDiff, Nat.reduceAdd, Nat.reduceLT, ↓us_iAllChanges, r_iAllChanges, hn']
    exact ⟨hx1, by rw [allV, if_neg hn]⟩
theorem sAllChanges_ok (n : Int) (w : World) : Fn 85 [.int .i64 n] w (fun r w' => allV n w' r) := by
  (refine callsV_of mix Try.func85 c_sAllChanges ?_; simp only [↓vsd, vsn, gW, qd, qv, ev, pick, argE, zipE, ne_eq, eq_self, forall_const, implies_true, if_true, if_false, reduceIte, reduceCtorEq, Nat.reduceEqDiff, Nat.reduceAdd, Nat.reduceLT, ↓us_sAllChanges, r_sAllChanges])
  refine m_call (sl1In_ok n 3 8 _) ?_
  rintro _ w1 hx1 rfl
  by_cases hn : 3 ≤ n ∧ n ≤ 8
  · obtain ⟨k, rfl⟩ : ∃ k : Nat, n = k := ⟨n.toNat, by omega⟩
    have hn3 : (3 : Int) ≤ k := hn.1
    have hn8 : (k : Int) ≤ 8 := hn.2
    simp only [↓vsd, vsn, gW, qd, qv, ev, pick, argE, zipE, ne_eq, eq_self, forall_const, implies_true, if_true, if_false, reduceIte, reduceCtorEq, Nat.reduceEqDiff, Nat.reduceAdd, Nat.reduceLT, ↓us_sAllChanges, r_sAllChanges, hn3, hn8]
    refine m_call (sl2All_ok k (by omega) _) ?_
    rintro x w2 hx2 ho2
    simp only [↓vsd, vsn, gW, qd, qv, ev, pick, argE, zipE, ne_eq, eq_self, forall_const, implies_true, if_true, if_false, reduceIte, reduceCtorEq, Nat.reduceEqDiff, Nat.reduceAdd, Nat.reduceLT, ↓us_sAllChanges, r_sAllChanges]
    exact ⟨hx1.trans hx2, by rw [allV, if_pos hn]; exact ⟨_, rfl, ho2.sq⟩⟩
  · have hn' : (decide (3 ≤ n) && decide (n ≤ 8)) = false := by
      rw [Bool.and_eq_false_iff, decide_eq_false_iff_not, decide_eq_false_iff_not]; omega
    simp only [↓vsd, vsn, gW, qd, qv, ev, pick, argE, zipE, ne_eq, eq_self, forall_const, implies_true, if_true, if_false, reduceIte, reduceCtorEq, Nat.reduceEqDiff, Nat.reduceAdd, Nat.reduceLT, ↓us_sAllChanges, r_sAllChanges, hn']
    exact ⟨hx1, by rw [allV, if_neg hn]⟩
/-- What leads from a to b: one change, or none. -/
def Leads (a b : List UInt8) (o : Option (List UInt8)) : Prop :=
  match o with
  | some c => (IsRow a ∧ IsRow b ∧ a.length = b.length) ∧ IsChange a.length c ∧ applyL a c = b
  | none => (IsRow a ∧ IsRow b ∧ a.length = b.length) → ∀ c, IsChange a.length c → applyL a c ≠ b
def leadsV : Option (List UInt8) → Value
  | some c => .tuple ⟨[S c, .bool true]⟩
  | none => .tuple ⟨[S [], .bool false]⟩
theorem leads_some (a b : List UInt8) : ∃ o, Leads a b o := by
  by_cases h : ∃ c, (IsRow a ∧ IsRow b ∧ a.length = b.length) ∧ IsChange a.length c ∧ applyL a c = b
  · exact ⟨some h.choose, h.choose_spec⟩
  · exact ⟨none, fun h1 c h2 h3 => h ⟨c, h1, h2, h3⟩⟩
theorem iBetweenRows_all (a b : List UInt8) (o : Option (List UInt8)) (h : Leads a b o) (w : World) : Fn 87 [S a, S b] w (fun r _ => r = leadsV o) := by
  cases o with
  | some c =>
    obtain ⟨⟨ha, hb, hl⟩, hc, rfl⟩ := h
    refine iBetweenRows_ok a _ c ha hb hl ?_ w
    have hlen := hc.len
    rw [btw_chg ha hc, btwV]
    by_cases hd : c = [45]
    · rw [if_pos hd, if_pos rfl, hd]
    · rw [if_neg hd, if_neg (fun e => by rw [e] at hlen; simp at hlen)]
  | none =>
    (refine callsV_of mix Try.func87 c_iBetweenRows ?_; simp only [↓vsd, vsn, gW, qd, qv, ev, pick, argE, zipE, ne_eq, eq_self, forall_const, implies_true, if_true, if_false, reduceIte, reduceCtorEq, Nat.reduceEqDiff, Nat.reduceAdd, Nat.reduceLT, ↓us_iBetweenRows, r_iBetweenRows])
    refine m_call (iGoodRow_ok a _) ?_
    rintro _ w1 hx1 rfl
    by_cases ha : IsRow a
    · simp only [↓vsd, vsn, gW, qd, qv, ev, pick, argE, zipE, ne_eq, eq_self, forall_const, implies_true, if_true, if_false, reduceIte, reduceCtorEq, Nat.reduceEqDiff, Nat.reduceAdd, Nat.reduceLT, ↓us_iBetweenRows, r_iBetweenRows, ha]
      refine m_call (iisRowOf_ok a.length b _) ?_
      rintro _ w2 hx2 rfl
      by_cases hb : (b.length : Int) = a.length ∧ IsRow b
      · have hlI := hb.1
        have hb := hb.2
        simp only [↓vsd, vsn, gW, qd, qv, ev, pick, argE, zipE, ne_eq, eq_self, forall_const, implies_true, if_true, if_false, reduceIte, reduceCtorEq, Nat.reduceEqDiff, Nat.reduceAdd, Nat.reduceLT, ↓us_iBetweenRows, r_iBetweenRows, hb, hlI]
        refine m_call (ibetween_ok a b ha (by omega) _) ?_
        rintro r w3 hx3 rfl
        rcases btw_any ha hb (by omega) with ⟨c, h1, h2, _⟩ | ⟨_, h2⟩
        · exact absurd h2 (h ⟨ha, hb, by omega⟩ c h1)
        · cases hv : btw a b (a.length + 1) 0 [] false with
          | none =>
            rw [btwV]
            simp only [↓vsd, vsn, gW, qd, qv, ev, pick, argE, zipE, ne_eq, eq_self, forall_const, implies_true, if_true, if_false, reduceIte, reduceCtorEq, Nat.reduceEqDiff, Nat.reduceAdd, Nat.reduceLT, ↓us_iBetweenRows, r_iBetweenRows]
            exact ⟨(hx1.trans hx2).trans hx3, rfl⟩
          | some p =>
            obtain ⟨c, s⟩ := p
            cases s with
            | true => exact absurd hv (h2 c)
            | false =>
              rw [btwV]
              simp only [↓vsd, vsn, gW, qd, qv, ev, pick, argE, zipE, ne_eq, eq_self, forall_const, implies_true, if_true, if_false, reduceIte, reduceCtorEq, Nat.reduceEqDiff, Nat.reduceAdd, Nat.reduceLT, ↓us_iBetweenRows, r_iBetweenRows]
              exact ⟨(hx1.trans hx2).trans hx3, rfl⟩
      · have hb' : (decide ((b.length : Int) = a.length) && decide (IsRow b)) = false := by
          rw [Bool.and_eq_false_iff, decide_eq_false_iff_not, decide_eq_false_iff_not]
          by_cases h1 : (b.length : Int) = a.length
          · exact .inr fun h2 => hb ⟨h1, h2⟩
          · exact .inl h1
        simp only [↓vsd, vsn, gW, qd, qv, ev, pick, argE, zipE, ne_eq, eq_self, forall_const, implies_true, if_true, if_false, reduceIte, reduceCtorEq, Nat.reduceEqDiff, Nat.reduceAdd, Nat.reduceLT, ↓us_iBetweenRows, r_iBetweenRows, hb']
        exact ⟨hx1.trans hx2, rfl⟩
    · simp only [↓vsd, vsn, gW, qd, qv, ev, pick, argE, zipE, ne_eq, eq_self, forall_const, implies_true, if_true, if_false, reduceIte, reduceCtorEq, Nat.reduceEqDiff, Nat.reduceAdd, Nat.reduceLT, ↓us_iBetweenRows, r_iBetweenRows, ha]
      exact ⟨hx1, rfl⟩
theorem sBetweenRows_all (a b : List UInt8) (o : Option (List UInt8)) (h : Leads a b o) (w : World) : Fn 88 [S a, S b] w (fun r _ => r = leadsV o) := by
  (refine callsV_of mix Try.func88 c_sBetweenRows ?_; simp only [↓vsd, vsn, gW, qd, qv, ev, pick, argE, zipE, ne_eq, eq_self, forall_const, implies_true, if_true, if_false, reduceIte, reduceCtorEq, Nat.reduceEqDiff, Nat.reduceAdd, Nat.reduceLT, ↓us_sBetweenRows, r_sBetweenRows])
  refine m_call (sl1Two_ok a b _) ?_
  rintro _ w1 hx1 rfl
  by_cases ht : IsRow a ∧ IsRow b ∧ a.length = b.length
  · have h8 := ht.1.1
    have hal := allL_some a.length (by omega) h8.1
    have hD := decide_eq_true ht
    simp only [↓vsd, vsn, gW, qd, qv, ev, pick, argE, zipE, ne_eq, eq_self, forall_const, implies_true, if_true, if_false, reduceIte, reduceCtorEq, Nat.reduceEqDiff, Nat.reduceAdd, Nat.reduceLT, ↓us_sBetweenRows, r_sBetweenRows, hD]
    refine m_call (sl2All_ok a.length h8 _) ?_
    rintro x w2 hx2 ho2
    have hx12 := hx1.trans hx2
    simp only [↓vsd, vsn, gW, qd, qv, ev, pick, argE, zipE, ne_eq, eq_self, forall_const, implies_true, if_true, if_false, reduceIte, reduceCtorEq, Nat.reduceEqDiff, Nat.reduceAdd, Nat.reduceLT, ↓us_sBetweenRows, r_sBetweenRows, ho2.sq.facts]
    refine m_upto (allL a.length).length (fun k vs w' => vs = [.int .i64 k] ∧ (∀ j < k, applyL a ((allL a.length).getD j []) ≠ b) ∧ Ext w2 w') ⟨rfl, fun j hj => by omega, Ext.refl _⟩ ?_
    rintro k vs w3 hk ⟨rfl, hno, hx3⟩
    have hq3 := ho2.sq.ext hx3
    by_cases hlt : k < (allL a.length).length
    · have hltI : (k : Int) < (allL a.length).length := by omega
      have hltJ : ¬ ((allL a.length).length : Int) ≤ k := by omega
      have hat := hq3.at1 [] hlt
      have hmem := getD_mem [] hlt
      have hchg := allL_change a.length (by omega) h8.1 _ hmem
      generalize hcd : (allL a.length).getD k [] = c at hat hchg
      have hcl := hchg.len
      simp only [↓vsd, vsn, gW, qd, qv, ev, pick, argE, zipE, ne_eq, eq_self, forall_const, implies_true, if_true, if_false, reduceIte, reduceCtorEq, Nat.reduceEqDiff, Nat.reduceAdd, Nat.reduceLT, ↓us_sBetweenRows, r_sBetweenRows, hltI, hltJ, hq3.facts, hat]
      refine ⟨by omega, m_call (sl2Apply_ok a c ht.1 (by omega) _) ?_⟩
      rintro _ w4 hx4 rfl
      have hx4 : Ext w3 w4 := by first | exact hx4 | exact ud hx4 | exact ud (ud hx4)
      by_cases he : applyL a c = b
      · simp only [↓vsd, vsn, gW, qd, qv, ev, pick, argE, zipE, ne_eq, eq_self, forall_const, implies_true, if_true, if_false, reduceIte, reduceCtorEq, Nat.reduceEqDiff, Nat.reduceAdd, Nat.reduceLT, ↓us_sBetweenRows, r_sBetweenRows, he]
        refine ⟨hx12.trans (hx3.trans hx4), ?_⟩
        cases o with
        | none => exact absurd he (h ht c hchg)
        | some d =>
          obtain ⟨_, h2, h3⟩ := h
          rw [leadsV, apply_uniq ht.1 hchg h2 (he.trans h3.symm)]
      · simp only [↓vsd, vsn, gW, qd, qv, ev, pick, argE, zipE, ne_eq, eq_self, forall_const, implies_true, if_true, if_false, reduceIte, reduceCtorEq, Nat.reduceEqDiff, Nat.reduceAdd, Nat.reduceLT, ↓us_sBetweenRows, r_sBetweenRows, he]
        refine ⟨inR_i64 (by omega), UpTo.next hlt ⟨rfl, fun j hj => ?_, hx3.trans hx4⟩⟩
        by_cases hjk : j = k
        · rw [hjk, hcd]; exact he
        · exact hno j (by omega)
    · obtain rfl : k = (allL a.length).length := by omega
      have hltI : ¬ ((allL a.length).length : Int) < (allL a.length).length := by omega
      simp only [↓vsd, vsn, gW, qd, qv, ev, pick, argE, zipE, ne_eq, eq_self, forall_const, implies_true, if_true, if_false, reduceIte, reduceCtorEq, Nat.reduceEqDiff, Nat.reduceAdd, Nat.reduceLT, ↓us_sBetweenRows, r_sBetweenRows, hltI]
      refine ⟨hx12.trans hx3, ?_⟩
      cases o with
      | none => rfl
      | some c =>
        exfalso
        obtain ⟨_, h2, h3⟩ := h
        obtain ⟨i, hi, he⟩ := List.mem_iff_getElem.1 (allL_mem h2)
        refine hno i hi ?_
        rw [List.getD_eq_getElem?_getD, List.getElem?_eq_getElem hi, Option.getD_some, he]
        exact h3
  · have hD := decide_eq_false ht
    simp only [↓vsd, vsn, gW, qd, qv, ev, pick, argE, zipE, ne_eq, eq_self, forall_const, implies_true, if_true, if_false, reduceIte, reduceCtorEq, Nat.reduceEqDiff, Nat.reduceAdd, Nat.reduceLT, ↓us_sBetweenRows, r_sBetweenRows, hD]
    refine ⟨hx1, ?_⟩
    cases o with
    | none => rfl
    | some c => exact absurd h.1 ht
end Go.Proofs.Ytnincmnkdjlndaa
