/-
  The set of a row under the powers of another one, and the shortest part of a touch, of both sides.
  Conditions: none.
-/
import Derived.Test.YtnincmnkdjlndaaA53
import Derived.Test.YtnincmnkdjlndaaD7
set_option linter.unusedSimpArgs false
set_option linter.unusedVariables false
set_option linter.defProp false
namespace Go.Proofs.Ytnincmnkdjlndaa
open Go Go.RowKit
section
variable (P : Program) (k : KT) (e : Env) (w : World)
abbrev b215_1 : X := (.reg [1, 5, 10, 11, 12] (.c (.q 16 [] (.mv (.t 5))) (.c (.q 17 [] (.mv (.t 7))) (.c (.q 18 [] (.mv (.t 1))) (.c (.e (some 19) [] (.call false 187 [(.t 17), (.t 18)])) (.c (.e (some 20) [] (.bsl 9 1 [(.t 19)])) (.c (.e (some 21) [] (.app 24 9 1 16 [(S [])] 24 (.t 16) (.t 20))) (.c (.q 5 [] (.mv (.t 21))) .nil))))))))
def t215_1 := b215_1
theorem u215_1 : vcK P t215_1 k e w = vcK P b215_1 k e w := rfl
abbrev b215_2 : X := (.reg [1, 5, 10, 11, 12] (.c (.q 22 [] (.bin .add (.t 12) (.c (.int .i64 1)))) (.c (.q 12 [] (.mv (.t 22))) .nil)))
def t215_2 := b215_2
theorem u215_2 : vcK P t215_2 k e w = vcK P b215_2 k e w := rfl
abbrev b215_3 : X := (.seq (.blk 1 (.seq (.reg [1, 5, 7, 10, 11, 12] (.c (.q 14 [] (.ia 1 (.t 10) (.t 12))) (.c (.q 15 [] (.ld (.t 14))) (.c (.q 7 [] (.mv (.t 15))) .nil)))) t215_1)) t215_2)
def t215_3 := b215_3
theorem u215_3 : vcK P t215_3 k e w = vcK P b215_3 k e w := rfl
abbrev b215_4 : X := (.seq (.cond (.t 13) .skip (.exit 0)) t215_3)
def t215_4 := b215_4
theorem u215_4 : vcK P t215_4 k e w = vcK P b215_4 k e w := rfl
abbrev b215_5 : X := (.seq (.reg [1, 5, 10, 11, 12, 13] (.c (.q 13 [] (.bin .lss (.t 12) (.t 11))) .nil)) t215_4)
def t215_5 := b215_5
theorem u215_5 : vcK P t215_5 k e w = vcK P b215_5 k e w := rfl
abbrev b215_6 : X := (.blk 0 (.loop [5, 12] [1, 10, 11] t215_5))
def t215_6 := b215_6
theorem u215_6 : vcK P t215_6 k e w = vcK P b215_6 k e w := rfl
abbrev b215_7 : X := (.seq (.reg [4] (.c (.q 25 [] (.mv (.t 5))) (.c (.q 4 [] (.mv (.t 25))) .nil))) .ret)
def t215_7 := b215_7
theorem u215_7 : vcK P t215_7 k e w = vcK P b215_7 k e w := rfl
abbrev b215_8 : X := (.seq (.reg [5] (.c (.q 23 [] (.mv (.t 5))) (.c (.e (some 24) [] (.call true 206 [(.t 23)])) .nil))) t215_7)
def t215_8 := b215_8
theorem u215_8 : vcK P t215_8 k e w = vcK P b215_8 k e w := rfl
abbrev b215_9 : X := (.seq (.seq (.reg [1, 5, 10, 11, 12] (.c (.q 9 [] (.mv (.t 0))) (.c (.e (some 10) [] (.call false 188 [(.t 9)])) (.c (.q 11 [] (.lens (.t 10))) (.c (.q 12 [] (.mv (.c (.int .i64 0)))) .nil))))) t215_6) t215_8)
def t215_9 := b215_9
theorem u215_9 : vcK P t215_9 k e w = vcK P b215_9 k e w := rfl
abbrev b215_10 : X := (.seq (.reg [0, 1, 5] (.c (.e (some 8) [] (.bsl 9 1 [])) (.c (.q 5 [] (.mv (.t 8))) .nil))) t215_9)
def t215_10 := b215_10
theorem u215_10 : vcK P t215_10 k e w = vcK P b215_10 k e w := rfl
abbrev b215_0 : X := (.seq (.reg [0, 1] (.c (.q 4 [] (.mv (.c (.slice none 0 0)))) .nil)) t215_10)
def x_ipartSet := b215_0
theorem u215_0 : vcK P x_ipartSet k e w = vcK P b215_0 k e w := rfl
def r_ipartSet : List XO := [(.mv (.t 4))]
theorem c_ipartSet : convF Try.prog [147, 148, 152, 160, 162, 163, 170, 178, 206, 208, 210, 224, 233, 235, 236, 251, 264, 265, 268, 270, 287, 322] Try.f215 [([0, 1], []), ([0, 1, 5], []), ([1, 5, 10, 11, 12], []), ([5, 12], [1, 10, 11]), ([1, 5, 10, 11, 12, 13], []), ([1, 5, 7, 10, 11, 12], []), ([1, 5, 10, 11, 12], []), ([1, 5, 10, 11, 12], []), ([5], []), ([4], [])] = some (x_ipartSet, r_ipartSet) := by kernel_rfl
def us_ipartSet :=  (aI (aI (aI @u215_0 @u215_1) (aI @u215_2 (aI @u215_3 @u215_4))) (aI (aI @u215_5 (aI @u215_6 @u215_7)) (aI @u215_8 (aI @u215_9 @u215_10))))
abbrev b91_1 : X := (.cond (.t 15) (.seq (.reg [4, 5] (.c (.q 4 [] (.mv (.c (.slice none 0 0)))) (.c (.q 5 [] (.mv (.c (.bool false)))) .nil))) .ret) .skip)
def t91_1 := b91_1
theorem u91_1 : vcK P t91_1 k e w = vcK P b91_1 k e w := rfl
abbrev b91_2 : X := (.seq (.reg [4, 5] (.c (.q 16 [] (.mv (.t 0))) (.c (.q 17 [] (.mv (.t 1))) (.c (.e (some 18) [] (.call false 215 [(.t 16), (.t 17)])) (.c (.q 4 [] (.mv (.t 18))) (.c (.q 5 [] (.mv (.c (.bool true)))) .nil)))))) .ret)
def t91_2 := b91_2
theorem u91_2 : vcK P t91_2 k e w = vcK P b91_2 k e w := rfl
abbrev b91_3 : X := (.seq (.seq (.reg [0, 1, 15] (.c (.q 6 [] (.mv (.t 0))) (.c (.e (some 7) [] (.call false 141 [(.t 6)])) (.c (.q 8 [] (.not (.t 7))) (.c (.q 9 [] (.mv (.t 8))) (.c (.q 10 [(9, false)] (.mv (.t 0))) (.c (.q 11 [(9, false)] (.len (.t 10))) (.c (.q 12 [(9, false)] (.mv (.t 1))) (.c (.e (some 13) [(9, false)] (.call false 143 [(.t 11), (.t 12)])) (.c (.q 14 [(9, false)] (.not (.t 13))) (.c (.q 15 [] (.pick (.t 9) (.c (.bool true)) (.t 14))) .nil))))))))))) t91_1) t91_2)
def t91_3 := b91_3
theorem u91_3 : vcK P t91_3 k e w = vcK P b91_3 k e w := rfl
abbrev b91_0 : X := (.seq (.reg [0, 1] (.c (.q 4 [] (.mv (.c (.slice none 0 0)))) (.c (.q 5 [] (.mv (.c (.bool false)))) .nil))) t91_3)
def x_iPartSet := b91_0
theorem u91_0 : vcK P x_iPartSet k e w = vcK P b91_0 k e w := rfl
def r_iPartSet : List XO := [(.mv (.t 4)), (.mv (.t 5))]
theorem c_iPartSet : convF Try.prog [147, 148, 152, 160, 162, 163, 170, 178, 206, 208, 210, 224, 233, 235, 236, 251, 264, 265, 268, 270, 287, 322] Try.f91 [([0, 1], []), ([0, 1, 15], []), ([4, 5], []), ([4, 5], [])] = some (x_iPartSet, r_iPartSet) := by kernel_rfl
def us_iPartSet :=  (aI (aI @u91_0 @u91_1) (aI @u91_2 @u91_3))
abbrev b93_1 : X := (.cond (.t 15) (.seq (.reg [4, 5] (.c (.q 4 [] (.mv (.s []))) (.c (.q 5 [] (.mv (.c (.bool false)))) .nil))) .ret) .skip)
def t93_1 := b93_1
theorem u93_1 : vcK P t93_1 k e w = vcK P b93_1 k e w := rfl
abbrev b93_2 : X := (.seq (.reg [4, 5] (.c (.q 16 [] (.mv (.t 6))) (.c (.q 17 [] (.ia 1 (.t 16) (.c (.int .i64 0)))) (.c (.q 18 [] (.ld (.t 17))) (.c (.q 4 [] (.mv (.t 18))) (.c (.q 5 [] (.mv (.c (.bool true)))) .nil)))))) .ret)
def t93_2 := b93_2
theorem u93_2 : vcK P t93_2 k e w = vcK P b93_2 k e w := rfl
abbrev b93_3 : X := (.seq (.seq (.reg [6, 15] (.c (.q 14 [] (.mv (.t 7))) (.c (.q 15 [] (.not (.t 14))) .nil))) t93_1) t93_2)
def t93_3 := b93_3
theorem u93_3 : vcK P t93_3 k e w = vcK P b93_3 k e w := rfl
abbrev b93_4 : X := (.seq (.reg [6, 7] (.c (.q 9 [] (.mv (.t 0))) (.c (.q 10 [] (.mv (.t 1))) (.c (.e (some 11) [] (.call false 91 [(.t 9), (.t 10)])) (.c (.q 8 [] (.mv (.t 11))) (.c (.q 12 [] (.ext 0 (.t 8))) (.c (.q 13 [] (.ext 1 (.t 8))) (.c (.q 6 [] (.mv (.t 12))) (.c (.q 7 [] (.mv (.t 13))) .nil))))))))) t93_3)
def t93_4 := b93_4
theorem u93_4 : vcK P t93_4 k e w = vcK P b93_4 k e w := rfl
abbrev b93_0 : X := (.seq (.reg [0, 1] (.c (.q 4 [] (.mv (.s []))) (.c (.q 5 [] (.mv (.c (.bool false)))) .nil))) t93_4)
def x_iLeastIn := b93_0
theorem u93_0 : vcK P x_iLeastIn k e w = vcK P b93_0 k e w := rfl
def r_iLeastIn : List XO := [(.mv (.t 4)), (.mv (.t 5))]
theorem c_iLeastIn : convF Try.prog [147, 148, 152, 160, 162, 163, 170, 178, 206, 208, 210, 224, 233, 235, 236, 251, 264, 265, 268, 270, 287, 322] Try.f93 [([0, 1], []), ([6, 7], []), ([6, 15], []), ([4, 5], []), ([4, 5], [])] = some (x_iLeastIn, r_iLeastIn) := by kernel_rfl
def us_iLeastIn :=  (aI (aI @u93_0 @u93_1) (aI @u93_2 (aI @u93_3 @u93_4)))
abbrev b216_1 : X := (.cond (.t 14) .skip (.exit 0))
def t216_1 := b216_1
theorem u216_1 : vcK P t216_1 k e w = vcK P b216_1 k e w := rfl
abbrev b216_2 : X := (.reg [0, 1, 5, 6, 7] (.c (.q 23 [] (.mv (.t 6))) (.c (.q 24 [] (.mv (.t 0))) (.c (.e (some 25) [] (.call false 222 [(.t 23), (.t 24)])) (.c (.q 6 [] (.mv (.t 25))) .nil)))))
def t216_2 := b216_2
theorem u216_2 : vcK P t216_2 k e w = vcK P b216_2 k e w := rfl
abbrev b216_3 : X := (.reg [0, 1, 5, 6, 7] (.c (.q 15 [] (.mv (.t 7))) (.c (.q 16 [] (.bin .sub (.t 15) (.c (.int .i64 1)))) (.c (.q 7 [] (.mv (.t 16))) .nil))))
def t216_3 := b216_3
theorem u216_3 : vcK P t216_3 k e w = vcK P b216_3 k e w := rfl
abbrev b216_4 : X := (.seq (.blk 1 (.seq (.reg [0, 1, 5, 6, 7] (.c (.q 17 [] (.mv (.t 5))) (.c (.q 18 [] (.mv (.t 6))) (.c (.q 19 [] (.mv (.t 1))) (.c (.e (some 20) [] (.call false 222 [(.t 18), (.t 19)])) (.c (.e (some 21) [] (.bsl 9 1 [(.t 20)])) (.c (.e (some 22) [] (.app 24 9 1 16 [(S [])] 24 (.t 17) (.t 21))) (.c (.q 5 [] (.mv (.t 22))) .nil)))))))) t216_2)) t216_3)
def t216_4 := b216_4
theorem u216_4 : vcK P t216_4 k e w = vcK P b216_4 k e w := rfl
abbrev b216_5 : X := (.seq (.seq (.reg [0, 1, 5, 6, 7, 14] (.c (.q 13 [] (.mv (.t 7))) (.c (.q 14 [] (.bin .gtr (.t 13) (.c (.int .i64 0)))) .nil))) t216_1) t216_4)
def t216_5 := b216_5
theorem u216_5 : vcK P t216_5 k e w = vcK P b216_5 k e w := rfl
abbrev b216_6 : X := (.blk 0 (.loop [5, 6, 7] [0, 1] t216_5))
def t216_6 := b216_6
theorem u216_6 : vcK P t216_6 k e w = vcK P b216_6 k e w := rfl
abbrev b216_7 : X := (.seq (.reg [4] (.c (.q 26 [] (.mv (.t 5))) (.c (.e (some 27) [] (.call false 230 [(.t 26)])) (.c (.q 4 [] (.mv (.t 27))) .nil)))) .ret)
def t216_7 := b216_7
theorem u216_7 : vcK P t216_7 k e w = vcK P b216_7 k e w := rfl
abbrev b216_8 : X := (.seq (.seq (.reg [0, 1, 5, 6, 7] (.c (.q 11 [] (.mv (.t 0))) (.c (.e (some 12) [] (.call false 223 [(.t 11)])) (.c (.q 7 [] (.mv (.t 12))) .nil)))) t216_6) t216_7)
def t216_8 := b216_8
theorem u216_8 : vcK P t216_8 k e w = vcK P b216_8 k e w := rfl
abbrev b216_9 : X := (.seq (.reg [0, 1, 5, 6] (.c (.q 8 [] (.mv (.t 0))) (.c (.q 9 [] (.len (.t 8))) (.c (.e (some 10) [] (.call false 260 [(.t 9)])) (.c (.q 6 [] (.mv (.t 10))) .nil))))) t216_8)
def t216_9 := b216_9
theorem u216_9 : vcK P t216_9 k e w = vcK P b216_9 k e w := rfl
abbrev b216_10 : X := (.seq (.reg [0, 1, 5] (.c (.q 5 [] (.mv (.c (.slice none 0 0)))) .nil)) t216_9)
def t216_10 := b216_10
theorem u216_10 : vcK P t216_10 k e w = vcK P b216_10 k e w := rfl
abbrev b216_0 : X := (.seq (.reg [0, 1] (.c (.q 4 [] (.mv (.c (.slice none 0 0)))) .nil)) t216_10)
def x_sl12Set := b216_0
theorem u216_0 : vcK P x_sl12Set k e w = vcK P b216_0 k e w := rfl
def r_sl12Set : List XO := [(.mv (.t 4))]
theorem c_sl12Set : convF Try.prog [147, 148, 152, 160, 162, 163, 170, 178, 206, 208, 210, 224, 233, 235, 236, 251, 264, 265, 268, 270, 287, 322] Try.f216 [([0, 1], []), ([0, 1, 5], []), ([0, 1, 5, 6], []), ([0, 1, 5, 6, 7], []), ([5, 6, 7], [0, 1]), ([0, 1, 5, 6, 7, 14], []), ([0, 1, 5, 6, 7], []), ([0, 1, 5, 6, 7], []), ([0, 1, 5, 6, 7], []), ([4], [])] = some (x_sl12Set, r_sl12Set) := by kernel_rfl
def us_sl12Set :=  (aI (aI (aI @u216_0 @u216_1) (aI @u216_2 (aI @u216_3 @u216_4))) (aI (aI @u216_5 (aI @u216_6 @u216_7)) (aI @u216_8 (aI @u216_9 @u216_10))))
abbrev b92_1 : X := (.cond (.t 9) (.seq (.reg [4, 5] (.c (.q 4 [] (.mv (.c (.slice none 0 0)))) (.c (.q 5 [] (.mv (.c (.bool false)))) .nil))) .ret) .skip)
def t92_1 := b92_1
theorem u92_1 : vcK P t92_1 k e w = vcK P b92_1 k e w := rfl
abbrev b92_2 : X := (.seq (.reg [4, 5] (.c (.q 10 [] (.mv (.t 0))) (.c (.q 11 [] (.mv (.t 1))) (.c (.e (some 12) [] (.call false 216 [(.t 10), (.t 11)])) (.c (.q 4 [] (.mv (.t 12))) (.c (.q 5 [] (.mv (.c (.bool true)))) .nil)))))) .ret)
def t92_2 := b92_2
theorem u92_2 : vcK P t92_2 k e w = vcK P b92_2 k e w := rfl
abbrev b92_3 : X := (.seq (.seq (.reg [0, 1, 9] (.c (.q 6 [] (.mv (.t 0))) (.c (.q 7 [] (.mv (.t 1))) (.c (.e (some 8) [] (.call false 213 [(.t 6), (.t 7)])) (.c (.q 9 [] (.not (.t 8))) .nil))))) t92_1) t92_2)
def t92_3 := b92_3
theorem u92_3 : vcK P t92_3 k e w = vcK P b92_3 k e w := rfl
abbrev b92_0 : X := (.seq (.reg [0, 1] (.c (.q 4 [] (.mv (.c (.slice none 0 0)))) (.c (.q 5 [] (.mv (.c (.bool false)))) .nil))) t92_3)
def x_sPartSet := b92_0
theorem u92_0 : vcK P x_sPartSet k e w = vcK P b92_0 k e w := rfl
def r_sPartSet : List XO := [(.mv (.t 4)), (.mv (.t 5))]
theorem c_sPartSet : convF Try.prog [147, 148, 152, 160, 162, 163, 170, 178, 206, 208, 210, 224, 233, 235, 236, 251, 264, 265, 268, 270, 287, 322] Try.f92 [([0, 1], []), ([0, 1, 9], []), ([4, 5], []), ([4, 5], [])] = some (x_sPartSet, r_sPartSet) := by kernel_rfl
def us_sPartSet :=  (aI (aI @u92_0 @u92_1) (aI @u92_2 @u92_3))
abbrev b94_1 : X := (.cond (.t 9) (.seq (.reg [4, 5] (.c (.q 4 [] (.mv (.s []))) (.c (.q 5 [] (.mv (.c (.bool false)))) .nil))) .ret) .skip)
def t94_1 := b94_1
theorem u94_1 : vcK P t94_1 k e w = vcK P b94_1 k e w := rfl
abbrev b94_2 : X := (.seq (.reg [4, 5] (.c (.q 10 [] (.mv (.t 0))) (.c (.q 11 [] (.mv (.t 1))) (.c (.e (some 12) [] (.call false 216 [(.t 10), (.t 11)])) (.c (.q 13 [] (.ia 1 (.t 12) (.c (.int .i64 0)))) (.c (.q 14 [] (.ld (.t 13))) (.c (.q 4 [] (.mv (.t 14))) (.c (.q 5 [] (.mv (.c (.bool true)))) .nil)))))))) .ret)
def t94_2 := b94_2
theorem u94_2 : vcK P t94_2 k e w = vcK P b94_2 k e w := rfl
abbrev b94_3 : X := (.seq (.seq (.reg [0, 1, 9] (.c (.q 6 [] (.mv (.t 0))) (.c (.q 7 [] (.mv (.t 1))) (.c (.e (some 8) [] (.call false 213 [(.t 6), (.t 7)])) (.c (.q 9 [] (.not (.t 8))) .nil))))) t94_1) t94_2)
def t94_3 := b94_3
theorem u94_3 : vcK P t94_3 k e w = vcK P b94_3 k e w := rfl
abbrev b94_0 : X := (.seq (.reg [0, 1] (.c (.q 4 [] (.mv (.s []))) (.c (.q 5 [] (.mv (.c (.bool false)))) .nil))) t94_3)
def x_sLeastIn := b94_0
theorem u94_0 : vcK P x_sLeastIn k e w = vcK P b94_0 k e w := rfl
def r_sLeastIn : List XO := [(.mv (.t 4)), (.mv (.t 5))]
theorem c_sLeastIn : convF Try.prog [147, 148, 152, 160, 162, 163, 170, 178, 206, 208, 210, 224, 233, 235, 236, 251, 264, 265, 268, 270, 287, 322] Try.f94 [([0, 1], []), ([0, 1, 9], []), ([4, 5], []), ([4, 5], [])] = some (x_sLeastIn, r_sLeastIn) := by kernel_rfl
def us_sLeastIn :=  (aI (aI @u94_0 @u94_1) (aI @u94_2 @u94_3))
end

def prtL (e x : Bs) (k : Nat) : List Bs := (List.range k).map fun i => timesL (powL e i) x
theorem prt_succ (e x : Bs) (k : Nat) : prtL e x (k + 1) = prtL e x k ++ [timesL (powL e k) x] := by rw [prtL, List.range_succ, List.map_append]; rfl
theorem prt_len (e x : Bs) (k : Nat) : (prtL e x k).length = k := by simp [prtL]
def Two (e x : Bs) : Prop := IsRow e ∧ IsRow x ∧ e.length = x.length
instance (e x : Bs) : Decidable (Two e x) := by unfold Two; infer_instance
theorem srt_same {A B : List Bs} (h : A.Perm B) : srt A = srt B := srt_uniq ((srt_perm A).trans h) (srt_sorted A)
theorem prt_turn {e x : Bs} (ht : Two e x) {k : Nat} (hO : IsOrd e k) : srt (prtL e (timesL e x) k) = srt (prtL e x k) := by
  obtain ⟨he, hx, hl⟩ := ht
  obtain ⟨m, rfl⟩ : ∃ m, k = m + 1 := ⟨k - 1, by have := hO.1; omega⟩
  have h1 : ∀ i, timesL (powL e i) (timesL e x) = timesL (powL e (i + 1)) x := fun i => by
    rw [← timesL_assoc (powL e i) hx hl, powL_add he]
    congr 1
    have : powL e 1 = e := by show timesL (roundsL e.length) e = e; exact rounds_times he
    rw [this]
  have h2 : timesL (powL e (m + 1)) x = timesL (powL e 0) x := by rw [hO.2.2.1]; rfl
  refine srt_same ?_
  have e1 : prtL e (timesL e x) (m + 1) = (List.range m).map (fun i => timesL (powL e (i + 1)) x) ++ [timesL (powL e 0) x] := by
    rw [prt_succ, h1, h2, prtL]
    congr 1
    exact List.map_congr_left fun i _ => h1 i
  have e2 : prtL e x (m + 1) = timesL (powL e 0) x :: (List.range m).map (fun i => timesL (powL e (i + 1)) x) := by
    rw [prtL, List.range_succ_eq_map, List.map_cons, List.map_map]; rfl
  rw [e1, e2]
  exact List.perm_append_singleton _ _
theorem ipartSet_ok (e x : Bs) (k : Nat) (ht : Two e x) (hO : IsOrd e k) (w : World) : Fn 215 [S e, S x] w (fun r w' => Own fS 1 9 w.heap.size w' r (srt (prtL e x k))) := by
  (refine callsV_of mix Try.func215 c_ipartSet ?_; simp only [↓vsd, vsn, gW, qd, qv, ev, pick, argE, zipE, ne_eq, eq_self, forall_const, implies_true, if_true, if_false, reduceIte, reduceCtorEq, Nat.reduceEqDiff, Nat.reduceAdd, Nat.reduceLT, ↓us_ipartSet, r_ipartSet])
  have hk := hO.2.1
  have hk1 := hO.1
  refine m_bsl (by simp) ?_
  rintro b1 w1 hb1 hblk1 hx1 hs1
  simp only [↓vsd, vsn, gW, qd, qv, ev, pick, argE, zipE, ne_eq, eq_self, forall_const, implies_true, if_true, if_false, reduceIte, reduceCtorEq, Nat.reduceEqDiff, Nat.reduceAdd, Nat.reduceLT, ↓us_ipartSet, r_ipartSet]
  refine m_call (ipowers_ok e k ht.1 hO _) ?_
  rintro y w2 hx2 ho2
  have hx12 := hx1.trans hx2
  have hq2 := ho2.sq
  have hml : ((List.range k).map (powL e)).length = k := by simp
  have hap : Apart (.slice (some ⟨b1, 0, none⟩) 0 0) y := fun c hc e => by
    simp only [Value.ownBlock, Option.some.injEq] at hc
    have := (ho2.bound c e).1
    omega
  have hb : Own fS 1 9 w.heap.size w2 (.slice (some ⟨b1, 0, none⟩) 0 0) (prtL e x 0) := ((Own.empty fS_len hblk1 (by omega)).ext hx2).to rfl
  simp only [↓vsd, vsn, gW, qd, qv, ev, pick, argE, zipE, ne_eq, eq_self, forall_const, implies_true, if_true, if_false, reduceIte, reduceCtorEq, Nat.reduceEqDiff, Nat.reduceAdd, Nat.reduceLT, ↓us_ipartSet, r_ipartSet, hq2.facts, hml]
  refine m_upto k (fun i vs w' => ∃ z, vs = [z, .int .i64 i] ∧ Own fS 1 9 w.heap.size w' z (prtL e x i) ∧ Own fS 1 9 w.heap.size w' y ((List.range k).map (powL e)) ∧ Apart z y ∧ z ≠ .slice none 0 0 ∧ Ext w w') ⟨_, rfl, hb, ho2.mono hx1.size, hap, (by simp), hx12⟩ ?_
  rintro i vs w3 hi ⟨z, rfl, ho3, hy3, hap3, hne3, hx3⟩
  by_cases hlt : i < k
  · have hltI : (i : Int) < k := by omega
    have hltJ : ¬ (k : Int) ≤ i := by omega
    have a3 := hy3.sq.at1 [] (i := i) (by omega)
    have hgi : ((List.range k).map (powL e)).getD i [] = powL e i := by rw [List.getD_eq_getElem?_getD, List.getElem?_map, List.getElem?_range hlt]; rfl
    rw [hgi] at a3
    have hps := prt_succ e x i
    have hpl := prt_len e x i
    simp only [↓vsd, vsn, gW, qd, qv, ev, pick, argE, zipE, ne_eq, eq_self, forall_const, implies_true, if_true, if_false, reduceIte, reduceCtorEq, Nat.reduceEqDiff, Nat.reduceAdd, Nat.reduceLT, ↓us_ipartSet, r_ipartSet, hltI, hltJ, hy3.sq.facts, a3, hml]
    refine ⟨by omega, m_call (itimes_ok (powL e i) x ht.2.1 (by rw [powL_len]; exact ht.2.2) _) ?_⟩
    rintro _ w4 hx4 rfl
    have hx4 : Ext w3 w4 := by first | exact hx4 | exact ud hx4 | exact ud (ud hx4)
    simp only [↓vsd, vsn, gW, qd, qv, ev, pick, argE, zipE, ne_eq, eq_self, forall_const, implies_true, if_true, if_false, reduceIte, reduceCtorEq, Nat.reduceEqDiff, Nat.reduceAdd, Nat.reduceLT, ↓us_ipartSet, r_ipartSet]
    refine m_bsl (one_el rfl) ?_
    rintro b5 w5 hb5 hblk5 hx5 hs5
    have hx5 : Ext w4 w5 := by first | exact hx5 | exact ud hx5 | exact ud (ud hx5)
    have hx35 := hx4.trans hx5
    simp only [↓vsd, vsn, gW, qd, qv, ev, pick, argE, zipE, ne_eq, eq_self, forall_const, implies_true, if_true, if_false, reduceIte, reduceCtorEq, Nat.reduceEqDiff, Nat.reduceAdd, Nat.reduceLT, ↓us_ipartSet, r_ipartSet]
    refine m_app2 (ho3.ext hx35) (Sq.one fS_len hblk5 rfl) fS_one (by decide) (by rw [List.length_singleton]; omega) (by decide) (hx3.trans hx35).size ?_
    rintro z6 w6 ho6 hg6 hn6
    have hx6 := (ho3.ext hx35).grown (hx3.trans hx35) (Nat.le_refl _) hg6
    simp only [↓vsd, vsn, gW, qd, qv, ev, pick, argE, zipE, ne_eq, eq_self, forall_const, implies_true, if_true, if_false, reduceIte, reduceCtorEq, Nat.reduceEqDiff, Nat.reduceAdd, Nat.reduceLT, ↓us_ipartSet, r_ipartSet]
    exact ⟨inR_i64 (by omega), UpTo.next hlt ⟨z6, rfl, ho6.to hps.symm, (hy3.ext hx35).keep2 hg6 hap3, hap3.next (hy3.ext hx35) hn6, own_ne ho6 (by simp), hx6⟩⟩
  · obtain rfl : i = k := by omega
    have hltI : ¬ (i : Int) < i := by omega
    have hpl := prt_len e x i
    simp only [↓vsd, vsn, gW, qd, qv, ev, pick, argE, zipE, ne_eq, eq_self, forall_const, implies_true, if_true, if_false, reduceIte, reduceCtorEq, Nat.reduceEqDiff, Nat.reduceAdd, Nat.reduceLT, ↓us_ipartSet, r_ipartSet, hltI]
    refine m_callw (by first | exact .inl rfl | exact .inr rfl) (xslices_Sort_string_string_ok z _ (by omega) hne3 _ ho3) ?_
    rintro _ w4 ⟨ho4, hg4⟩
    simp only [↓vsd, vsn, gW, qd, qv, ev, pick, argE, zipE, ne_eq, eq_self, forall_const, implies_true, if_true, if_false, reduceIte, reduceCtorEq, Nat.reduceEqDiff, Nat.reduceAdd, Nat.reduceLT, ↓us_ipartSet, r_ipartSet]
    exact ⟨ho3.grown hx3 (Nat.le_refl _) hg4, ho4⟩
theorem sl12Set_ok (e x : Bs) (k : Nat) (ht : Two e x) (hO : IsOrd e k) (w : World) : Fn 216 [S e, S x] w (fun r w' => Own fS 1 9 w.heap.size w' r (srt (prtL e x k))) := by
  (refine callsV_of mix Try.func216 c_sl12Set ?_; simp only [↓vsd, vsn, gW, qd, qv, ev, pick, argE, zipE, ne_eq, eq_self, forall_const, implies_true, if_true, if_false, reduceIte, reduceCtorEq, Nat.reduceEqDiff, Nat.reduceAdd, Nat.reduceLT, ↓us_sl12Set, r_sl12Set])
  have hk := hO.2.1
  have hk1 := hO.1
  have h8 := ht.1.1
  refine m_call (sl1Rounds_ok e.length (by omega) _) ?_
  rintro _ w1 hx1 rfl
  simp only [↓vsd, vsn, gW, qd, qv, ev, pick, argE, zipE, ne_eq, eq_self, forall_const, implies_true, if_true, if_false, reduceIte, reduceCtorEq, Nat.reduceEqDiff, Nat.reduceAdd, Nat.reduceLT, ↓us_sl12Set, r_sl12Set]
  refine m_call (sl1Order_ok e k ht.1 hO _) ?_
  rintro _ w2 hx2 rfl
  have hx12 := hx1.trans hx2
  simp only [↓vsd, vsn, gW, qd, qv, ev, pick, argE, zipE, ne_eq, eq_self, forall_const, implies_true, if_true, if_false, reduceIte, reduceCtorEq, Nat.reduceEqDiff, Nat.reduceAdd, Nat.reduceLT, ↓us_sl12Set, r_sl12Set]
  refine m_upto k (fun i vs w' => ∃ z, vs = [z, S (powL e i), .int .i64 ((k : Int) - i)] ∧ Own fS 1 9 w.heap.size w' z (prtL e x i) ∧ Ext w w') ⟨_, by rw [Int.natCast_zero, Int.sub_zero]; rfl, (Own.nil fS_len).to rfl, hx12⟩ ?_
  rintro i vs w3 hi ⟨z, rfl, ho3, hx3⟩
  have hpl := prt_len e x i
  by_cases hlt : i < k
  · have hltI : (0 : Int) < (k : Int) - i := by omega
    have hltJ : ¬ (k : Int) - i ≤ 0 := by omega
    have hps := prt_succ e x i
    have ei : (k : Int) - i - 1 = (k : Int) - ((i + 1 : Nat) : Int) := by omega
    simp only [↓vsd, vsn, gW, qd, qv, ev, pick, argE, zipE, ne_eq, eq_self, forall_const, implies_true, if_true, if_false, reduceIte, reduceCtorEq, Nat.reduceEqDiff, Nat.reduceAdd, Nat.reduceLT, ↓us_sl12Set, r_sl12Set, hltI, hltJ]
    refine m_call (sl1Times_ok (powL e i) x ht.2.1 (by rw [powL_len]; exact ht.2.2) _) ?_
    rintro _ w4 hx4 rfl
    have hx4 : Ext w3 w4 := by first | exact hx4 | exact ud hx4 | exact ud (ud hx4)
    simp only [↓vsd, vsn, gW, qd, qv, ev, pick, argE, zipE, ne_eq, eq_self, forall_const, implies_true, if_true, if_false, reduceIte, reduceCtorEq, Nat.reduceEqDiff, Nat.reduceAdd, Nat.reduceLT, ↓us_sl12Set, r_sl12Set]
    refine m_bsl (one_el rfl) ?_
    rintro b5 w5 hb5 hblk5 hx5 hs5
    have hx5 : Ext w4 w5 := by first | exact hx5 | exact ud hx5 | exact ud (ud hx5)
    have hx35 := hx4.trans hx5
    simp only [↓vsd, vsn, gW, qd, qv, ev, pick, argE, zipE, ne_eq, eq_self, forall_const, implies_true, if_true, if_false, reduceIte, reduceCtorEq, Nat.reduceEqDiff, Nat.reduceAdd, Nat.reduceLT, ↓us_sl12Set, r_sl12Set]
    refine m_app (ho3.ext hx35) (Sq.one fS_len hblk5 rfl) fS_one (by decide) (by rw [List.length_singleton]; omega) (by decide) (hx3.trans hx35).size ?_
    rintro z6 w6 ho6 hg6
    have hx6 := (ho3.ext hx35).grown (hx3.trans hx35) (Nat.le_refl _) hg6
    simp only [↓vsd, vsn, gW, qd, qv, ev, pick, argE, zipE, ne_eq, eq_self, forall_const, implies_true, if_true, if_false, reduceIte, reduceCtorEq, Nat.reduceEqDiff, Nat.reduceAdd, Nat.reduceLT, ↓us_sl12Set, r_sl12Set]
    refine m_call (sl1Times_ok (powL e i) e ht.1 (by rw [powL_len]) _) ?_
    rintro _ w7 hx7 rfl
    have hx7 : Ext w6 w7 := by first | exact hx7 | exact ud hx7 | exact ud (ud hx7)
    simp only [↓vsd, vsn, gW, qd, qv, ev, pick, argE, zipE, ne_eq, eq_self, forall_const, implies_true, if_true, if_false, reduceIte, reduceCtorEq, Nat.reduceEqDiff, Nat.reduceAdd, Nat.reduceLT, ↓us_sl12Set, r_sl12Set, ei]
    exact ⟨inR_i64 (by omega), UpTo.next hlt ⟨z6, rfl, (ho6.to hps.symm).ext hx7, hx6.trans hx7⟩⟩
  · obtain rfl : i = k := by omega
    have hltI : ¬ (0 : Int) < (i : Int) - i := by omega
    simp only [↓vsd, vsn, gW, qd, qv, ev, pick, argE, zipE, ne_eq, eq_self, forall_const, implies_true, if_true, if_false, reduceIte, reduceCtorEq, Nat.reduceEqDiff, Nat.reduceAdd, Nat.reduceLT, ↓us_sl12Set, r_sl12Set, hltI]
    refine m_call (sl6Sort_ok _ _ z (Nat.le_refl _) (by omega) _ ho3.sq) ?_
    rintro y w4 hx4 ho4
    simp only [↓vsd, vsn, gW, qd, qv, ev, pick, argE, zipE, ne_eq, eq_self, forall_const, implies_true, if_true, if_false, reduceIte, reduceCtorEq, Nat.reduceEqDiff, Nat.reduceAdd, Nat.reduceLT, ↓us_sl12Set, r_sl12Set]
    exact ⟨hx3.trans hx4, ho4.mono hx3.size⟩
def setL (e x : Bs) (k : Nat) : List Bs := if Two e x then srt (prtL e x k) else []
def leaV (e x : Bs) (k : Nat) : Value := .tuple ⟨[S ((setL e x k).getD 0 []), .bool (decide (Two e x))]⟩
theorem iPartSet_ok (e x : Bs) (k : Nat) (hO : IsRow e → IsOrd e k) (w : World) : Fn 91 [S e, S x] w (fun r w' => ∃ y, r = .tuple ⟨[y, .bool (decide (Two e x))]⟩ ∧ Own fS 1 9 w.heap.size w' y (setL e x k)) := by
  have hno : ¬ Two e x → ∀ w', ∃ y, Value.tuple ⟨[.slice none 0 0, .bool false]⟩ = .tuple ⟨[y, .bool (decide (Two e x))]⟩ ∧ Own fS 1 9 w.heap.size w' y (setL e x k) := fun hn w' =>
    ⟨_, by rw [decide_eq_false hn], by rw [setL, if_neg hn]; exact Own.nil fS_len⟩
  (refine callsV_of mix Try.func91 c_iPartSet ?_; simp only [↓vsd, vsn, gW, qd, qv, ev, pick, argE, zipE, ne_eq, eq_self, forall_const, implies_true, if_true, if_false, reduceIte, reduceCtorEq, Nat.reduceEqDiff, Nat.reduceAdd, Nat.reduceLT, ↓us_iPartSet, r_iPartSet])
  refine m_call (iGoodRow_ok e _) ?_
  rintro _ w1 hx1 rfl
  by_cases he : IsRow e
  · simp only [↓vsd, vsn, gW, qd, qv, ev, pick, argE, zipE, ne_eq, eq_self, forall_const, implies_true, if_true, if_false, reduceIte, reduceCtorEq, Nat.reduceEqDiff, Nat.reduceAdd, Nat.reduceLT, ↓us_iPartSet, r_iPartSet, he]
    refine m_call (iisRowOf_ok e.length x _) ?_
    rintro _ w2 hx2 rfl
    have hx2 : Ext w1 w2 := by first | exact hx2 | exact ud hx2 | exact ud (ud hx2)
    have hx12 := hx1.trans hx2
    by_cases hx : (x.length : Int) = e.length ∧ IsRow x
    · have ht : Two e x := ⟨he, hx.2, by omega⟩
      have hD : (decide ((x.length : Int) = e.length) && decide (IsRow x)) = true := by rw [decide_eq_true hx.1, decide_eq_true hx.2]; rfl
      rw [hD]
      simp only [↓vsd, vsn, gW, qd, qv, ev, pick, argE, zipE, ne_eq, eq_self, forall_const, implies_true, if_true, if_false, reduceIte, reduceCtorEq, Nat.reduceEqDiff, Nat.reduceAdd, Nat.reduceLT, ↓us_iPartSet, r_iPartSet]
      refine m_call (ipartSet_ok e x k ht (hO he) _) ?_
      rintro y w3 hx3 ho3
      have hx3 : Ext w2 w3 := by first | exact hx3 | exact ud hx3 | exact ud (ud hx3)
      simp only [↓vsd, vsn, gW, qd, qv, ev, pick, argE, zipE, ne_eq, eq_self, forall_const, implies_true, if_true, if_false, reduceIte, reduceCtorEq, Nat.reduceEqDiff, Nat.reduceAdd, Nat.reduceLT, ↓us_iPartSet, r_iPartSet]
      exact ⟨hx12.trans hx3, y, by rw [decide_eq_true ht], by rw [setL, if_pos ht]; exact ho3.mono hx12.size⟩
    · have hD : (decide ((x.length : Int) = e.length) && decide (IsRow x)) = false := by
        by_cases h1 : (x.length : Int) = e.length
        · rw [decide_eq_true h1, decide_eq_false (fun hh => hx ⟨h1, hh⟩)]; rfl
        · rw [decide_eq_false h1]; rfl
      rw [hD]
      simp only [↓vsd, vsn, gW, qd, qv, ev, pick, argE, zipE, ne_eq, eq_self, forall_const, implies_true, if_true, if_false, reduceIte, reduceCtorEq, Nat.reduceEqDiff, Nat.reduceAdd, Nat.reduceLT, ↓us_iPartSet, r_iPartSet]
      exact ⟨hx12, hno (fun hh => hx ⟨by rw [hh.2.2], hh.2.1⟩) _⟩
  · simp only [↓vsd, vsn, gW, qd, qv, ev, pick, argE, zipE, ne_eq, eq_self, forall_const, implies_true, if_true, if_false, reduceIte, reduceCtorEq, Nat.reduceEqDiff, Nat.reduceAdd, Nat.reduceLT, ↓us_iPartSet, r_iPartSet, he]
    exact ⟨hx1, hno (fun hh => he hh.1) _⟩
theorem sPartSet_ok (e x : Bs) (k : Nat) (hO : IsRow e → IsOrd e k) (w : World) : Fn 92 [S e, S x] w (fun r w' => ∃ y, r = .tuple ⟨[y, .bool (decide (Two e x))]⟩ ∧ Own fS 1 9 w.heap.size w' y (setL e x k)) := by
  (refine callsV_of mix Try.func92 c_sPartSet ?_; simp only [↓vsd, vsn, gW, qd, qv, ev, pick, argE, zipE, ne_eq, eq_self, forall_const, implies_true, if_true, if_false, reduceIte, reduceCtorEq, Nat.reduceEqDiff, Nat.reduceAdd, Nat.reduceLT, ↓us_sPartSet, r_sPartSet])
  refine m_call (sl1Two_ok e x _) ?_
  rintro _ w1 hx1 rfl
  by_cases ht : Two e x
  · have hD : decide (IsRow e ∧ IsRow x ∧ e.length = x.length) = true := decide_eq_true ht
    simp only [↓vsd, vsn, gW, qd, qv, ev, pick, argE, zipE, ne_eq, eq_self, forall_const, implies_true, if_true, if_false, reduceIte, reduceCtorEq, Nat.reduceEqDiff, Nat.reduceAdd, Nat.reduceLT, ↓us_sPartSet, r_sPartSet, hD]
    refine m_call (sl12Set_ok e x k ht (hO ht.1) _) ?_
    rintro y w2 hx2 ho2
    have hx2 : Ext w1 w2 := by first | exact hx2 | exact ud hx2 | exact ud (ud hx2)
    simp only [↓vsd, vsn, gW, qd, qv, ev, pick, argE, zipE, ne_eq, eq_self, forall_const, implies_true, if_true, if_false, reduceIte, reduceCtorEq, Nat.reduceEqDiff, Nat.reduceAdd, Nat.reduceLT, ↓us_sPartSet, r_sPartSet]
    exact ⟨hx1.trans hx2, y, by rw [decide_eq_true ht], by rw [setL, if_pos ht]; exact ho2.mono hx1.size⟩
  · have hD : decide (IsRow e ∧ IsRow x ∧ e.length = x.length) = false := decide_eq_false ht
    simp only [↓vsd, vsn, gW, qd, qv, ev, pick, argE, zipE, ne_eq, eq_self, forall_const, implies_true, if_true, if_false, reduceIte, reduceCtorEq, Nat.reduceEqDiff, Nat.reduceAdd, Nat.reduceLT, ↓us_sPartSet, r_sPartSet, hD]
    exact ⟨hx1, _, by rw [decide_eq_false ht], by rw [setL, if_neg ht]; exact Own.nil fS_len⟩
theorem iLeastIn_ok (e x : Bs) (k : Nat) (hO : IsRow e → IsOrd e k) (w : World) : Fn 93 [S e, S x] w (fun r _ => r = leaV e x k) := by
  (refine callsV_of mix Try.func93 c_iLeastIn ?_; simp only [↓vsd, vsn, gW, qd, qv, ev, pick, argE, zipE, ne_eq, eq_self, forall_const, implies_true, if_true, if_false, reduceIte, reduceCtorEq, Nat.reduceEqDiff, Nat.reduceAdd, Nat.reduceLT, ↓us_iLeastIn, r_iLeastIn])
  refine m_call (iPartSet_ok e x k hO _) ?_
  rintro _ w1 hx1 ⟨y, rfl, ho1⟩
  by_cases ht : Two e x
  · have hl : 0 < (setL e x k).length := by rw [setL, if_pos ht, srt_len, prt_len]; exact (hO ht.1).1
    have a1 := ho1.sq.at0 [] hl
    simp only [↓vsd, vsn, gW, qd, qv, ev, pick, argE, zipE, ne_eq, eq_self, forall_const, implies_true, if_true, if_false, reduceIte, reduceCtorEq, Nat.reduceEqDiff, Nat.reduceAdd, Nat.reduceLT, ↓us_iLeastIn, r_iLeastIn, ht, ho1.sq.facts, a1]
    exact ⟨by omega, hx1, by unfold leaV; simp only [ht, decide_true]⟩
  · have e0 : (setL e x k).getD 0 [] = [] := by rw [setL, if_neg ht]; rfl
    simp only [↓vsd, vsn, gW, qd, qv, ev, pick, argE, zipE, ne_eq, eq_self, forall_const, implies_true, if_true, if_false, reduceIte, reduceCtorEq, Nat.reduceEqDiff, Nat.reduceAdd, Nat.reduceLT, ↓us_iLeastIn, r_iLeastIn, ht]
    exact ⟨hx1, by unfold leaV; simp only [ht, decide_false, e0]⟩
theorem sLeastIn_ok (e x : Bs) (k : Nat) (hO : IsRow e → IsOrd e k) (w : World) : Fn 94 [S e, S x] w (fun r _ => r = leaV e x k) := by
  (refine callsV_of mix Try.func94 c_sLeastIn ?_; simp only [↓vsd, vsn, gW, qd, qv, ev, pick, argE, zipE, ne_eq, eq_self, forall_const, implies_true, if_true, if_false, reduceIte, reduceCtorEq, Nat.reduceEqDiff, Nat.reduceAdd, Nat.reduceLT, ↓us_sLeastIn, r_sLeastIn])
  refine m_call (sl1Two_ok e x _) ?_
  rintro _ w1 hx1 rfl
  by_cases ht : Two e x
  · have hD : decide (IsRow e ∧ IsRow x ∧ e.length = x.length) = true := decide_eq_true ht
    have hl : 0 < (srt (prtL e x k)).length := by rw [srt_len, prt_len]; exact (hO ht.1).1
    simp only [↓vsd, vsn, gW, qd, qv, ev, pick, argE, zipE, ne_eq, eq_self, forall_const, implies_true, if_true, if_false, reduceIte, reduceCtorEq, Nat.reduceEqDiff, Nat.reduceAdd, Nat.reduceLT, ↓us_sLeastIn, r_sLeastIn, hD]
    refine m_call (sl12Set_ok e x k ht (hO ht.1) _) ?_
    rintro y w2 hx2 ho2
    have hx2 : Ext w1 w2 := by first | exact hx2 | exact ud hx2 | exact ud (ud hx2)
    have a2 := ho2.sq.at0 [] hl
    simp only [↓vsd, vsn, gW, qd, qv, ev, pick, argE, zipE, ne_eq, eq_self, forall_const, implies_true, if_true, if_false, reduceIte, reduceCtorEq, Nat.reduceEqDiff, Nat.reduceAdd, Nat.reduceLT, ↓us_sLeastIn, r_sLeastIn, ho2.sq.facts, a2]
    exact ⟨by omega, hx1.trans hx2, by unfold leaV; simp only [ht, decide_true, setL, if_true]⟩
  · have hD : decide (IsRow e ∧ IsRow x ∧ e.length = x.length) = false := decide_eq_false ht
    have e0 : (setL e x k).getD 0 [] = [] := by rw [setL, if_neg ht]; rfl
    simp only [↓vsd, vsn, gW, qd, qv, ev, pick, argE, zipE, ne_eq, eq_self, forall_const, implies_true, if_true, if_false, reduceIte, reduceCtorEq, Nat.reduceEqDiff, Nat.reduceAdd, Nat.reduceLT, ↓us_sLeastIn, r_sLeastIn, hD]
    exact ⟨hx1, by unfold leaV; simp only [ht, decide_false, e0]⟩
end Go.Proofs.Ytnincmnkdjlndaa
