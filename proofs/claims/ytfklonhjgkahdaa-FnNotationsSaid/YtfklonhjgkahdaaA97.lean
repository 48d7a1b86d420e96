/-
  Place notation: ReadNotation of the program.
  Conditions: none.
-/
import Derived.Test.YtfklonhjgkahdaaA95
import Derived.Test.YtfklonhjgkahdaaVu
set_option linter.unusedSimpArgs false
set_option linter.unusedVariables false
set_option linter.defProp false
namespace Go.Proofs.Ytfklonhjgkahdaa
open Go Go.RowKit
section
variable (P : Program) (k : KT) (e : Env) (w : World)
abbrev b26_1 : X := (.cond (.t 15) (.seq (.reg [4, 5, 6, 7] (.c (.q 4 [] (.mv (.c (.slice none 0 0)))) (.c (.q 5 [] (.mv (.c (.int .i64 0)))) (.c (.q 6 [] (.mv (.c (.int .i64 0)))) (.c (.q 7 [] (.mv (.c (.bool false)))) .nil))))) .ret) .skip)
def t26_1 := b26_1
theorem u26_1 : vcK P t26_1 k e w = vcK P b26_1 k e w := rfl
abbrev b26_2 : X := (.cond (.t 22) (.seq (.reg [4, 5, 6, 7] (.c (.q 4 [] (.mv (.c (.slice none 0 0)))) (.c (.q 5 [] (.mv (.c (.int .i64 1)))) (.c (.q 6 [] (.mv (.c (.int .i64 0)))) (.c (.q 7 [] (.mv (.c (.bool false)))) .nil))))) .ret) .skip)
def t26_2 := b26_2
theorem u26_2 : vcK P t26_2 k e w = vcK P b26_2 k e w := rfl
abbrev b26_3 : X := (.cond (.t 33) (.seq (.drw [4, 5, 6, 7] (.c (.q 34 [] (.fa 3 (.t 8))) (.c (.q 35 [] (.ld (.t 34))) (.c (.q 4 [] (.mv (.c (.slice none 0 0)))) (.c (.q 5 [] (.mv (.c (.int .i64 2)))) (.c (.q 6 [] (.mv (.t 35))) (.c (.q 7 [] (.mv (.c (.bool false)))) .nil))))))) .ret) .skip)
def t26_3 := b26_3
theorem u26_3 : vcK P t26_3 k e w = vcK P b26_3 k e w := rfl
abbrev b26_4 : X := (.cond (.t 40) (.exit 0) .skip)
def t26_4 := b26_4
theorem u26_4 : vcK P t26_4 k e w = vcK P b26_4 k e w := rfl
abbrev b26_5 : X := (.reg [1, 8, 9] (.c (.q 41 [] (.fa 2 (.t 8))) (.c (.q 42 [] (.ld (.t 41))) (.c (.q 43 [] (.bin .add (.t 42) (.c (.int .i64 1)))) (.c (.q 44 [] (.fa 2 (.t 8))) (.c (.e none [] (.st 1 (.t 44) (.t 43))) .nil))))))
def t26_5 := b26_5
theorem u26_5 : vcK P t26_5 k e w = vcK P b26_5 k e w := rfl
abbrev b26_6 : X := (.seq (.seq (.reg [1, 8, 9, 40] (.c (.q 36 [] (.fa 2 (.t 8))) (.c (.q 37 [] (.ld (.t 36))) (.c (.q 38 [] (.mv (.t 1))) (.c (.q 39 [] (.len (.t 38))) (.c (.q 40 [] (.bin .eql (.t 37) (.t 39))) .nil)))))) t26_4) t26_5)
def t26_6 := b26_6
theorem u26_6 : vcK P t26_6 k e w = vcK P b26_6 k e w := rfl
abbrev b26_7 : X := (.seq (.seq (.reg [1, 8, 9, 33] (.c (.q 31 [] (.fa 3 (.t 8))) (.c (.q 32 [] (.ld (.t 31))) (.c (.q 33 [] (.bin .geq (.t 32) (.c (.int .i64 0)))) .nil)))) t26_3) t26_6)
def t26_7 := b26_7
theorem u26_7 : vcK P t26_7 k e w = vcK P b26_7 k e w := rfl
abbrev b26_8 : X := (.blk 1 (.seq (.reg [1, 8, 9] (.c (.q 27 [] (.mv (.t 9))) (.c (.e (some 28) [] (.call false 53 [(.t 8)])) (.c (.e (some 29) [] (.bsl 24 1 [(.t 28)])) (.c (.e (some 30) [] (.app 76 24 1 24 [(.slice none 0 0)] 76 (.t 27) (.t 29))) (.c (.q 9 [] (.mv (.t 30))) .nil)))))) t26_7))
def t26_8 := b26_8
theorem u26_8 : vcK P t26_8 k e w = vcK P b26_8 k e w := rfl
abbrev b26_9 : X := (.reg [9, 10, 52, 53, 54] (.c (.q 58 [] (.mv (.t 10))) (.c (.q 59 [] (.mv (.t 12))) (.c (.e (some 60) [] (.call false 37 [(.t 59)])) (.c (.e (some 61) [] (.app 24 9 1 16 [(S [])] 24 (.t 58) (.t 60))) (.c (.q 10 [] (.mv (.t 61))) .nil))))))
def t26_9 := b26_9
theorem u26_9 : vcK P t26_9 k e w = vcK P b26_9 k e w := rfl
abbrev b26_10 : X := (.reg [9, 10, 52, 53, 54] (.c (.q 62 [] (.bin .add (.t 54) (.c (.int .i64 1)))) (.c (.q 54 [] (.mv (.t 62))) .nil)))
def t26_10 := b26_10
theorem u26_10 : vcK P t26_10 k e w = vcK P b26_10 k e w := rfl
abbrev b26_11 : X := (.seq (.blk 3 (.seq (.reg [9, 10, 12, 52, 53, 54] (.c (.q 56 [] (.ia 1 (.t 52) (.t 54))) (.c (.q 57 [] (.ld (.t 56))) (.c (.q 12 [] (.mv (.t 57))) .nil)))) t26_9)) t26_10)
def t26_11 := b26_11
theorem u26_11 : vcK P t26_11 k e w = vcK P b26_11 k e w := rfl
abbrev b26_12 : X := (.seq (.cond (.t 55) .skip (.exit 2)) t26_11)
def t26_12 := b26_12
theorem u26_12 : vcK P t26_12 k e w = vcK P b26_12 k e w := rfl
abbrev b26_13 : X := (.seq (.reg [9, 10, 52, 53, 54, 55] (.c (.q 55 [] (.bin .lss (.t 54) (.t 53))) .nil)) t26_12)
def t26_13 := b26_13
theorem u26_13 : vcK P t26_13 k e w = vcK P b26_13 k e w := rfl
abbrev b26_14 : X := (.blk 2 (.loop [10, 54] [9, 52, 53] t26_13))
def t26_14 := b26_14
theorem u26_14 : vcK P t26_14 k e w = vcK P b26_14 k e w := rfl
abbrev b26_15 : X := (.seq (.reg [9, 10, 52, 53, 54] (.c (.q 52 [] (.mv (.t 9))) (.c (.q 53 [] (.lens (.t 52))) (.c (.q 54 [] (.mv (.c (.int .i64 0)))) .nil)))) t26_14)
def t26_15 := b26_15
theorem u26_15 : vcK P t26_15 k e w = vcK P b26_15 k e w := rfl
abbrev b26_16 : X := (.cond (.t 50) (.seq (.reg [9, 10] (.c (.e (some 51) [] (.bsl 9 1 [])) (.c (.q 10 [] (.mv (.t 51))) .nil))) t26_15) .skip)
def t26_16 := b26_16
theorem u26_16 : vcK P t26_16 k e w = vcK P b26_16 k e w := rfl
abbrev b26_17 : X := (.cond (.t 70) (.seq (.reg [4, 5, 6, 7] (.c (.q 4 [] (.mv (.c (.slice none 0 0)))) (.c (.q 5 [] (.mv (.c (.int .i64 3)))) (.c (.q 6 [] (.mv (.c (.int .i64 0)))) (.c (.q 7 [] (.mv (.c (.bool false)))) .nil))))) .ret) .skip)
def t26_17 := b26_17
theorem u26_17 : vcK P t26_17 k e w = vcK P b26_17 k e w := rfl
abbrev b26_18 : X := (.seq (.reg [4, 5, 6, 7] (.c (.q 71 [] (.mv (.t 10))) (.c (.q 4 [] (.mv (.t 71))) (.c (.q 5 [] (.mv (.c (.int .i64 0)))) (.c (.q 6 [] (.mv (.c (.int .i64 0)))) (.c (.q 7 [] (.mv (.c (.bool true)))) .nil)))))) .ret)
def t26_18 := b26_18
theorem u26_18 : vcK P t26_18 k e w = vcK P b26_18 k e w := rfl
abbrev b26_19 : X := (.seq (.seq (.reg [10, 70] (.c (.q 63 [] (.mv (.t 9))) (.c (.q 64 [] (.lens (.t 63))) (.c (.q 65 [] (.bin .gtr (.t 64) (.c (.int .i64 4)))) (.c (.q 66 [] (.mv (.t 65))) (.c (.q 67 [(66, false)] (.mv (.t 10))) (.c (.q 68 [(66, false)] (.lens (.t 67))) (.c (.q 69 [(66, false)] (.bin .gtr (.t 68) (.c (.int .i64 40)))) (.c (.q 70 [] (.pick (.t 66) (.c (.bool true)) (.t 69))) .nil))))))))) t26_17) t26_18)
def t26_19 := b26_19
theorem u26_19 : vcK P t26_19 k e w = vcK P b26_19 k e w := rfl
abbrev b26_20 : X := (.seq (.seq (.reg [9, 10, 50] (.c (.q 48 [] (.mv (.t 9))) (.c (.q 49 [] (.lens (.t 48))) (.c (.q 50 [] (.bin .gtr (.t 49) (.c (.int .i64 1)))) .nil)))) t26_16) t26_19)
def t26_20 := b26_20
theorem u26_20 : vcK P t26_20 k e w = vcK P b26_20 k e w := rfl
abbrev b26_21 : X := (.seq (.reg [9, 10] (.c (.q 45 [] (.mv (.t 9))) (.c (.q 46 [] (.ia 1 (.t 45) (.c (.int .i64 0)))) (.c (.q 47 [] (.ld (.t 46))) (.c (.q 10 [] (.mv (.t 47))) .nil))))) t26_20)
def t26_21 := b26_21
theorem u26_21 : vcK P t26_21 k e w = vcK P b26_21 k e w := rfl
abbrev b26_22 : X := (.seq (.blk 0 (.loop [9] [1, 8] t26_8)) t26_21)
def t26_22 := b26_22
theorem u26_22 : vcK P t26_22 k e w = vcK P b26_22 k e w := rfl
abbrev b26_23 : X := (.seq (.reg [1, 8, 9] (.c (.e (some 26) [] (.bsl 24 1 [])) (.c (.q 9 [] (.mv (.t 26))) .nil))) t26_22)
def t26_23 := b26_23
theorem u26_23 : vcK P t26_23 k e w = vcK P b26_23 k e w := rfl
abbrev b26_24 : X := (.seq (.reg [1, 8] (.c (.q 23 [] (.mv (.t 0))) (.c (.q 24 [] (.mv (.t 1))) (.c (.q 25 [] (.bld [(.int .i64 0), (S []), (.int .i64 0), (.int .i64 0)] [(0, 0, (.t 23)), (1, 0, (.t 24)), (3, 0, (.c (.int .i64 (-1))))])) (.c (.e (some 8) [] (.al 75 [(.int .i64 0), (S []), (.int .i64 0), (.int .i64 0)])) (.c (.e none [] (.st 4 (.t 8) (.t 25))) .nil)))))) t26_23)
def t26_24 := b26_24
theorem u26_24 : vcK P t26_24 k e w = vcK P b26_24 k e w := rfl
abbrev b26_25 : X := (.seq (.seq (.reg [0, 1, 22] (.c (.q 16 [] (.mv (.t 1))) (.c (.q 17 [] (.bin .eql (.t 16) (.s []))) (.c (.q 18 [] (.mv (.t 17))) (.c (.q 19 [(18, false)] (.mv (.t 1))) (.c (.q 20 [(18, false)] (.len (.t 19))) (.c (.q 21 [(18, false)] (.bin .gtr (.t 20) (.c (.int .i64 200)))) (.c (.q 22 [] (.pick (.t 18) (.c (.bool true)) (.t 21))) .nil)))))))) t26_2) t26_24)
def t26_25 := b26_25
theorem u26_25 : vcK P t26_25 k e w = vcK P b26_25 k e w := rfl
abbrev b26_26 : X := (.seq (.seq (.reg [0, 1, 15] (.c (.q 13 [] (.mv (.t 0))) (.c (.e (some 14) [] (.call false 43 [(.t 13)])) (.c (.q 15 [] (.not (.t 14))) .nil)))) t26_1) t26_25)
def t26_26 := b26_26
theorem u26_26 : vcK P t26_26 k e w = vcK P b26_26 k e w := rfl
abbrev b26_0 : X := (.seq (.reg [0, 1] (.c (.q 4 [] (.mv (.c (.slice none 0 0)))) (.c (.q 5 [] (.mv (.c (.int .i64 0)))) (.c (.q 6 [] (.mv (.c (.int .i64 0)))) (.c (.q 7 [] (.mv (.c (.bool false)))) .nil))))) t26_26)
def x_iReadNotation := b26_0
theorem u26_0 : vcK P x_iReadNotation k e w = vcK P b26_0 k e w := rfl
def r_iReadNotation : List XO := [(.mv (.t 4)), (.mv (.t 5)), (.mv (.t 6)), (.mv (.t 7))]
theorem c_iReadNotation : convF Try.prog [38, 39, 41, 42, 49, 54, 55, 57, 58, 59, 79, 81, 84, 87, 139] Try.f26 [([0, 1], []), ([0, 1, 15], []), ([4, 5, 6, 7], []), ([0, 1, 22], []), ([4, 5, 6, 7], []), ([1, 8], []), ([1, 8, 9], []), ([9], [1, 8]), ([1, 8, 9], []), ([1, 8, 9, 33], []), ([4, 5, 6, 7], []), ([1, 8, 9, 40], []), ([1, 8, 9], []), ([9, 10], []), ([9, 10, 50], []), ([9, 10], []), ([9, 10, 52, 53, 54], []), ([10, 54], [9, 52, 53]), ([9, 10, 52, 53, 54, 55], []), ([9, 10, 12, 52, 53, 54], []), ([9, 10, 52, 53, 54], []), ([9, 10, 52, 53, 54], []), ([10, 70], []), ([4, 5, 6, 7], []), ([4, 5, 6, 7], [])] = some (x_iReadNotation, r_iReadNotation) := by kernel_rfl
def us_iReadNotation :=  (aI (aI (aI (aI @u26_0 (aI @u26_1 @u26_2)) (aI @u26_3 (aI @u26_4 @u26_5))) (aI (aI @u26_6 (aI @u26_7 @u26_8)) (aI (aI @u26_9 @u26_10) (aI @u26_11 @u26_12)))) (aI (aI (aI @u26_13 (aI @u26_14 @u26_15)) (aI (aI @u26_16 @u26_17) (aI @u26_18 @u26_19))) (aI (aI @u26_20 (aI @u26_21 @u26_22)) (aI (aI @u26_23 @u26_24) (aI @u26_25 @u26_26)))))
abbrev b19_1 : X := (.seq (.reg [4, 5] (.c (.q 18 [] (.mv (.t 6))) (.c (.q 19 [] (.lens (.t 18))) (.c (.q 20 [] (.mv (.t 9))) (.c (.q 4 [] (.mv (.t 19))) (.c (.q 5 [] (.mv (.t 20))) .nil)))))) .ret)
def t19_1 := b19_1
theorem u19_1 : vcK P t19_1 k e w = vcK P b19_1 k e w := rfl
abbrev b19_2 : X := (.seq (.reg [6, 9] (.c (.q 11 [] (.mv (.t 0))) (.c (.q 12 [] (.mv (.t 1))) (.c (.e (some 13) [] (.call false 26 [(.t 11), (.t 12)])) (.c (.q 10 [] (.mv (.t 13))) (.c (.q 14 [] (.ext 0 (.t 10))) (.c (.q 15 [] (.ext 1 (.t 10))) (.c (.q 16 [] (.ext 2 (.t 10))) (.c (.q 17 [] (.ext 3 (.t 10))) (.c (.q 6 [] (.mv (.t 14))) (.c (.q 7 [] (.mv (.t 15))) (.c (.q 8 [] (.mv (.t 16))) (.c (.q 9 [] (.mv (.t 17))) .nil))))))))))))) t19_1)
def t19_2 := b19_2
theorem u19_2 : vcK P t19_2 k e w = vcK P b19_2 k e w := rfl
abbrev b19_0 : X := (.seq (.reg [0, 1] (.c (.q 4 [] (.mv (.c (.int .i64 0)))) (.c (.q 5 [] (.mv (.c (.bool false)))) .nil))) t19_2)
def x_iCountChanges := b19_0
theorem u19_0 : vcK P x_iCountChanges k e w = vcK P b19_0 k e w := rfl
def r_iCountChanges : List XO := [(.mv (.t 4)), (.mv (.t 5))]
theorem c_iCountChanges : convF Try.prog [38, 39, 41, 42, 49, 54, 55, 57, 58, 59, 79, 81, 84, 87, 139] Try.f19 [([0, 1], []), ([6, 9], []), ([4, 5], [])] = some (x_iCountChanges, r_iCountChanges) := by kernel_rfl
def us_iCountChanges :=  (aI @u19_0 (aI @u19_1 @u19_2))
end

theorem resV_four (e : Env) (w : World) (o o' o'' o3 : XO) : resV e w [o, o', o'', o3] = .tuple ⟨[qv e w o, qv e w o', qv e w o'', qv e w o3]⟩ := rfl
theorem v_e4 (u v x y : Value) : extV 0 (.tuple ⟨[u, v, x, y]⟩) = u ∧ extV 1 (.tuple ⟨[u, v, x, y]⟩) = v ∧ extV 2 (.tuple ⟨[u, v, x, y]⟩) = x ∧ extV 3 (.tuple ⟨[u, v, x, y]⟩) = y := ⟨rfl, rfl, rfl, rfl⟩
theorem d_e4 (u v x y : Value) : extD 0 (.tuple ⟨[u, v, x, y]⟩) = True ∧ extD 1 (.tuple ⟨[u, v, x, y]⟩) = True ∧ extD 2 (.tuple ⟨[u, v, x, y]⟩) = True ∧ extD 3 (.tuple ⟨[u, v, x, y]⟩) = True := by simp [extD]
theorem readN_stage {n : Int} {s : Bs} (h : ¬ (3 ≤ n ∧ n ≤ 8)) : readN n s = ([], 0, 0, false) := if_pos h
theorem readN_len {n : Int} {s : Bs} (h : 3 ≤ n ∧ n ≤ 8) (hs : s = [] ∨ 200 < s.length) : readN n s = ([], 1, 0, false) := by rw [readN, if_neg (not_not_intro h), if_pos hs]
theorem readN_inl {n : Nat} {s : Bs} {p : Nat} (h : 3 ≤ n ∧ n ≤ 8) (hs : ¬ (s = [] ∨ 200 < s.length)) (hr : rdN n s (s.length + 1) 0 [] = .inl p) : readN n s = ([], 2, (p : Int), false) := by
  rw [readN, if_neg (not_not_intro (by omega)), if_neg hs, Int.toNat_natCast, hr]
theorem readN_inr {n : Nat} {s : Bs} {bs : List (List Bs)} (h : 3 ≤ n ∧ n ≤ 8) (hs : ¬ (s = [] ∨ 200 < s.length)) (hr : rdN n s (s.length + 1) 0 [] = .inr bs) : readN n s = if 4 < bs.length ∨ 40 < (flatN bs).length then ([], 3, 0, false) else (flatN bs, 0, 0, true) := by
  rw [readN, if_neg (not_not_intro (by omega)), if_neg hs, Int.toNat_natCast, hr]
theorem NestU.none95 {α : Type} {f : α → List Value} {E1 E2 : TypeId} {B b : Nat} {w : World} (hb : Blk w b [] E2) (hB : B ≤ b) : NestU f E1 E2 B w.heap.size w (.slice (some ⟨b, 0, none⟩) 0 0) ([] : List (List α)) :=
  ⟨[], Own.empty fSV_len hb hB, fun c hc => by simp only [Value.ownBlock, Option.some.injEq] at hc; rw [← hc]; exact hb.lt, rfl, fun i hi => by simp at hi⟩
/-- What a reading answers. -/
def RdR (n : Int) (s : Bs) (w w' : World) (r : Value) : Prop :=
  ∃ x, r = .tuple ⟨[x, .int .i64 (readN n s).2.1, .int .i64 (readN n s).2.2.1, .bool (readN n s).2.2.2]⟩ ∧ Own fS 1 9 w.heap.size w' x (readN n s).1
theorem RdR.of {n : Int} {s : Bs} {w w' : World} {x : Value} {l : List Bs} {a p : Int} {ok : Bool} (h : readN n s = (l, a, p, ok)) (ho : Own fS 1 9 w.heap.size w' x l) : RdR n s w w' (.tuple ⟨[x, .int .i64 a, .int .i64 p, .bool ok]⟩) := ⟨x, by rw [h], by rw [h]; exact ho⟩
theorem rdN_bad {n m q p : Nat} {s : Bs} {bs : List (List Bs)} (hk : blkN n s (s.length + 1) q [] = .inl p) : rdN n s (m + 1) q bs = .inl p := by rw [rdN, hk]
theorem rdN_fin {n m q e : Nat} {s : Bs} {l : List Bs} {bs : List (List Bs)} (hk : blkN n s (s.length + 1) q [] = .inr (l, e)) (he : s.length ≤ e) : rdN n s (m + 1) q bs = .inr (bs ++ [l]) := by rw [rdN, hk]; exact if_pos he
theorem rdN_go {n m q e : Nat} {s : Bs} {l : List Bs} {bs : List (List Bs)} (hk : blkN n s (s.length + 1) q [] = .inr (l, e)) (he : ¬ s.length ≤ e) : rdN n s (m + 1) q bs = rdN n s m (e + 1) (bs ++ [l]) := by rw [rdN, hk]; exact if_neg he
theorem flat_take {l : List (List Bs)} {k : Nat} (hk : k < l.length) : (l.take (k + 1)).flatMap mirL = (l.take k).flatMap mirL ++ mirL (l.getD k []) := by
  rw [List.take_add_one, List.getElem?_eq_getElem hk, List.flatMap_append, List.getD_eq_getElem?_getD, List.getElem?_eq_getElem hk]
  simp
theorem flat_small {l : List (List Bs)} (h : ∀ x ∈ l, x.length ≤ 200) : ∀ {k}, k ≤ l.length → ((l.take k).flatMap mirL).length ≤ 400 * k
  | 0, _ => by simp
  | k + 1, hk => by
    have ih := flat_small h (k := k) (by omega)
    have hc := h _ (getD_mem [] (show k < l.length by omega))
    rw [flat_take (by omega), List.length_append, mirL_len]
    omega
theorem iReadNotation_ok (n : Int) (s : Bs) (hs : s.length ≤ 1000000) (w : World) : Fn 26 [.int .i64 n, S s] w (fun r w' => RdR n s w w' r) := by
  (refine callsV_of mix Try.func26 c_iReadNotation ?_; simp only [↓vsd, vsn, gW, qd, qv, ev, pick, argE, zipE, ne_eq, eq_self, forall_const, implies_true, if_true, if_false, reduceIte, reduceCtorEq, Nat.reduceEqDiff, Nat.reduceAdd, Nat.reduceLT, ↓us_iReadNotation, r_iReadNotation])
  refine m_call (iisStage_ok n _) ?_
  rintro _ w0 hx0 rfl
  by_cases hn : 3 ≤ n ∧ n ≤ 8
  · obtain ⟨n, rfl⟩ : ∃ m : Nat, n = m := ⟨n.toNat, by omega⟩
    have h38 : 3 ≤ n ∧ n ≤ 8 := by omega
    have hnd : (decide ((3 : Int) ≤ (n : Int)) && decide ((n : Int) ≤ (8 : Int))) = true := by rw [Bool.and_eq_true, decide_eq_true_eq, decide_eq_true_eq]; omega
    by_cases hse : s = []
    · subst hse
      simp only [↓vsd, vsn, gW, qd, qv, ev, pick, argE, zipE, ne_eq, eq_self, forall_const, implies_true, if_true, if_false, reduceIte, reduceCtorEq, Nat.reduceEqDiff, Nat.reduceAdd, Nat.reduceLT, ↓us_iReadNotation, r_iReadNotation, hnd, resV_four]
      exact ⟨hx0, RdR.of (readN_len hn (.inl rfl)) (Own.nil fS_len)⟩
    · simp only [↓vsd, vsn, gW, qd, qv, ev, pick, argE, zipE, ne_eq, eq_self, forall_const, implies_true, if_true, if_false, reduceIte, reduceCtorEq, Nat.reduceEqDiff, Nat.reduceAdd, Nat.reduceLT, ↓us_iReadNotation, r_iReadNotation, hnd, hse, resV_four]
      refine ⟨fun hbig => ⟨hx0, RdR.of (readN_len hn (.inr (by omega))) (Own.nil fS_len)⟩, fun hsm => m_al ?_⟩
      rintro b w1 hbe hblk1 hx1 hs1
      have hb1 : Blk w1 b (fN 0 [] 0 0) 75 := hblk1
      have hok : ¬ (s = [] ∨ 200 < s.length) := fun hh => hh.elim hse (by omega)
      simp only [↓vsd, vsn, gW, qd, qv, ev, pick, argE, zipE, ne_eq, eq_self, forall_const, implies_true, if_true, if_false, reduceIte, reduceCtorEq, Nat.reduceEqDiff, Nat.reduceAdd, Nat.reduceLT, ↓us_iReadNotation, r_iReadNotation]
      refine m_st hb1 rfl (by decide : 0 + 4 ≤ 4) (fun u hu => by
        simp only [Value.cells, List.mem_cons, List.not_mem_nil, or_false] at hu
        rcases hu with rfl | rfl | rfl | rfl <;> rfl) ?_
      rintro w2 hb2' hu2
      have hb2 : Blk w2 b (fN n s (0 : Nat) (-1)) 75 := hb2'
      have hx2 : Ext w0 w2 := ext_grow hx1 hu2.grown (fun c hc => by cases hc; omega)
      simp only [↓vsd, vsn, gW, qd, qv, ev, pick, argE, zipE, ne_eq, eq_self, forall_const, implies_true, if_true, if_false, reduceIte, reduceCtorEq, Nat.reduceEqDiff, Nat.reduceAdd, Nat.reduceLT, ↓us_iReadNotation, r_iReadNotation]
      refine m_bsl (by simp) ?_
      rintro b3 w3 hb3e hblk3 hx3 hs3
      have hbw : b < w2.heap.size := hb2.lt
      have hx03 := hx0.trans (hx2.trans hx3)
      have hb3 := hb2.ext hx3
      have hN3 : NestU fS 9 24 w2.heap.size w3.heap.size w3 (.slice (some ⟨b3, 0, none⟩) 0 0) ([] : List (List Bs)) := NestU.none95 hblk3 (by omega)
      simp only [↓vsd, vsn, gW, qd, qv, ev, pick, argE, zipE, ne_eq, eq_self, forall_const, implies_true, if_true, if_false, reduceIte, reduceCtorEq, Nat.reduceEqDiff, Nat.reduceAdd, Nat.reduceLT, ↓us_iReadNotation, r_iReadNotation]
      refine m_loop (fun m vs w' => ∃ (q : Nat) (bs : List (List Bs)) (x : Value), s.length < m + q ∧ q ≤ s.length ∧ bs.length ≤ q ∧ (∀ l ∈ bs, l.length ≤ 200) ∧ vs = [x] ∧ NestU fS 9 24 w2.heap.size w'.heap.size w' x bs ∧ Blk w' b (fN n s q (-1)) 75 ∧ Ext w w' ∧ w2.heap.size ≤ w'.heap.size ∧ rdN n s m q bs = rdN n s (s.length + 1) 0 []) (s.length + 1) ⟨0, [], _, by omega, by omega, by simp, by simp, rfl, hN3, hb3, hx03, hx3.size, rfl⟩ ?_
      rintro m vs w4 ⟨q, bs, x, hm, hqs, hbl, hsm4, rfl, hN4, hb4, hx4, hz4, hR⟩
      obtain ⟨m, rfl⟩ : ∃ g, m = g + 1 := ⟨m - 1, by omega⟩
      simp only [↓vsd, vsn, gW, qd, qv, ev, pick, argE, zipE, ne_eq, eq_self, forall_const, implies_true, if_true, if_false, reduceIte, reduceCtorEq, Nat.reduceEqDiff, Nat.reduceAdd, Nat.reduceLT, ↓us_iReadNotation, r_iReadNotation]
      refine m_callw (.inl rfl) (inotation_block_ok n s q b h38 (by omega) hqs _ hb4) ?_
      rintro r w5 ⟨hg5, hbad, hgood⟩
      have hN5 := hN4.off hg5 (fun c hc => by cases hc; exact .inl hbw)
      have hx5 : Ext w w5 := ext_grow hx4 hg5 (fun c hc => by cases hc; have := hx0.size; omega)
      rcases hk : blkN n s (s.length + 1) q [] with p | ⟨l, e⟩
      · obtain ⟨xe, l, hxe, hll, ho5, hb5⟩ := hbad p hk
        have hI : (0 : Int) ≤ (p : Nat) := by omega
        have hJ : ¬ ((p : Nat) : Int) < 0 := by omega
        obtain ⟨sv, rfl⟩ := ho5.sq.sv
        have hsz5 := hg5.size
        simp only [↓vsd, vsn, gW, qd, qv, ev, pick, argE, zipE, ne_eq, eq_self, forall_const, implies_true, if_true, if_false, reduceIte, reduceCtorEq, Nat.reduceEqDiff, Nat.reduceAdd, Nat.reduceLT, ↓us_iReadNotation, r_iReadNotation]
        refine m_bsl (one_el rfl) ?_
        rintro b6 w6 hb6e hblk6 hx6 hs6
        simp only [↓vsd, vsn, gW, qd, qv, ev, pick, argE, zipE, ne_eq, eq_self, forall_const, implies_true, if_true, if_false, reduceIte, reduceCtorEq, Nat.reduceEqDiff, Nat.reduceAdd, Nat.reduceLT, ↓us_iReadNotation, r_iReadNotation]
        refine m_pushU (hN5.ext hx6) (Sq.one fSV_len hblk6 rfl) ((ho5.ext hx6).mono hz4) (fun c hc => (ho5.bound c hc).1) (by have := hx6.size; omega) (by omega) rfl (by decide) (by have := hx6.size; omega) ?_
        rintro x7 w7 hN7 hg7
        have hob : ∀ c, x.ownBlock = some c → w2.heap.size ≤ c := fun c hc => (hN4.bound c hc).1
        have hb6 := hb5.ext hx6
        have hb7 := hb6.same (hg7.block b hb6.lt (fun e => by have := hob b e.symm; omega))
        have hx6' := hx5.trans hx6
        have hz7 := hg7.size
        have hx7 : Ext w w7 := ext_grow hx6' hg7 (fun c hc => by have := hob c hc; have := hx0.size; have := hx2.size; omega)
        simp only [↓vsd, vsn, gW, qd, qv, ev, pick, argE, zipE, ne_eq, eq_self, forall_const, implies_true, if_true, if_false, reduceIte, reduceCtorEq, Nat.reduceEqDiff, Nat.reduceAdd, Nat.reduceLT, ↓us_iReadNotation, r_iReadNotation, hb7.facts, fNg, hI, hJ, resV_four]
        exact ⟨hx7, RdR.of (readN_inl h38 hok (hR.symm.trans (rdN_bad hk))) (Own.nil fS_len)⟩
      · obtain ⟨ho5, hb5⟩ := hgood l e hk
        have hI : (-1 : Int) < 0 := by decide
        have hJ : ¬ (0 : Int) ≤ -1 := by decide
        obtain ⟨he1, he2, he3, he4, he5⟩ := blkN_end hqs hk
        have hll : l.length ≤ 1000 := by simp at he4; omega
        obtain ⟨sv, rfl⟩ := ho5.sq.sv
        have hsz5 := hg5.size
        simp only [↓vsd, vsn, gW, qd, qv, ev, pick, argE, zipE, ne_eq, eq_self, forall_const, implies_true, if_true, if_false, reduceIte, reduceCtorEq, Nat.reduceEqDiff, Nat.reduceAdd, Nat.reduceLT, ↓us_iReadNotation, r_iReadNotation]
        refine m_bsl (one_el rfl) ?_
        rintro b6 w6 hb6e hblk6 hx6 hs6
        simp only [↓vsd, vsn, gW, qd, qv, ev, pick, argE, zipE, ne_eq, eq_self, forall_const, implies_true, if_true, if_false, reduceIte, reduceCtorEq, Nat.reduceEqDiff, Nat.reduceAdd, Nat.reduceLT, ↓us_iReadNotation, r_iReadNotation]
        refine m_pushU (hN5.ext hx6) (Sq.one fSV_len hblk6 rfl) ((ho5.ext hx6).mono hz4) (fun c hc => (ho5.bound c hc).1) (by have := hx6.size; omega) (by omega) rfl (by decide) (by have := hx6.size; omega) ?_
        rintro x7 w7 hN7 hg7
        have hob : ∀ c, x.ownBlock = some c → w2.heap.size ≤ c := fun c hc => (hN4.bound c hc).1
        have hb6 := hb5.ext hx6
        have hb7 := hb6.same (hg7.block b hb6.lt (fun e => by have := hob b e.symm; omega))
        have hx6' := hx5.trans hx6
        have hz7 := hg7.size
        have hx7 : Ext w w7 := ext_grow hx6' hg7 (fun c hc => by have := hob c hc; have := hx0.size; have := hx2.size; omega)
        have hl200 : l.length ≤ 200 := by simp at he4; omega
        have hLs : ∀ y ∈ bs ++ [l], y.length ≤ 200 := fun y hy => by
          rcases List.mem_append.1 hy with h | h
          · exact hsm4 y h
          · rw [List.mem_singleton] at h; rw [h]; exact hl200
        have hLl : (bs ++ [l]).length = bs.length + 1 := by rw [List.length_append, List.length_singleton]
        by_cases hfin : e = s.length
        · have hR := hR.symm.trans (rdN_fin (m := m) (bs := bs) hk (by omega))
          generalize bs ++ [l] = L at *
          have hfinI : (e : Int) = s.length := by omega
          have hrd := readN_inr h38 hok hR
          obtain ⟨vs, h71, h72, h73, h74⟩ := hN7
          have a0 : ∀ k : IntKind, ldV w7 (iaV 1 x7 (.int k 0)) = (vs.getD 0 SV.nil).v ∧ ldD w7 (iaV 1 x7 (.int k 0)) = True := h71.sq.at0 SV.nil (by omega)
          have hf7 := h71.sq.facts
          rw [h73] at hf7
          have ho0 := (h74 0 (by omega)).1
          have hL0 : L.getD 0 [] ∈ L := getD_mem [] (by omega)
          have hL0s := hLs _ hL0
          have hxw : w.heap.size ≤ w2.heap.size := by have := hx0.size; have := hx2.size; omega
          by_cases hone : L.length = 1
          · have hoI : ¬ (1 : Int) < L.length := by omega
            have ho4 : ¬ (4 : Int) < L.length := by omega
            have hfl : flatN L = L.getD 0 [] := by
              rw [flatN, if_pos hone]
              obtain ⟨y, rfl⟩ := List.length_eq_one_iff.1 hone
              simp
            rw [hfl] at hrd
            simp only [↓vsd, vsn, gW, qd, qv, ev, pick, argE, zipE, ne_eq, eq_self, forall_const, implies_true, if_true, if_false, reduceIte, reduceCtorEq, Nat.reduceEqDiff, Nat.reduceAdd, Nat.reduceLT, ↓us_iReadNotation, r_iReadNotation, hb7.facts, fNg, hI, hJ, hfinI, a0, hf7, hoI, ho4, ho0.sq.facts, resV_four]
            refine ⟨⟨by omega, by omega⟩, fun hbig => ⟨hx7, RdR.of (hrd.trans (if_pos (.inr (by omega)))) (Own.nil fS_len)⟩, fun hs4 => ⟨hx7, RdR.of (hrd.trans (if_neg fun hh => by omega)) (ho0.mono hxw)⟩⟩
          · have hoI : (1 : Int) < L.length := by omega
            simp only [↓vsd, vsn, gW, qd, qv, ev, pick, argE, zipE, ne_eq, eq_self, forall_const, implies_true, if_true, if_false, reduceIte, reduceCtorEq, Nat.reduceEqDiff, Nat.reduceAdd, Nat.reduceLT, ↓us_iReadNotation, r_iReadNotation, hb7.facts, fNg, hI, hJ, hfinI, a0, hf7, hoI]
            refine ⟨⟨by omega, by omega⟩, m_bsl (by simp) ?_⟩
            rintro b8 w8 hb8e hblk8 hx8 hs8
            have hfl : flatN L = L.flatMap mirL := by rw [flatN, if_neg hone]
            rw [hfl] at hrd
            simp only [↓vsd, vsn, gW, qd, qv, ev, pick, argE, zipE, ne_eq, eq_self, forall_const, implies_true, if_true, if_false, reduceIte, reduceCtorEq, Nat.reduceEqDiff, Nat.reduceAdd, Nat.reduceLT, ↓us_iReadNotation, r_iReadNotation, hf7]
            refine m_upto L.length (fun k vs' w' => ∃ y, vs' = [y, .int .i64 k] ∧ Own fS 1 9 w7.heap.size w' y ((L.take k).flatMap mirL) ∧ Ext w7 w') ⟨_, rfl, Own.empty fS_len hblk8 (by omega), hx8⟩ ?_
            rintro k vs' w9 hkL ⟨y, rfl, hoy, hx9⟩
            have hfs := flat_small hLs hkL
            have hx09 := hx7.trans hx9
            have hf9 := (h71.ext hx9).sq.facts
            rw [h73] at hf9
            by_cases hlt : k < L.length
            · have hltI : (k : Int) < L.length := by omega
              have hltJ : ¬ (L.length : Int) ≤ k := by omega
              have hk9 := ((h74 k hlt).1.ext hx9)
              have hkl := hLs _ (getD_mem [] hlt)
              have ak : ∀ κ : IntKind, ldV w9 (iaV 1 x7 (.int κ k)) = (vs.getD k SV.nil).v ∧ ldD w9 (iaV 1 x7 (.int κ k)) = True := (h71.ext hx9).sq.at1 SV.nil (by omega)
              simp only [↓vsd, vsn, gW, qd, qv, ev, pick, argE, zipE, ne_eq, eq_self, forall_const, implies_true, if_true, if_false, reduceIte, reduceCtorEq, Nat.reduceEqDiff, Nat.reduceAdd, Nat.reduceLT, ↓us_iReadNotation, r_iReadNotation, hltI, hltJ, hf9, ak]
              refine ⟨by omega, m_call (imirrored_ok _ _ (by omega) _ hk9.sq) ?_⟩
              rintro z w10 hx10 ho10
              simp only [↓vsd, vsn, gW, qd, qv, ev, pick, argE, zipE, ne_eq, eq_self, forall_const, implies_true, if_true, if_false, reduceIte, reduceCtorEq, Nat.reduceEqDiff, Nat.reduceAdd, Nat.reduceLT, ↓us_iReadNotation, r_iReadNotation]
              refine m_app (hoy.ext hx10) ho10.sq fS_one (by decide) (by rw [mirL_len]; omega) (by decide) ((hx9.trans hx10).size) ?_
              rintro y11 w11 ho11 hg11
              simp only [↓vsd, vsn, gW, qd, qv, ev, pick, argE, zipE, ne_eq, eq_self, forall_const, implies_true, if_true, if_false, reduceIte, reduceCtorEq, Nat.reduceEqDiff, Nat.reduceAdd, Nat.reduceLT, ↓us_iReadNotation, r_iReadNotation]
              exact ⟨inR_i64 (by omega), UpTo.next hlt ⟨y11, rfl, ho11.to (flat_take hlt).symm, (hoy.ext hx10).grown (hx9.trans hx10) (Nat.le_refl _) hg11⟩⟩
            · obtain rfl : k = L.length := by omega
              have hltI : ¬ (L.length : Int) < L.length := by omega
              rw [List.take_length] at hoy
              have hoz := hoy.sq.facts
              by_cases h4 : 4 < L.length
              · have h4I : (4 : Int) < L.length := by omega
                simp only [↓vsd, vsn, gW, qd, qv, ev, pick, argE, zipE, ne_eq, eq_self, forall_const, implies_true, if_true, if_false, reduceIte, reduceCtorEq, Nat.reduceEqDiff, Nat.reduceAdd, Nat.reduceLT, ↓us_iReadNotation, r_iReadNotation, hltI, hf9, h4I, resV_four]
                exact ⟨hx09, RdR.of (hrd.trans (if_pos (.inl h4))) (Own.nil fS_len)⟩
              · have h4I : ¬ (4 : Int) < L.length := by omega
                simp only [↓vsd, vsn, gW, qd, qv, ev, pick, argE, zipE, ne_eq, eq_self, forall_const, implies_true, if_true, if_false, reduceIte, reduceCtorEq, Nat.reduceEqDiff, Nat.reduceAdd, Nat.reduceLT, ↓us_iReadNotation, r_iReadNotation, hltI, hf9, h4I, hoz, resV_four]
                refine ⟨fun hbig => ⟨hx09, RdR.of (hrd.trans (if_pos (.inr (by omega)))) (Own.nil fS_len)⟩, fun hs4 => ⟨hx09, RdR.of (hrd.trans (if_neg fun hh => by omega)) (hoy.mono (by omega))⟩⟩
        · have hR' := (rdN_go (m := m) (bs := bs) hk (by omega)).symm.trans hR
          have hfinI : ¬ (e : Int) = s.length := by omega
          simp only [↓vsd, vsn, gW, qd, qv, ev, pick, argE, zipE, ne_eq, eq_self, forall_const, implies_true, if_true, if_false, reduceIte, reduceCtorEq, Nat.reduceEqDiff, Nat.reduceAdd, Nat.reduceLT, ↓us_iReadNotation, r_iReadNotation, hb7.facts, fNg, hI, hJ, hfinI]
          refine ⟨inR_i64 (by omega), m_st hb7 rfl (by decide : 2 + 1 ≤ 4) (fI_one _) ?_⟩
          rintro w8 hb8' hu8
          have hb8 : Blk w8 b (fN n s (e + 1 : Nat) (-1)) 75 := hb8'
          have hz8 := hu8.grown.size
          have hN8 := (hN7.off hu8.grown (fun c hc => by cases hc; exact .inl hbw)).mono (Nat.le_refl _) hz8
          have hx8 : Ext w w8 := ext_grow hx7 hu8.grown (fun c hc => by cases hc; have := hx0.size; omega)
          simp only [↓vsd, vsn, gW, qd, qv, ev, pick, argE, zipE, ne_eq, eq_self, forall_const, implies_true, if_true, if_false, reduceIte, reduceCtorEq, Nat.reduceEqDiff, Nat.reduceAdd, Nat.reduceLT, ↓us_iReadNotation, r_iReadNotation]
          exact ⟨m, by omega, e + 1, bs ++ [l], x7, by omega, by omega, by omega, hLs, rfl, hN8, hb8, hx8, by omega, hR'⟩
  · have hnd : (decide ((3 : Int) ≤ n) && decide (n ≤ 8)) = false := by
      rw [Bool.and_eq_false_iff, decide_eq_false_iff_not, decide_eq_false_iff_not]; omega
    simp only [↓vsd, vsn, gW, qd, qv, ev, pick, argE, zipE, ne_eq, eq_self, forall_const, implies_true, if_true, if_false, reduceIte, reduceCtorEq, Nat.reduceEqDiff, Nat.reduceAdd, Nat.reduceLT, ↓us_iReadNotation, r_iReadNotation, hnd, resV_four]
    exact ⟨hx0, RdR.of (readN_stage hn) (Own.nil fS_len)⟩
/-- How many changes a reading finds. -/
def cntV (n : Int) (s : Bs) : Value := .tuple ⟨[.int .i64 ((readN n s).1.length : Nat), .bool (readN n s).2.2.2]⟩
theorem iCountChanges_ok (n : Int) (s : Bs) (hs : s.length ≤ 1000000) (w : World) : Fn 19 [.int .i64 n, S s] w (fun r _ => r = cntV n s) := by
  (refine callsV_of mix Try.func19 c_iCountChanges ?_; simp only [↓vsd, vsn, gW, qd, qv, ev, pick, argE, zipE, ne_eq, eq_self, forall_const, implies_true, if_true, if_false, reduceIte, reduceCtorEq, Nat.reduceEqDiff, Nat.reduceAdd, Nat.reduceLT, ↓us_iCountChanges, r_iCountChanges])
  refine m_call (iReadNotation_ok n s hs _) ?_
  rintro _ w1 hx1 ⟨x, rfl, ho⟩
  simp only [↓vsd, vsn, gW, qd, qv, ev, pick, argE, zipE, ne_eq, eq_self, forall_const, implies_true, if_true, if_false, reduceIte, reduceCtorEq, Nat.reduceEqDiff, Nat.reduceAdd, Nat.reduceLT, ↓us_iCountChanges, r_iCountChanges, v_e4, d_e4, ho.sq.facts]
  exact ⟨hx1, rfl⟩
end Go.Proofs.Ytfklonhjgkahdaa
