/-
  Orders, signs and powers of rows, as program and reference compute them.
  Conditions: none.
-/
import Derived.Test.YtpnopboffalfnaaD3
import Derived.Test.YtpnopboffalfnaaPh
set_option linter.unusedSimpArgs false
set_option linter.unusedVariables false
set_option linter.defProp false
namespace Go.Proofs.Ytpnopboffalfnaa
open Go Go.RowKit
section
variable (P : Program) (k : KT) (e : Env) (w : World)
abbrev b184_1 : X := (.cond (.t 14) .skip (.exit 0))
def t184_1 := b184_1
theorem u184_1 : vcK P t184_1 k e w = vcK P b184_1 k e w := rfl
abbrev b184_2 : X := (.reg [0, 3, 4] (.c (.q 15 [] (.mv (.t 4))) (.c (.q 16 [] (.mv (.t 0))) (.c (.e (some 17) [] (.call false 183 [(.t 15), (.t 16)])) (.c (.q 4 [] (.mv (.t 17))) .nil)))))
def t184_2 := b184_2
theorem u184_2 : vcK P t184_2 k e w = vcK P b184_2 k e w := rfl
abbrev b184_3 : X := (.seq (.blk 1 (.reg [0, 3, 4] (.c (.q 18 [] (.mv (.t 3))) (.c (.q 19 [] (.mv (.t 4))) (.c (.e (some 20) [] (.bsl 9 1 [(.t 19)])) (.c (.e (some 21) [] (.app 27 9 1 16 [(S [])] 27 (.t 18) (.t 20))) (.c (.q 3 [] (.mv (.t 21))) .nil))))))) t184_2)
def t184_3 := b184_3
theorem u184_3 : vcK P t184_3 k e w = vcK P b184_3 k e w := rfl
abbrev b184_4 : X := (.seq (.seq (.reg [0, 3, 4, 14] (.c (.q 10 [] (.mv (.t 4))) (.c (.q 11 [] (.mv (.t 3))) (.c (.q 12 [] (.ia 1 (.t 11) (.c (.int .i64 0)))) (.c (.q 13 [] (.ld (.t 12))) (.c (.q 14 [] (.bin .neq (.t 10) (.t 13))) .nil)))))) t184_1) t184_3)
def t184_4 := b184_4
theorem u184_4 : vcK P t184_4 k e w = vcK P b184_4 k e w := rfl
abbrev b184_5 : X := (.blk 0 (.loop [3, 4] [0] t184_4))
def t184_5 := b184_5
theorem u184_5 : vcK P t184_5 k e w = vcK P b184_5 k e w := rfl
abbrev b184_6 : X := (.seq (.reg [2] (.c (.q 22 [] (.mv (.t 3))) (.c (.q 2 [] (.mv (.t 22))) .nil))) .ret)
def t184_6 := b184_6
theorem u184_6 : vcK P t184_6 k e w = vcK P b184_6 k e w := rfl
abbrev b184_7 : X := (.seq (.seq (.reg [0, 3, 4] (.c (.q 9 [] (.mv (.t 0))) (.c (.q 4 [] (.mv (.t 9))) .nil))) t184_5) t184_6)
def t184_7 := b184_7
theorem u184_7 : vcK P t184_7 k e w = vcK P b184_7 k e w := rfl
abbrev b184_8 : X := (.seq (.reg [0, 3] (.c (.q 5 [] (.mv (.t 0))) (.c (.q 6 [] (.len (.t 5))) (.c (.e (some 7) [] (.call false 178 [(.t 6)])) (.c (.e (some 8) [] (.bsl 9 1 [(.t 7)])) (.c (.q 3 [] (.mv (.t 8))) .nil)))))) t184_7)
def t184_8 := b184_8
theorem u184_8 : vcK P t184_8 k e w = vcK P b184_8 k e w := rfl
abbrev b184_0 : X := (.seq (.reg [0] (.c (.q 2 [] (.mv (.c (.slice none 0 0)))) .nil)) t184_8)
def x_ipowers := b184_0
theorem u184_0 : vcK P x_ipowers k e w = vcK P b184_0 k e w := rfl
def r_ipowers : List XO := [(.mv (.t 2))]
theorem c_ipowers : convF Try.prog [169, 170, 207, 208, 210, 227, 232, 233, 255, 259, 268, 269, 270, 280, 281, 296, 299, 306, 307, 309] Try.f184 [([0], []), ([0, 3], []), ([0, 3, 4], []), ([3, 4], [0]), ([0, 3, 4, 14], []), ([0, 3, 4], []), ([0, 3, 4], []), ([2], [])] = some (x_ipowers, r_ipowers) := by kernel_rfl
def us_ipowers := aI @u184_0 (aI @u184_1 (aI @u184_2 (aI @u184_3 (aI @u184_4 (aI @u184_5 (aI @u184_6 (aI @u184_7 @u184_8)))))))
abbrev b239_1 : X := (.cond (.t 10) .skip (.exit 0))
def t239_1 := b239_1
theorem u239_1 : vcK P t239_1 k e w = vcK P b239_1 k e w := rfl
abbrev b239_2 : X := (.reg [0, 3, 4] (.c (.q 11 [] (.mv (.t 4))) (.c (.q 12 [] (.mv (.t 0))) (.c (.e (some 13) [] (.call false 222 [(.t 11), (.t 12)])) (.c (.q 4 [] (.mv (.t 13))) .nil)))))
def t239_2 := b239_2
theorem u239_2 : vcK P t239_2 k e w = vcK P b239_2 k e w := rfl
abbrev b239_3 : X := (.seq (.blk 1 (.reg [0, 3, 4] (.c (.q 14 [] (.mv (.t 3))) (.c (.q 15 [] (.bin .add (.t 14) (.c (.int .i64 1)))) (.c (.q 3 [] (.mv (.t 15))) .nil))))) t239_2)
def t239_3 := b239_3
theorem u239_3 : vcK P t239_3 k e w = vcK P b239_3 k e w := rfl
abbrev b239_4 : X := (.seq (.seq (.reg [0, 3, 4, 10] (.c (.q 6 [] (.mv (.t 4))) (.c (.q 7 [] (.mv (.t 0))) (.c (.q 8 [] (.len (.t 7))) (.c (.e (some 9) [] (.call false 165 [(.t 8)])) (.c (.q 10 [] (.bin .neq (.t 6) (.t 9))) .nil)))))) t239_1) t239_3)
def t239_4 := b239_4
theorem u239_4 : vcK P t239_4 k e w = vcK P b239_4 k e w := rfl
abbrev b239_5 : X := (.blk 0 (.loop [3, 4] [0] t239_4))
def t239_5 := b239_5
theorem u239_5 : vcK P t239_5 k e w = vcK P b239_5 k e w := rfl
abbrev b239_6 : X := (.seq (.reg [2] (.c (.q 16 [] (.mv (.t 3))) (.c (.q 2 [] (.mv (.t 16))) .nil))) .ret)
def t239_6 := b239_6
theorem u239_6 : vcK P t239_6 k e w = vcK P b239_6 k e w := rfl
abbrev b239_7 : X := (.seq (.seq (.reg [0, 3, 4] (.c (.q 5 [] (.mv (.t 0))) (.c (.q 4 [] (.mv (.t 5))) .nil))) t239_5) t239_6)
def t239_7 := b239_7
theorem u239_7 : vcK P t239_7 k e w = vcK P b239_7 k e w := rfl
abbrev b239_8 : X := (.seq (.reg [0, 3] (.c (.q 3 [] (.mv (.c (.int .i64 1)))) .nil)) t239_7)
def t239_8 := b239_8
theorem u239_8 : vcK P t239_8 k e w = vcK P b239_8 k e w := rfl
abbrev b239_0 : X := (.seq (.reg [0] (.c (.q 2 [] (.mv (.c (.int .i64 0)))) .nil)) t239_8)
def x_sl1Order := b239_0
theorem u239_0 : vcK P x_sl1Order k e w = vcK P b239_0 k e w := rfl
def r_sl1Order : List XO := [(.mv (.t 2))]
theorem c_sl1Order : convF Try.prog [169, 170, 207, 208, 210, 227, 232, 233, 255, 259, 268, 269, 270, 280, 281, 296, 299, 306, 307, 309] Try.f239 [([0], []), ([0, 3], []), ([0, 3, 4], []), ([3, 4], [0]), ([0, 3, 4, 10], []), ([0, 3, 4], []), ([0, 3, 4], []), ([2], [])] = some (x_sl1Order, r_sl1Order) := by kernel_rfl
def us_sl1Order := aI @u239_0 (aI @u239_1 (aI @u239_2 (aI @u239_3 (aI @u239_4 (aI @u239_5 (aI @u239_6 (aI @u239_7 @u239_8)))))))
abbrev b254_1 : X := (.reg [0, 1] (.c (.q 10 [] (.mv (.t 1))) (.c (.q 11 [] (.neg (.t 10))) (.c (.q 1 [] (.mv (.t 11))) .nil))))
def t254_1 := b254_1
theorem u254_1 : vcK P t254_1 k e w = vcK P b254_1 k e w := rfl
abbrev b254_2 : X := (.cond (.t 7) (.seq (.reg [0, 1] (.c (.q 8 [] (.mv (.t 0))) (.c (.e (some 9) [] (.call false 305 [(.t 8)])) (.c (.q 0 [] (.mv (.t 9))) .nil)))) t254_1) .skip)
def t254_2 := b254_2
theorem u254_2 : vcK P t254_2 k e w = vcK P b254_2 k e w := rfl
abbrev b254_3 : X := (.cond (.t 16) .skip (.exit 0))
def t254_3 := b254_3
theorem u254_3 : vcK P t254_3 k e w = vcK P b254_3 k e w := rfl
abbrev b254_4 : X := (.reg [0, 1, 5] (.c (.q 17 [] (.mv (.t 1))) (.c (.q 18 [] (.bin .sub (.t 17) (.c (.int .i64 1)))) (.c (.q 1 [] (.mv (.t 18))) .nil))))
def t254_4 := b254_4
theorem u254_4 : vcK P t254_4 k e w = vcK P b254_4 k e w := rfl
abbrev b254_5 : X := (.seq (.blk 1 (.reg [0, 1, 5] (.c (.q 19 [] (.mv (.t 5))) (.c (.q 20 [] (.mv (.t 0))) (.c (.e (some 21) [] (.call false 222 [(.t 19), (.t 20)])) (.c (.q 5 [] (.mv (.t 21))) .nil)))))) t254_4)
def t254_5 := b254_5
theorem u254_5 : vcK P t254_5 k e w = vcK P b254_5 k e w := rfl
abbrev b254_6 : X := (.seq (.seq (.reg [0, 1, 5, 16] (.c (.q 15 [] (.mv (.t 1))) (.c (.q 16 [] (.bin .gtr (.t 15) (.c (.int .i64 0)))) .nil))) t254_3) t254_5)
def t254_6 := b254_6
theorem u254_6 : vcK P t254_6 k e w = vcK P b254_6 k e w := rfl
abbrev b254_7 : X := (.seq (.reg [4] (.c (.q 22 [] (.mv (.t 5))) (.c (.q 4 [] (.mv (.t 22))) .nil))) .ret)
def t254_7 := b254_7
theorem u254_7 : vcK P t254_7 k e w = vcK P b254_7 k e w := rfl
abbrev b254_8 : X := (.seq (.blk 0 (.loop [1, 5] [0] t254_6)) t254_7)
def t254_8 := b254_8
theorem u254_8 : vcK P t254_8 k e w = vcK P b254_8 k e w := rfl
abbrev b254_9 : X := (.seq (.reg [0, 1, 5] (.c (.q 12 [] (.mv (.t 0))) (.c (.q 13 [] (.len (.t 12))) (.c (.e (some 14) [] (.call false 165 [(.t 13)])) (.c (.q 5 [] (.mv (.t 14))) .nil))))) t254_8)
def t254_9 := b254_9
theorem u254_9 : vcK P t254_9 k e w = vcK P b254_9 k e w := rfl
abbrev b254_10 : X := (.seq (.seq (.reg [0, 1, 7] (.c (.q 6 [] (.mv (.t 1))) (.c (.q 7 [] (.bin .lss (.t 6) (.c (.int .i64 0)))) .nil))) t254_2) t254_9)
def t254_10 := b254_10
theorem u254_10 : vcK P t254_10 k e w = vcK P b254_10 k e w := rfl
abbrev b254_0 : X := (.seq (.reg [0, 1] (.c (.q 4 [] (.mv (.s []))) .nil)) t254_10)
def x_sl1Power := b254_0
theorem u254_0 : vcK P x_sl1Power k e w = vcK P b254_0 k e w := rfl
def r_sl1Power : List XO := [(.mv (.t 4))]
theorem c_sl1Power : convF Try.prog [169, 170, 207, 208, 210, 227, 232, 233, 255, 259, 268, 269, 270, 280, 281, 296, 299, 306, 307, 309] Try.f254 [([0, 1], []), ([0, 1, 7], []), ([0, 1], []), ([0, 1], []), ([0, 1, 5], []), ([1, 5], [0]), ([0, 1, 5, 16], []), ([0, 1, 5], []), ([0, 1, 5], []), ([4], [])] = some (x_sl1Power, r_sl1Power) := by kernel_rfl
def us_sl1Power := aI @u254_0 (aI @u254_1 (aI @u254_2 (aI @u254_3 (aI @u254_4 (aI @u254_5 (aI @u254_6 (aI @u254_7 (aI @u254_8 (aI @u254_9 @u254_10)))))))))
abbrev b134_1 : X := (.cond (.t 13) (.seq (.reg [4, 5] (.c (.q 4 [] (.mv (.s []))) (.c (.q 5 [] (.mv (.c (.bool false)))) .nil))) .ret) .skip)
def t134_1 := b134_1
theorem u134_1 : vcK P t134_1 k e w = vcK P b134_1 k e w := rfl
abbrev b134_2 : X := (.seq (.reg [4, 5] (.c (.q 14 [] (.mv (.t 0))) (.c (.q 15 [] (.mv (.t 1))) (.c (.e (some 16) [] (.call false 254 [(.t 14), (.t 15)])) (.c (.q 4 [] (.mv (.t 16))) (.c (.q 5 [] (.mv (.c (.bool true)))) .nil)))))) .ret)
def t134_2 := b134_2
theorem u134_2 : vcK P t134_2 k e w = vcK P b134_2 k e w := rfl
abbrev b134_3 : X := (.seq (.seq (.reg [0, 1, 13] (.c (.q 6 [] (.mv (.t 0))) (.c (.e (some 7) [] (.call false 223 [(.t 6)])) (.c (.q 8 [] (.not (.t 7))) (.c (.q 9 [] (.mv (.t 8))) (.c (.q 10 [(9, false)] (.mv (.t 1))) (.c (.e (some 11) [(9, false)] (.call false 173 [(.t 10), (.c (.int .i64 (-1000))), (.c (.int .i64 1000))])) (.c (.q 12 [(9, false)] (.not (.t 11))) (.c (.q 13 [] (.pick (.t 9) (.c (.bool true)) (.t 12))) .nil))))))))) t134_1) t134_2)
def t134_3 := b134_3
theorem u134_3 : vcK P t134_3 k e w = vcK P b134_3 k e w := rfl
abbrev b134_0 : X := (.seq (.reg [0, 1] (.c (.q 4 [] (.mv (.s []))) (.c (.q 5 [] (.mv (.c (.bool false)))) .nil))) t134_3)
def x_sPowerOf := b134_0
theorem u134_0 : vcK P x_sPowerOf k e w = vcK P b134_0 k e w := rfl
def r_sPowerOf : List XO := [(.mv (.t 4)), (.mv (.t 5))]
theorem c_sPowerOf : convF Try.prog [169, 170, 207, 208, 210, 227, 232, 233, 255, 259, 268, 269, 270, 280, 281, 296, 299, 306, 307, 309] Try.f134 [([0, 1], []), ([0, 1, 13], []), ([4, 5], []), ([4, 5], [])] = some (x_sPowerOf, r_sPowerOf) := by kernel_rfl
def us_sPowerOf := aI @u134_0 (aI @u134_1 (aI @u134_2 @u134_3))
end

theorem inv_snoc (l : List UInt8) (y : UInt8) : invL (l ++ [y]) = invL l + (l.filter fun x => decide (y.toNat < x.toNat)).length := by
  induction l with
  | nil => simp [invL]
  | cons x l ih =>
    simp only [List.cons_append, invL, ih, List.filter_append, List.length_append, List.filter_cons, List.filter_nil]
    split <;> simp <;> omega
/-- Even so far: i bells, of the next one k comparisons. -/
def evN (a : List UInt8) (i k : Nat) : Nat := invL (a.take i) + ((a.take k).filter fun x => decide ((a.getD i 0).toNat < x.toNat)).length
theorem evN_step (a : List UInt8) (i k : Nat) (hk : k < a.length) : evN a i (k + 1) = evN a i k + if (a.getD i 0).toNat < (a.getD k 0).toNat then 1 else 0 := by
  unfold evN
  rw [List.take_add_one, List.getElem?_eq_getElem hk, List.filter_append, List.length_append, List.getD_eq_getElem?_getD, List.getD_eq_getElem?_getD, List.getElem?_eq_getElem hk]
  simp only [Option.toList_some, Option.getD_some, List.filter_cons, List.filter_nil, decide_eq_true_eq]
  split <;> simp <;> omega
theorem evN_next (a : List UInt8) (i : Nat) (hi : i < a.length) : evN a i i = invL (a.take (i + 1)) := by
  have e : a.take (i + 1) = a.take i ++ [a.getD i 0] := by
    rw [List.take_add_one, List.getElem?_eq_getElem hi, List.getD_eq_getElem?_getD, List.getElem?_eq_getElem hi]; rfl
  rw [e, inv_snoc]; rfl
def evB (n : Nat) : Bool := decide (n % 2 = 0)
theorem evB_not (n : Nat) : evB (n + 1) = !evB n := by
  unfold evB
  rw [← decide_not]
  exact decide_eq_decide.2 (by omega)
theorem Own.one1 {α : Type} {f : α → List Value} {z E B : Nat} {w : World} {a : α} {b : Nat} {cs : List Value} (hz : ∀ a, (f a).length = z) (hb : Blk w b cs E) (e : cs = f a) (hB : B ≤ b) : Own f z E B w (.slice (some ⟨b, 0, none⟩) 1 1) [a] :=
  ⟨hz, .inr ⟨b, 1, cs, rfl, hB, hb, Nat.le_refl _, by decide, by rw [e, hz, Nat.one_mul], by rw [e]; simp only [List.length_singleton, Nat.one_mul, List.flatMap_cons, List.flatMap_nil, List.append_nil]; rw [← hz a, List.take_length]⟩⟩
theorem ipowers_ok (a : List UInt8) (n : Nat) (ha : IsRow a) (ho : IsOrd a n) (w : World) : Fn 184 [S a] w (fun r w' => Own fS 1 9 w.heap.size w' r ((List.range n).map (powL a))) := by
  (refine callsV_of mix Try.func184 c_ipowers ?_; simp only [↓vsd, vsn, gW, qd, qv, ev, pick, argE, zipE, ne_eq, eq_self, forall_const, implies_true, if_true, if_false, reduceIte, reduceCtorEq, Nat.reduceEqDiff, Nat.reduceAdd, Nat.reduceLT, ↓us_ipowers, r_ipowers])
  refine m_call (irounds_ok a.length (by have := ha.1; omega) _) ?_
  rintro _ w1 hx1 rfl
  simp only [↓vsd, vsn, gW, qd, qv, ev, pick, argE, zipE, ne_eq, eq_self, forall_const, implies_true, if_true, if_false, reduceIte, reduceCtorEq, Nat.reduceEqDiff, Nat.reduceAdd, Nat.reduceLT, ↓us_ipowers, r_ipowers]
  refine m_bsl (one_el rfl) ?_
  rintro b w2 hb hblk hx2 hs2
  simp only [↓vsd, vsn, gW, qd, qv, ev, pick, argE, zipE, ne_eq, eq_self, forall_const, implies_true, if_true, if_false, reduceIte, reduceCtorEq, Nat.reduceEqDiff, Nat.reduceAdd, Nat.reduceLT, ↓us_ipowers, r_ipowers]
  have h8 := ha.1
  have hp1 : powL a 1 = a := by show timesL (roundsL a.length) a = a; exact rounds_times ha
  have hx12 := hx1.trans hx2
  have hin : 0 < n := ho.1
  refine m_upto (n - 1) (fun k vs w' => ∃ v, vs = [v, S (powL a (k + 1))] ∧ Own fS 1 9 w.heap.size w' v ((List.range (k + 1)).map (powL a)) ∧ Ext w w') ⟨_, by rw [hp1], (Own.one1 fS_len hblk rfl (by have := hx1.size; omega)).to rfl, hx12⟩ ?_
  rintro k vs w3 hk ⟨v, rfl, ho3, hx3⟩
  have h0 : 0 < ((List.range (k + 1)).map (powL a)).length := by simp
  have hg0 : ((List.range (k + 1)).map (powL a)).getD 0 [] = roundsL a.length := by
    rw [List.getD_eq_getElem?_getD, List.getElem?_map, List.getElem?_range (by omega)]; rfl
  simp only [↓vsd, vsn, gW, qd, qv, ev, pick, argE, zipE, ne_eq, eq_self, forall_const, implies_true, if_true, if_false, reduceIte, reduceCtorEq, Nat.reduceEqDiff, Nat.reduceAdd, Nat.reduceLT, ↓us_ipowers, r_ipowers, ho3.sq.facts, ho3.sq.at0 [] h0, hg0]
  have hin2 := ho.2.1
  have hl3 : ((List.range (k + 1)).map (powL a)).length = k + 1 := by simp
  refine ⟨by omega, fun hne => m_bsl (one_el rfl) ?_, fun he => ⟨hx3, ?_⟩⟩
  · rintro b4 w4 hb4 hblk4 hx4 hs4
    simp only [↓vsd, vsn, gW, qd, qv, ev, pick, argE, zipE, ne_eq, eq_self, forall_const, implies_true, if_true, if_false, reduceIte, reduceCtorEq, Nat.reduceEqDiff, Nat.reduceAdd, Nat.reduceLT, ↓us_ipowers, r_ipowers]
    refine m_app (ho3.ext hx4) (Sq.one fS_len hblk4 rfl) fS_one (by decide) (by rw [hl3]; simp only [List.length_singleton]; omega) (by decide) ((hx3.trans hx4).size) ?_
    rintro v5 w5 ho5 hg5
    have hx5 := (ho3.ext hx4).grown (hx3.trans hx4) (Nat.le_refl _) hg5
    simp only [↓vsd, vsn, gW, qd, qv, ev, pick, argE, zipE, ne_eq, eq_self, forall_const, implies_true, if_true, if_false, reduceIte, reduceCtorEq, Nat.reduceEqDiff, Nat.reduceAdd, Nat.reduceLT, ↓us_ipowers, r_ipowers]
    refine m_call (itimes_ok _ _ ha (powL_len _ _) _) ?_
    rintro _ w6 hx6 rfl
    simp only [↓vsd, vsn, gW, qd, qv, ev, pick, argE, zipE, ne_eq, eq_self, forall_const, implies_true, if_true, if_false, reduceIte, reduceCtorEq, Nat.reduceEqDiff, Nat.reduceAdd, Nat.reduceLT, ↓us_ipowers, r_ipowers]
    have hlt : k < n - 1 := by
      rcases Nat.lt_or_ge k (n - 1) with h | h
      · exact h
      · exact absurd (by rw [show k + 1 = n by omega]; exact ho.2.2.1) hne
    exact UpTo.next hlt ⟨v5, rfl, (ho5.to (by rw [List.range_succ (n := k + 1), List.map_append]; rfl)).ext hx6, hx5.trans hx6⟩
  · have : k + 1 = n := by
      rcases Nat.lt_or_ge (k + 1) n with h | h
      · exact absurd he (ho.2.2.2 (k + 1) (by omega) h)
      · omega
    rw [← this]; exact ho3
theorem sl1Order_ok (a : List UInt8) (n : Nat) (ha : IsRow a) (ho : IsOrd a n) (w : World) : Fn 239 [S a] w (fun r _ => r = .int .i64 (n : Nat)) := by
  (refine callsV_of mix Try.func239 c_sl1Order ?_; simp only [↓vsd, vsn, gW, qd, qv, ev, pick, argE, zipE, ne_eq, eq_self, forall_const, implies_true, if_true, if_false, reduceIte, reduceCtorEq, Nat.reduceEqDiff, Nat.reduceAdd, Nat.reduceLT, ↓us_sl1Order, r_sl1Order])
  have h8 := ha.1
  have hp1 : powL a 1 = a := by show timesL (roundsL a.length) a = a; exact rounds_times ha
  refine m_upto (n - 1) (fun k vs w' => vs = [.int .i64 (k + 1 : Nat), S (powL a (k + 1))] ∧ Ext w w') ⟨by rw [hp1]; rfl, Ext.refl _⟩ ?_
  rintro k vs w1 hk ⟨rfl, hx⟩
  simp only [↓vsd, vsn, gW, qd, qv, ev, pick, argE, zipE, ne_eq, eq_self, forall_const, implies_true, if_true, if_false, reduceIte, reduceCtorEq, Nat.reduceEqDiff, Nat.reduceAdd, Nat.reduceLT, ↓us_sl1Order, r_sl1Order]
  refine m_call (sl1Rounds_ok a.length (by omega) _) ?_
  rintro _ w2 hx2 rfl
  simp only [↓vsd, vsn, gW, qd, qv, ev, pick, argE, zipE, ne_eq, eq_self, forall_const, implies_true, if_true, if_false, reduceIte, reduceCtorEq, Nat.reduceEqDiff, Nat.reduceAdd, Nat.reduceLT, ↓us_sl1Order, r_sl1Order]
  have hin := ho.2.1
  refine ⟨fun hne => ⟨inR_i64 (by omega), m_call (sl1Times_ok _ _ ha (powL_len _ _) _) ?_⟩, fun he => ⟨hx.trans hx2, ?_⟩⟩
  · rintro _ w3 hx3 rfl
    simp only [↓vsd, vsn, gW, qd, qv, ev, pick, argE, zipE, ne_eq, eq_self, forall_const, implies_true, if_true, if_false, reduceIte, reduceCtorEq, Nat.reduceEqDiff, Nat.reduceAdd, Nat.reduceLT, ↓us_sl1Order, r_sl1Order]
    have hlt : k < n - 1 := by
      rcases Nat.lt_or_ge k (n - 1) with h | h
      · exact h
      · exact absurd (by rw [show k + 1 = n by have := ho.1; omega]; exact ho.2.2.1) hne
    exact UpTo.next hlt ⟨rfl, (hx.trans hx2).trans hx3⟩
  · have : k + 1 = n := by
      rcases Nat.lt_or_ge (k + 1) n with h | h
      · exact absurd he (ho.2.2.2 (k + 1) (by omega) h)
      · have := ho.1; omega
    rw [this]
def evenV (a : List UInt8) : Value := if IsRow a then .tuple ⟨[.bool (evB (invL a)), .bool true]⟩ else .tuple ⟨[.bool false, .bool false]⟩
def ordV (a : List UInt8) (n : Nat) : Value := if IsRow a then .tuple ⟨[.int .i64 (n : Nat), .bool true]⟩ else .tuple ⟨[.int .i64 0, .bool false]⟩
theorem sl1Power_ok (a : List UInt8) (k : Int) (ha : IsRow a) (hk : -1000 ≤ k ∧ k ≤ 1000) (w : World) : Fn 254 [S a, .int .i64 k] w (fun r _ => r = S (powZ a k)) := by
  (refine callsV_of mix Try.func254 c_sl1Power ?_; simp only [↓vsd, vsn, gW, qd, qv, ev, pick, argE, zipE, ne_eq, eq_self, forall_const, implies_true, if_true, if_false, reduceIte, reduceCtorEq, Nat.reduceEqDiff, Nat.reduceAdd, Nat.reduceLT, ↓us_sl1Power, r_sl1Power])
  have h8 := ha.1
  refine ⟨fun hneg => m_call (sl1Turn_ok a ha _) ?_, fun hpos => ?_⟩
  · rintro _ w2 hx2 rfl
    obtain ⟨q, hq⟩ : ∃ q : Nat, 0 - k = q := ⟨(-k).toNat, by omega⟩
    have htl := turnL_len a
    simp only [↓vsd, vsn, gW, qd, qv, ev, pick, argE, zipE, ne_eq, eq_self, forall_const, implies_true, if_true, if_false, reduceIte, reduceCtorEq, Nat.reduceEqDiff, Nat.reduceAdd, Nat.reduceLT, ↓us_sl1Power, r_sl1Power, hq, htl]
    refine ⟨inR_i64 (by omega), ?_⟩
    refine m_call (sl1Rounds_ok _ (by omega) _) ?_
    rintro _ w3 hx3 rfl
    simp only [↓vsd, vsn, gW, qd, qv, ev, pick, argE, zipE, ne_eq, eq_self, forall_const, implies_true, if_true, if_false, reduceIte, reduceCtorEq, Nat.reduceEqDiff, Nat.reduceAdd, Nat.reduceLT, ↓us_sl1Power, r_sl1Power]
    refine m_upto q (fun i vs w' => ∃ m : Nat, m + i = q ∧ vs = [.int .i64 m, S (powL (turnL a) i)] ∧ Ext w w') ⟨q, rfl, by rw [powL, turnL_len], hx2.trans hx3⟩ ?_
    rintro i vs w4 hi ⟨m, hmi, rfl, hx4⟩
    by_cases hlt : i < q
    · have hltI : 0 < (m : Int) := by omega
      have hltJ : ¬ (m : Int) ≤ 0 := by omega
      simp only [↓vsd, vsn, gW, qd, qv, ev, pick, argE, zipE, ne_eq, eq_self, forall_const, implies_true, if_true, if_false, reduceIte, reduceCtorEq, Nat.reduceEqDiff, Nat.reduceAdd, Nat.reduceLT, ↓us_sl1Power, r_sl1Power, hltI, hltJ]
      refine m_call (sl1Times_ok (powL (turnL a) i) (turnL a) (turnL_row ha) (powL_len _ _) _) ?_
      rintro _ w5 hx5 rfl
      simp only [↓vsd, vsn, gW, qd, qv, ev, pick, argE, zipE, ne_eq, eq_self, forall_const, implies_true, if_true, if_false, reduceIte, reduceCtorEq, Nat.reduceEqDiff, Nat.reduceAdd, Nat.reduceLT, ↓us_sl1Power, r_sl1Power]
      exact ⟨inR_i64 (by omega), UpTo.next hlt ⟨m - 1, by omega, by rw [show ((m : Int) - 1) = ((m - 1 : Nat) : Int) by omega]; rfl, hx4.trans hx5⟩⟩
    · have hltI : ¬ 0 < (m : Int) := by omega
      obtain rfl : i = q := by omega
      simp only [↓vsd, vsn, gW, qd, qv, ev, pick, argE, zipE, ne_eq, eq_self, forall_const, implies_true, if_true, if_false, reduceIte, reduceCtorEq, Nat.reduceEqDiff, Nat.reduceAdd, Nat.reduceLT, ↓us_sl1Power, r_sl1Power, hltI]
      exact ⟨hx4, by rw [powZ, if_pos hneg, show (-k).toNat = i by omega]⟩
  · obtain ⟨q, rfl⟩ : ∃ q : Nat, k = q := ⟨k.toNat, by omega⟩
    refine m_call (sl1Rounds_ok _ (by omega) _) ?_
    rintro _ w3 hx3 rfl
    simp only [↓vsd, vsn, gW, qd, qv, ev, pick, argE, zipE, ne_eq, eq_self, forall_const, implies_true, if_true, if_false, reduceIte, reduceCtorEq, Nat.reduceEqDiff, Nat.reduceAdd, Nat.reduceLT, ↓us_sl1Power, r_sl1Power]
    refine m_upto q (fun i vs w' => ∃ m : Nat, m + i = q ∧ vs = [.int .i64 m, S (powL a i)] ∧ Ext w w') ⟨q, rfl, rfl, hx3⟩ ?_
    rintro i vs w4 hi ⟨m, hmi, rfl, hx4⟩
    by_cases hlt : i < q
    · have hltI : 0 < (m : Int) := by omega
      have hltJ : ¬ (m : Int) ≤ 0 := by omega
      simp only [↓vsd, vsn, gW, qd, qv, ev, pick, argE, zipE, ne_eq, eq_self, forall_const, implies_true, if_true, if_false, reduceIte, reduceCtorEq, Nat.reduceEqDiff, Nat.reduceAdd, Nat.reduceLT, ↓us_sl1Power, r_sl1Power, hltI, hltJ]
      refine m_call (sl1Times_ok (powL a i) a ha (powL_len _ _) _) ?_
      rintro _ w5 hx5 rfl
      simp only [↓vsd, vsn, gW, qd, qv, ev, pick, argE, zipE, ne_eq, eq_self, forall_const, implies_true, if_true, if_false, reduceIte, reduceCtorEq, Nat.reduceEqDiff, Nat.reduceAdd, Nat.reduceLT, ↓us_sl1Power, r_sl1Power]
      exact ⟨inR_i64 (by omega), UpTo.next hlt ⟨m - 1, by omega, by rw [show ((m : Int) - 1) = ((m - 1 : Nat) : Int) by omega]; rfl, hx4.trans hx5⟩⟩
    · have hltI : ¬ 0 < (m : Int) := by omega
      obtain rfl : i = q := by omega
      simp only [↓vsd, vsn, gW, qd, qv, ev, pick, argE, zipE, ne_eq, eq_self, forall_const, implies_true, if_true, if_false, reduceIte, reduceCtorEq, Nat.reduceEqDiff, Nat.reduceAdd, Nat.reduceLT, ↓us_sl1Power, r_sl1Power, hltI]
      exact ⟨hx4, by rw [powZ, if_neg (by omega)]; rfl⟩
theorem sPowerOf_ok (a : List UInt8) (k : Int) (w : World) : Fn 134 [S a, .int .i64 k] w (fun r _ => r = powV a k) := by
  (refine callsV_of mix Try.func134 c_sPowerOf ?_; simp only [↓vsd, vsn, gW, qd, qv, ev, pick, argE, zipE, ne_eq, eq_self, forall_const, implies_true, if_true, if_false, reduceIte, reduceCtorEq, Nat.reduceEqDiff, Nat.reduceAdd, Nat.reduceLT, ↓us_sPowerOf, r_sPowerOf])
  refine m_call (sl1Row_ok _ _) ?_
  rintro _ w1 hx1 rfl
  by_cases h : IsRow a
  · simp only [↓vsd, vsn, gW, qd, qv, ev, pick, argE, zipE, ne_eq, eq_self, forall_const, implies_true, if_true, if_false, reduceIte, reduceCtorEq, Nat.reduceEqDiff, Nat.reduceAdd, Nat.reduceLT, ↓us_sPowerOf, r_sPowerOf, h]
    refine m_call (sl1In_ok _ _ _ _) ?_
    rintro _ w2 hx2 rfl
    by_cases hk : -1000 ≤ k ∧ k ≤ 1000
    · have h1 := hk.1
      have h2 := hk.2
      simp only [↓vsd, vsn, gW, qd, qv, ev, pick, argE, zipE, ne_eq, eq_self, forall_const, implies_true, if_true, if_false, reduceIte, reduceCtorEq, Nat.reduceEqDiff, Nat.reduceAdd, Nat.reduceLT, ↓us_sPowerOf, r_sPowerOf, h1, h2]
      refine m_call (sl1Power_ok a k h hk _) ?_
      rintro _ w3 hx3 rfl
      simp only [↓vsd, vsn, gW, qd, qv, ev, pick, argE, zipE, ne_eq, eq_self, forall_const, implies_true, if_true, if_false, reduceIte, reduceCtorEq, Nat.reduceEqDiff, Nat.reduceAdd, Nat.reduceLT, ↓us_sPowerOf, r_sPowerOf]
      exact ⟨(hx1.trans hx2).trans hx3, by rw [powV, if_pos ⟨h, h1, h2⟩]⟩
    · simp only [↓vsd, vsn, gW, qd, qv, ev, pick, argE, zipE, ne_eq, eq_self, forall_const, implies_true, if_true, if_false, reduceIte, reduceCtorEq, Nat.reduceEqDiff, Nat.reduceAdd, Nat.reduceLT, ↓us_sPowerOf, r_sPowerOf, hk]
      exact fun _ => ⟨hx1.trans hx2, by rw [powV, if_neg (fun hh => hk hh.2)]⟩
  · simp only [↓vsd, vsn, gW, qd, qv, ev, pick, argE, zipE, ne_eq, eq_self, forall_const, implies_true, if_true, if_false, reduceIte, reduceCtorEq, Nat.reduceEqDiff, Nat.reduceAdd, Nat.reduceLT, ↓us_sPowerOf, r_sPowerOf, h]
    exact ⟨hx1, by rw [powV, if_neg (fun hh => h hh.1)]⟩
end Go.Proofs.Ytpnopboffalfnaa
