/-
  Orders, signs and powers of rows, as program and reference compute them.
  Conditions: none.
-/
import Derived.Test.YtnincmnkdjlndaaD3
import Derived.Test.YtnincmnkdjlndaaPh
set_option linter.unusedSimpArgs false
set_option linter.unusedVariables false
set_option linter.defProp false
namespace Go.Proofs.Ytnincmnkdjlndaa
open Go Go.RowKit
section
variable (P : Program) (k : KT) (e : Env) (w : World)
abbrev b188_1 : X := (.cond (.t 14) .skip (.exit 0))
def t188_1 := b188_1
theorem u188_1 : vcK P t188_1 k e w = vcK P b188_1 k e w := rfl
abbrev b188_2 : X := (.reg [0, 3, 4] (.c (.q 15 [] (.mv (.t 4))) (.c (.q 16 [] (.mv (.t 0))) (.c (.e (some 17) [] (.call false 187 [(.t 15), (.t 16)])) (.c (.q 4 [] (.mv (.t 17))) .nil)))))
def t188_2 := b188_2
theorem u188_2 : vcK P t188_2 k e w = vcK P b188_2 k e w := rfl
abbrev b188_3 : X := (.seq (.blk 1 (.reg [0, 3, 4] (.c (.q 18 [] (.mv (.t 3))) (.c (.q 19 [] (.mv (.t 4))) (.c (.e (some 20) [] (.bsl 9 1 [(.t 19)])) (.c (.e (some 21) [] (.app 24 9 1 16 [(S [])] 24 (.t 18) (.t 20))) (.c (.q 3 [] (.mv (.t 21))) .nil))))))) t188_2)
def t188_3 := b188_3
theorem u188_3 : vcK P t188_3 k e w = vcK P b188_3 k e w := rfl
abbrev b188_4 : X := (.seq (.seq (.reg [0, 3, 4, 14] (.c (.q 10 [] (.mv (.t 4))) (.c (.q 11 [] (.mv (.t 3))) (.c (.q 12 [] (.ia 1 (.t 11) (.c (.int .i64 0)))) (.c (.q 13 [] (.ld (.t 12))) (.c (.q 14 [] (.bin .neq (.t 10) (.t 13))) .nil)))))) t188_1) t188_3)
def t188_4 := b188_4
theorem u188_4 : vcK P t188_4 k e w = vcK P b188_4 k e w := rfl
abbrev b188_5 : X := (.blk 0 (.loop [3, 4] [0] t188_4))
def t188_5 := b188_5
theorem u188_5 : vcK P t188_5 k e w = vcK P b188_5 k e w := rfl
abbrev b188_6 : X := (.seq (.reg [2] (.c (.q 22 [] (.mv (.t 3))) (.c (.q 2 [] (.mv (.t 22))) .nil))) .ret)
def t188_6 := b188_6
theorem u188_6 : vcK P t188_6 k e w = vcK P b188_6 k e w := rfl
abbrev b188_7 : X := (.seq (.seq (.reg [0, 3, 4] (.c (.q 9 [] (.mv (.t 0))) (.c (.q 4 [] (.mv (.t 9))) .nil))) t188_5) t188_6)
def t188_7 := b188_7
theorem u188_7 : vcK P t188_7 k e w = vcK P b188_7 k e w := rfl
abbrev b188_8 : X := (.seq (.reg [0, 3] (.c (.q 5 [] (.mv (.t 0))) (.c (.q 6 [] (.len (.t 5))) (.c (.e (some 7) [] (.call false 142 [(.t 6)])) (.c (.e (some 8) [] (.bsl 9 1 [(.t 7)])) (.c (.q 3 [] (.mv (.t 8))) .nil)))))) t188_7)
def t188_8 := b188_8
theorem u188_8 : vcK P t188_8 k e w = vcK P b188_8 k e w := rfl
abbrev b188_0 : X := (.seq (.reg [0] (.c (.q 2 [] (.mv (.c (.slice none 0 0)))) .nil)) t188_8)
def x_ipowers := b188_0
theorem u188_0 : vcK P x_ipowers k e w = vcK P b188_0 k e w := rfl
def r_ipowers : List XO := [(.mv (.t 2))]
theorem c_ipowers : convF Try.prog [147, 148, 152, 160, 162, 163, 170, 178, 206, 208, 210, 224, 233, 235, 236, 251, 264, 265, 268, 270, 287, 322] Try.f188 [([0], []), ([0, 3], []), ([0, 3, 4], []), ([3, 4], [0]), ([0, 3, 4, 14], []), ([0, 3, 4], []), ([0, 3, 4], []), ([2], [])] = some (x_ipowers, r_ipowers) := by kernel_rfl
def us_ipowers :=  (aI (aI (aI @u188_0 @u188_1) (aI @u188_2 @u188_3)) (aI (aI @u188_4 @u188_5) (aI @u188_6 (aI @u188_7 @u188_8))))
abbrev b111_1 : X := (.cond (.t 6) (.seq (.reg [2, 3] (.c (.q 2 [] (.mv (.c (.int .i64 0)))) (.c (.q 3 [] (.mv (.c (.bool false)))) .nil))) .ret) .skip)
def t111_1 := b111_1
theorem u111_1 : vcK P t111_1 k e w = vcK P b111_1 k e w := rfl
abbrev b111_2 : X := (.seq (.reg [2, 3] (.c (.q 7 [] (.mv (.t 0))) (.c (.e (some 8) [] (.call false 188 [(.t 7)])) (.c (.q 9 [] (.lens (.t 8))) (.c (.q 2 [] (.mv (.t 9))) (.c (.q 3 [] (.mv (.c (.bool true)))) .nil)))))) .ret)
def t111_2 := b111_2
theorem u111_2 : vcK P t111_2 k e w = vcK P b111_2 k e w := rfl
abbrev b111_3 : X := (.seq (.seq (.reg [0, 6] (.c (.q 4 [] (.mv (.t 0))) (.c (.e (some 5) [] (.call false 141 [(.t 4)])) (.c (.q 6 [] (.not (.t 5))) .nil)))) t111_1) t111_2)
def t111_3 := b111_3
theorem u111_3 : vcK P t111_3 k e w = vcK P b111_3 k e w := rfl
abbrev b111_0 : X := (.seq (.reg [0] (.c (.q 2 [] (.mv (.c (.int .i64 0)))) (.c (.q 3 [] (.mv (.c (.bool false)))) .nil))) t111_3)
def x_iOrderOf := b111_0
theorem u111_0 : vcK P x_iOrderOf k e w = vcK P b111_0 k e w := rfl
def r_iOrderOf : List XO := [(.mv (.t 2)), (.mv (.t 3))]
theorem c_iOrderOf : convF Try.prog [147, 148, 152, 160, 162, 163, 170, 178, 206, 208, 210, 224, 233, 235, 236, 251, 264, 265, 268, 270, 287, 322] Try.f111 [([0], []), ([0, 6], []), ([2, 3], []), ([2, 3], [])] = some (x_iOrderOf, r_iOrderOf) := by kernel_rfl
def us_iOrderOf :=  (aI (aI @u111_0 @u111_1) (aI @u111_2 @u111_3))
abbrev b223_1 : X := (.cond (.t 10) .skip (.exit 0))
def t223_1 := b223_1
theorem u223_1 : vcK P t223_1 k e w = vcK P b223_1 k e w := rfl
abbrev b223_2 : X := (.reg [0, 3, 4] (.c (.q 11 [] (.mv (.t 4))) (.c (.q 12 [] (.mv (.t 0))) (.c (.e (some 13) [] (.call false 222 [(.t 11), (.t 12)])) (.c (.q 4 [] (.mv (.t 13))) .nil)))))
def t223_2 := b223_2
theorem u223_2 : vcK P t223_2 k e w = vcK P b223_2 k e w := rfl
abbrev b223_3 : X := (.seq (.blk 1 (.reg [0, 3, 4] (.c (.q 14 [] (.mv (.t 3))) (.c (.q 15 [] (.bin .add (.t 14) (.c (.int .i64 1)))) (.c (.q 3 [] (.mv (.t 15))) .nil))))) t223_2)
def t223_3 := b223_3
theorem u223_3 : vcK P t223_3 k e w = vcK P b223_3 k e w := rfl
abbrev b223_4 : X := (.seq (.seq (.reg [0, 3, 4, 10] (.c (.q 6 [] (.mv (.t 4))) (.c (.q 7 [] (.mv (.t 0))) (.c (.q 8 [] (.len (.t 7))) (.c (.e (some 9) [] (.call false 260 [(.t 8)])) (.c (.q 10 [] (.bin .neq (.t 6) (.t 9))) .nil)))))) t223_1) t223_3)
def t223_4 := b223_4
theorem u223_4 : vcK P t223_4 k e w = vcK P b223_4 k e w := rfl
abbrev b223_5 : X := (.blk 0 (.loop [3, 4] [0] t223_4))
def t223_5 := b223_5
theorem u223_5 : vcK P t223_5 k e w = vcK P b223_5 k e w := rfl
abbrev b223_6 : X := (.seq (.reg [2] (.c (.q 16 [] (.mv (.t 3))) (.c (.q 2 [] (.mv (.t 16))) .nil))) .ret)
def t223_6 := b223_6
theorem u223_6 : vcK P t223_6 k e w = vcK P b223_6 k e w := rfl
abbrev b223_7 : X := (.seq (.seq (.reg [0, 3, 4] (.c (.q 5 [] (.mv (.t 0))) (.c (.q 4 [] (.mv (.t 5))) .nil))) t223_5) t223_6)
def t223_7 := b223_7
theorem u223_7 : vcK P t223_7 k e w = vcK P b223_7 k e w := rfl
abbrev b223_8 : X := (.seq (.reg [0, 3] (.c (.q 3 [] (.mv (.c (.int .i64 1)))) .nil)) t223_7)
def t223_8 := b223_8
theorem u223_8 : vcK P t223_8 k e w = vcK P b223_8 k e w := rfl
abbrev b223_0 : X := (.seq (.reg [0] (.c (.q 2 [] (.mv (.c (.int .i64 0)))) .nil)) t223_8)
def x_sl1Order := b223_0
theorem u223_0 : vcK P x_sl1Order k e w = vcK P b223_0 k e w := rfl
def r_sl1Order : List XO := [(.mv (.t 2))]
theorem c_sl1Order : convF Try.prog [147, 148, 152, 160, 162, 163, 170, 178, 206, 208, 210, 224, 233, 235, 236, 251, 264, 265, 268, 270, 287, 322] Try.f223 [([0], []), ([0, 3], []), ([0, 3, 4], []), ([3, 4], [0]), ([0, 3, 4, 10], []), ([0, 3, 4], []), ([0, 3, 4], []), ([2], [])] = some (x_sl1Order, r_sl1Order) := by kernel_rfl
def us_sl1Order :=  (aI (aI (aI @u223_0 @u223_1) (aI @u223_2 @u223_3)) (aI (aI @u223_4 @u223_5) (aI @u223_6 (aI @u223_7 @u223_8))))
abbrev b100_1 : X := (.cond (.t 6) (.seq (.reg [2, 3] (.c (.q 2 [] (.mv (.c (.int .i64 0)))) (.c (.q 3 [] (.mv (.c (.bool false)))) .nil))) .ret) .skip)
def t100_1 := b100_1
theorem u100_1 : vcK P t100_1 k e w = vcK P b100_1 k e w := rfl
abbrev b100_2 : X := (.seq (.reg [2, 3] (.c (.q 7 [] (.mv (.t 0))) (.c (.e (some 8) [] (.call false 223 [(.t 7)])) (.c (.q 2 [] (.mv (.t 8))) (.c (.q 3 [] (.mv (.c (.bool true)))) .nil))))) .ret)
def t100_2 := b100_2
theorem u100_2 : vcK P t100_2 k e w = vcK P b100_2 k e w := rfl
abbrev b100_3 : X := (.seq (.seq (.reg [0, 6] (.c (.q 4 [] (.mv (.t 0))) (.c (.e (some 5) [] (.call false 151 [(.t 4)])) (.c (.q 6 [] (.not (.t 5))) .nil)))) t100_1) t100_2)
def t100_3 := b100_3
theorem u100_3 : vcK P t100_3 k e w = vcK P b100_3 k e w := rfl
abbrev b100_0 : X := (.seq (.reg [0] (.c (.q 2 [] (.mv (.c (.int .i64 0)))) (.c (.q 3 [] (.mv (.c (.bool false)))) .nil))) t100_3)
def x_sOrderOf := b100_0
theorem u100_0 : vcK P x_sOrderOf k e w = vcK P b100_0 k e w := rfl
def r_sOrderOf : List XO := [(.mv (.t 2)), (.mv (.t 3))]
theorem c_sOrderOf : convF Try.prog [147, 148, 152, 160, 162, 163, 170, 178, 206, 208, 210, 224, 233, 235, 236, 251, 264, 265, 268, 270, 287, 322] Try.f100 [([0], []), ([0, 6], []), ([2, 3], []), ([2, 3], [])] = some (x_sOrderOf, r_sOrderOf) := by kernel_rfl
def us_sOrderOf :=  (aI (aI @u100_0 @u100_1) (aI @u100_2 @u100_3))
end

theorem inv_snoc (l : List UInt8) (y : UInt8) : invL (l ++ [y]) = invL l + (l.filter fun x => decide (y.toNat < x.toNat)).length := by
  induction l with
  | nil => simp [invL]
  | cons x l ih =>
    simp only [List.cons_append, invL, ih, List.filter_append, List.length_append, List.filter_cons, List.filter_nil]
    split <;> simp <;> omega
/-- Even so far: i bells, of the next one k comparisons. -/
def evN (a : List UInt8) (i k : Nat) : Nat := invL (a.take i) + ((a.take k).filter fun x => decide ((a.getD i 0).toNat < x.toNat)).length
theorem evN_step (a : List UInt8) (i k : Nat) (hk : k < a.length) : evN a i (k + 1) = evN a i k + if (a.getD i 0).toNat < (a.getD k 0).toNat then 1 else 0 := by
  unfold evN
  rw [List.take_add_one, List.getElem?_eq_getElem hk, List.filter_append, List.length_append, List.getD_eq_getElem?_getD, List.getD_eq_getElem?_getD, List.getElem?_eq_getElem hk]
  simp only [Option.toList_some, Option.getD_some, List.filter_cons, List.filter_nil, decide_eq_true_eq]
  split <;> simp <;> omega
theorem evN_next (a : List UInt8) (i : Nat) (hi : i < a.length) : evN a i i = invL (a.take (i + 1)) := by
  have e : a.take (i + 1) = a.take i ++ [a.getD i 0] := by
    rw [List.take_add_one, List.getElem?_eq_getElem hi, List.getD_eq_getElem?_getD, List.getElem?_eq_getElem hi]; rfl
  rw [e, inv_snoc]; rfl
def evB (n : Nat) : Bool := decide (n % 2 = 0)
theorem evB_not (n : Nat) : evB (n + 1) = !evB n := by
  unfold evB
  rw [← decide_not]
  exact decide_eq_decide.2 (by omega)
theorem Own.one1 {α : Type} {f : α → List Value} {z E B : Nat} {w : World} {a : α} {b : Nat} {cs : List Value} (hz : ∀ a, (f a).length = z) (hb : Blk w b cs E) (e : cs = f a) (hB : B ≤ b) : Own f z E B w (.slice (some ⟨b, 0, none⟩) 1 1) [a] :=
  ⟨hz, .inr ⟨b, 1, cs, rfl, hB, hb, Nat.le_refl _, by decide, by rw [e, hz, Nat.one_mul], by rw [e]; simp only [List.length_singleton, Nat.one_mul, List.flatMap_cons, List.flatMap_nil, List.append_nil]; rw [← hz a, List.take_length]⟩⟩
theorem ipowers_ok (a : List UInt8) (n : Nat) (ha : IsRow a) (ho : IsOrd a n) (w : World) : Fn 188 [S a] w (fun r w' => Own fS 1 9 w.heap.size w' r ((List.range n).map (powL a))) := by
  (refine callsV_of mix Try.func188 c_ipowers ?_; simp only [↓vsd, vsn, gW, qd, qv, ev, pick, argE, zipE, ne_eq, eq_self, forall_const, implies_true, if_true, if_false, reduceIte, reduceCtorEq, Nat.reduceEqDiff, Nat.reduceAdd, Nat.reduceLT, ↓us_ipowers, r_ipowers])
  refine m_call (irounds_ok a.length (by have := ha.1; omega) _) ?_
  rintro _ w1 hx1 rfl
  simp only [↓vsd, vsn, gW, qd, qv, ev, pick, argE, zipE, ne_eq, eq_self, forall_const, implies_true, if_true, if_false, reduceIte, reduceCtorEq, Nat.reduceEqDiff, Nat.reduceAdd, Nat.reduceLT, ↓us_ipowers, r_ipowers]
  refine m_bsl (one_el rfl) ?_
  rintro b w2 hb hblk hx2 hs2
  simp only [↓vsd, vsn, gW, qd, qv, ev, pick, argE, zipE, ne_eq, eq_self, forall_const, implies_true, if_true, if_false, reduceIte, reduceCtorEq, Nat.reduceEqDiff, Nat.reduceAdd, Nat.reduceLT, ↓us_ipowers, r_ipowers]
  have h8 := ha.1
  have hp1 : powL a 1 = a := by show timesL (roundsL a.length) a = a; exact rounds_times ha
  have hx12 := hx1.trans hx2
  have hin : 0 < n := ho.1
  refine m_upto (n - 1) (fun k vs w' => ∃ v, vs = [v, S (powL a (k + 1))] ∧ Own fS 1 9 w.heap.size w' v ((List.range (k + 1)).map (powL a)) ∧ Ext w w') ⟨_, by rw [hp1], (Own.one1 fS_len hblk rfl (by have := hx1.size; omega)).to rfl, hx12⟩ ?_
  rintro k vs w3 hk ⟨v, rfl, ho3, hx3⟩
  have h0 : 0 < ((List.range (k + 1)).map (powL a)).length := by simp
  have hg0 : ((List.range (k + 1)).map (powL a)).getD 0 [] = roundsL a.length := by
    rw [List.getD_eq_getElem?_getD, List.getElem?_map, List.getElem?_range (by omega)]; rfl
  simp only [↓vsd, vsn, gW, qd, qv, ev, pick, argE, zipE, ne_eq, eq_self, forall_const, implies_true, if_true, if_false, reduceIte, reduceCtorEq, Nat.reduceEqDiff, Nat.reduceAdd, Nat.reduceLT, ↓us_ipowers, r_ipowers, ho3.sq.facts, ho3.sq.at0 [] h0, hg0]
  have hin2 := ho.2.1
  have hl3 : ((List.range (k + 1)).map (powL a)).length = k + 1 := by simp
  refine ⟨by omega, fun hne => m_bsl (one_el rfl) ?_, fun he => ⟨hx3, ?_⟩⟩
  · rintro b4 w4 hb4 hblk4 hx4 hs4
    simp only [↓vsd, vsn, gW, qd, qv, ev, pick, argE, zipE, ne_eq, eq_self, forall_const, implies_true, if_true, if_false, reduceIte, reduceCtorEq, Nat.reduceEqDiff, Nat.reduceAdd, Nat.reduceLT, ↓us_ipowers, r_ipowers]
    refine m_app (ho3.ext hx4) (Sq.one fS_len hblk4 rfl) fS_one (by decide) (by rw [hl3]; simp only [List.length_singleton]; omega) (by decide) ((hx3.trans hx4).size) ?_
    rintro v5 w5 ho5 hg5
    have hx5 := (ho3.ext hx4).grown (hx3.trans hx4) (Nat.le_refl _) hg5
    simp only [↓vsd, vsn, gW, qd, qv, ev, pick, argE, zipE, ne_eq, eq_self, forall_const, implies_true, if_true, if_false, reduceIte, reduceCtorEq, Nat.reduceEqDiff, Nat.reduceAdd, Nat.reduceLT, ↓us_ipowers, r_ipowers]
    refine m_call (itimes_ok _ _ ha (powL_len _ _) _) ?_
    rintro _ w6 hx6 rfl
    simp only [↓vsd, vsn, gW, qd, qv, ev, pick, argE, zipE, ne_eq, eq_self, forall_const, implies_true, if_true, if_false, reduceIte, reduceCtorEq, Nat.reduceEqDiff, Nat.reduceAdd, Nat.reduceLT, ↓us_ipowers, r_ipowers]
    have hlt : k < n - 1 := by
      rcases Nat.lt_or_ge k (n - 1) with h | h
      · exact h
      · exact absurd (by rw [show k + 1 = n by omega]; exact ho.2.2.1) hne
    exact UpTo.next hlt ⟨v5, rfl, (ho5.to (by rw [List.range_succ (n := k + 1), List.map_append]; rfl)).ext hx6, hx5.trans hx6⟩
  · have : k + 1 = n := by
      rcases Nat.lt_or_ge (k + 1) n with h | h
      · exact absurd he (ho.2.2.2 (k + 1) (by omega) h)
      · omega
    rw [← this]; exact ho3
theorem sl1Order_ok (a : List UInt8) (n : Nat) (ha : IsRow a) (ho : IsOrd a n) (w : World) : Fn 223 [S a] w (fun r _ => r = .int .i64 (n : Nat)) := by
  (refine callsV_of mix Try.func223 c_sl1Order ?_; simp only [↓vsd, vsn, gW, qd, qv, ev, pick, argE, zipE, ne_eq, eq_self, forall_const, implies_true, if_true, if_false, reduceIte, reduceCtorEq, Nat.reduceEqDiff, Nat.reduceAdd, Nat.reduceLT, ↓us_sl1Order, r_sl1Order])
  have h8 := ha.1
  have hp1 : powL a 1 = a := by show timesL (roundsL a.length) a = a; exact rounds_times ha
  refine m_upto (n - 1) (fun k vs w' => vs = [.int .i64 (k + 1 : Nat), S (powL a (k + 1))] ∧ Ext w w') ⟨by rw [hp1]; rfl, Ext.refl _⟩ ?_
  rintro k vs w1 hk ⟨rfl, hx⟩
  simp only [↓vsd, vsn, gW, qd, qv, ev, pick, argE, zipE, ne_eq, eq_self, forall_const, implies_true, if_true, if_false, reduceIte, reduceCtorEq, Nat.reduceEqDiff, Nat.reduceAdd, Nat.reduceLT, ↓us_sl1Order, r_sl1Order]
  refine m_call (sl1Rounds_ok a.length (by omega) _) ?_
  rintro _ w2 hx2 rfl
  simp only [↓vsd, vsn, gW, qd, qv, ev, pick, argE, zipE, ne_eq, eq_self, forall_const, implies_true, if_true, if_false, reduceIte, reduceCtorEq, Nat.reduceEqDiff, Nat.reduceAdd, Nat.reduceLT, ↓us_sl1Order, r_sl1Order]
  have hin := ho.2.1
  refine ⟨fun hne => ⟨inR_i64 (by omega), m_call (sl1Times_ok _ _ ha (powL_len _ _) _) ?_⟩, fun he => ⟨hx.trans hx2, ?_⟩⟩
  · rintro _ w3 hx3 rfl
    simp only [↓vsd, vsn, gW, qd, qv, ev, pick, argE, zipE, ne_eq, eq_self, forall_const, implies_true, if_true, if_false, reduceIte, reduceCtorEq, Nat.reduceEqDiff, Nat.reduceAdd, Nat.reduceLT, ↓us_sl1Order, r_sl1Order]
    have hlt : k < n - 1 := by
      rcases Nat.lt_or_ge k (n - 1) with h | h
      · exact h
      · exact absurd (by rw [show k + 1 = n by have := ho.1; omega]; exact ho.2.2.1) hne
    exact UpTo.next hlt ⟨rfl, (hx.trans hx2).trans hx3⟩
  · have : k + 1 = n := by
      rcases Nat.lt_or_ge (k + 1) n with h | h
      · exact absurd he (ho.2.2.2 (k + 1) (by omega) h)
      · have := ho.1; omega
    rw [this]
def evenV (a : List UInt8) : Value := if IsRow a then .tuple ⟨[.bool (evB (invL a)), .bool true]⟩ else .tuple ⟨[.bool false, .bool false]⟩
def ordV (a : List UInt8) (n : Nat) : Value := if IsRow a then .tuple ⟨[.int .i64 (n : Nat), .bool true]⟩ else .tuple ⟨[.int .i64 0, .bool false]⟩
theorem iOrderOf_ok (a : List UInt8) (n : Nat) (ho : IsRow a → IsOrd a n) (w : World) : Fn 111 [S a] w (fun r _ => r = ordV a n) := by
  (refine callsV_of mix Try.func111 c_iOrderOf ?_; simp only [↓vsd, vsn, gW, qd, qv, ev, pick, argE, zipE, ne_eq, eq_self, forall_const, implies_true, if_true, if_false, reduceIte, reduceCtorEq, Nat.reduceEqDiff, Nat.reduceAdd, Nat.reduceLT, ↓us_iOrderOf, r_iOrderOf])
  refine m_call (iGoodRow_ok _ _) ?_
  rintro _ w1 hx1 rfl
  by_cases h : IsRow a
  · simp only [↓vsd, vsn, gW, qd, qv, ev, pick, argE, zipE, ne_eq, eq_self, forall_const, implies_true, if_true, if_false, reduceIte, reduceCtorEq, Nat.reduceEqDiff, Nat.reduceAdd, Nat.reduceLT, ↓us_iOrderOf, r_iOrderOf, h]
    refine m_call (ipowers_ok a n h (ho h) _) ?_
    rintro v w2 hx2 ho2
    simp only [↓vsd, vsn, gW, qd, qv, ev, pick, argE, zipE, ne_eq, eq_self, forall_const, implies_true, if_true, if_false, reduceIte, reduceCtorEq, Nat.reduceEqDiff, Nat.reduceAdd, Nat.reduceLT, ↓us_iOrderOf, r_iOrderOf, ho2.sq.facts]
    exact ⟨hx1.trans hx2, by rw [ordV, if_pos h, List.length_map, List.length_range]⟩
  · simp only [↓vsd, vsn, gW, qd, qv, ev, pick, argE, zipE, ne_eq, eq_self, forall_const, implies_true, if_true, if_false, reduceIte, reduceCtorEq, Nat.reduceEqDiff, Nat.reduceAdd, Nat.reduceLT, ↓us_iOrderOf, r_iOrderOf, h]
    exact ⟨hx1, by rw [ordV, if_neg h]⟩
theorem sOrderOf_ok (a : List UInt8) (n : Nat) (ho : IsRow a → IsOrd a n) (w : World) : Fn 100 [S a] w (fun r _ => r = ordV a n) := by
  (refine callsV_of mix Try.func100 c_sOrderOf ?_; simp only [↓vsd, vsn, gW, qd, qv, ev, pick, argE, zipE, ne_eq, eq_self, forall_const, implies_true, if_true, if_false, reduceIte, reduceCtorEq, Nat.reduceEqDiff, Nat.reduceAdd, Nat.reduceLT, ↓us_sOrderOf, r_sOrderOf])
  refine m_call (sl1Row_ok _ _) ?_
  rintro _ w1 hx1 rfl
  by_cases h : IsRow a
  · simp only [↓vsd, vsn, gW, qd, qv, ev, pick, argE, zipE, ne_eq, eq_self, forall_const, implies_true, if_true, if_false, reduceIte, reduceCtorEq, Nat.reduceEqDiff, Nat.reduceAdd, Nat.reduceLT, ↓us_sOrderOf, r_sOrderOf, h]
    refine m_call (sl1Order_ok a n h (ho h) _) ?_
    rintro _ w2 hx2 rfl
    simp only [↓vsd, vsn, gW, qd, qv, ev, pick, argE, zipE, ne_eq, eq_self, forall_const, implies_true, if_true, if_false, reduceIte, reduceCtorEq, Nat.reduceEqDiff, Nat.reduceAdd, Nat.reduceLT, ↓us_sOrderOf, r_sOrderOf]
    exact ⟨hx1.trans hx2, by rw [ordV, if_pos h]⟩
  · simp only [↓vsd, vsn, gW, qd, qv, ev, pick, argE, zipE, ne_eq, eq_self, forall_const, implies_true, if_true, if_false, reduceIte, reduceCtorEq, Nat.reduceEqDiff, Nat.reduceAdd, Nat.reduceLT, ↓us_sOrderOf, r_sOrderOf, h]
    exact ⟨hx1, by rw [ordV, if_neg h]⟩
end Go.Proofs.Ytnincmnkdjlndaa
