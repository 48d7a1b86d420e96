/-
  Orders, signs and powers of rows, as program and reference compute them.
  Conditions: none.
-/
import Derived.Test.YtnhealghpfjdcaaD3
import Derived.Test.YtnhealghpfjdcaaPh
set_option linter.unusedSimpArgs false
set_option linter.unusedVariables false
set_option linter.defProp false
namespace Go.Proofs.Ytnhealghpfjdcaa
open Go Go.RowKit
section
variable (P : Program) (k : KT) (e : Env) (w : World)
abbrev b178_1 : X := (.cond (.t 14) .skip (.exit 0))
def t178_1 := b178_1
theorem u178_1 : vcK P t178_1 k e w = vcK P b178_1 k e w := rfl
abbrev b178_2 : X := (.reg [0, 3, 4] (.c (.q 15 [] (.mv (.t 4))) (.c (.q 16 [] (.mv (.t 0))) (.c (.e (some 17) [] (.call false 75 [(.t 15), (.t 16)])) (.c (.q 4 [] (.mv (.t 17))) .nil)))))
def t178_2 := b178_2
theorem u178_2 : vcK P t178_2 k e w = vcK P b178_2 k e w := rfl
abbrev b178_3 : X := (.seq (.blk 1 (.reg [0, 3, 4] (.c (.q 18 [] (.mv (.t 3))) (.c (.q 19 [] (.mv (.t 4))) (.c (.e (some 20) [] (.bsl 9 1 [(.t 19)])) (.c (.e (some 21) [] (.app 22 9 1 16 [(S [])] 22 (.t 18) (.t 20))) (.c (.q 3 [] (.mv (.t 21))) .nil))))))) t178_2)
def t178_3 := b178_3
theorem u178_3 : vcK P t178_3 k e w = vcK P b178_3 k e w := rfl
abbrev b178_4 : X := (.seq (.seq (.reg [0, 3, 4, 14] (.c (.q 10 [] (.mv (.t 4))) (.c (.q 11 [] (.mv (.t 3))) (.c (.q 12 [] (.ia 1 (.t 11) (.c (.int .i64 0)))) (.c (.q 13 [] (.ld (.t 12))) (.c (.q 14 [] (.bin .neq (.t 10) (.t 13))) .nil)))))) t178_1) t178_3)
def t178_4 := b178_4
theorem u178_4 : vcK P t178_4 k e w = vcK P b178_4 k e w := rfl
abbrev b178_5 : X := (.blk 0 (.loop [3, 4] [0] t178_4))
def t178_5 := b178_5
theorem u178_5 : vcK P t178_5 k e w = vcK P b178_5 k e w := rfl
abbrev b178_6 : X := (.seq (.reg [2] (.c (.q 22 [] (.mv (.t 3))) (.c (.q 2 [] (.mv (.t 22))) .nil))) .ret)
def t178_6 := b178_6
theorem u178_6 : vcK P t178_6 k e w = vcK P b178_6 k e w := rfl
abbrev b178_7 : X := (.seq (.seq (.reg [0, 3, 4] (.c (.q 9 [] (.mv (.t 0))) (.c (.q 4 [] (.mv (.t 9))) .nil))) t178_5) t178_6)
def t178_7 := b178_7
theorem u178_7 : vcK P t178_7 k e w = vcK P b178_7 k e w := rfl
abbrev b178_8 : X := (.seq (.reg [0, 3] (.c (.q 5 [] (.mv (.t 0))) (.c (.q 6 [] (.len (.t 5))) (.c (.e (some 7) [] (.call false 111 [(.t 6)])) (.c (.e (some 8) [] (.bsl 9 1 [(.t 7)])) (.c (.q 3 [] (.mv (.t 8))) .nil)))))) t178_7)
def t178_8 := b178_8
theorem u178_8 : vcK P t178_8 k e w = vcK P b178_8 k e w := rfl
abbrev b178_0 : X := (.seq (.reg [0] (.c (.q 2 [] (.mv (.c (.slice none 0 0)))) .nil)) t178_8)
def x_ipowers := b178_0
theorem u178_0 : vcK P x_ipowers k e w = vcK P b178_0 k e w := rfl
def r_ipowers : List XO := [(.mv (.t 2))]
theorem c_ipowers : convF Try.prog [89, 116, 117, 121, 143, 161, 162, 163, 166, 168, 234] Try.f178 [([0], []), ([0, 3], []), ([0, 3, 4], []), ([3, 4], [0]), ([0, 3, 4, 14], []), ([0, 3, 4], []), ([0, 3, 4], []), ([2], [])] = some (x_ipowers, r_ipowers) := by kernel_rfl
def us_ipowers := aI @u178_0 (aI @u178_1 (aI @u178_2 (aI @u178_3 (aI @u178_4 (aI @u178_5 (aI @u178_6 (aI @u178_7 @u178_8)))))))
end

theorem inv_snoc (l : List UInt8) (y : UInt8) : invL (l ++ [y]) = invL l + (l.filter fun x => decide (y.toNat < x.toNat)).length := by
  induction l with
  | nil => simp [invL]
  | cons x l ih =>
    simp only [List.cons_append, invL, ih, List.filter_append, List.length_append, List.filter_cons, List.filter_nil]
    split <;> simp <;> omega
/-- Even so far: i bells, of the next one k comparisons. -/
def evN (a : List UInt8) (i k : Nat) : Nat := invL (a.take i) + ((a.take k).filter fun x => decide ((a.getD i 0).toNat < x.toNat)).length
theorem evN_step (a : List UInt8) (i k : Nat) (hk : k < a.length) : evN a i (k + 1) = evN a i k + if (a.getD i 0).toNat < (a.getD k 0).toNat then 1 else 0 := by
  unfold evN
  rw [List.take_add_one, List.getElem?_eq_getElem hk, List.filter_append, List.length_append, List.getD_eq_getElem?_getD, List.getD_eq_getElem?_getD, List.getElem?_eq_getElem hk]
  simp only [Option.toList_some, Option.getD_some, List.filter_cons, List.filter_nil, decide_eq_true_eq]
  split <;> simp <;> omega
theorem evN_next (a : List UInt8) (i : Nat) (hi : i < a.length) : evN a i i = invL (a.take (i + 1)) := by
  have e : a.take (i + 1) = a.take i ++ [a.getD i 0] := by
    rw [List.take_add_one, List.getElem?_eq_getElem hi, List.getD_eq_getElem?_getD, List.getElem?_eq_getElem hi]; rfl
  rw [e, inv_snoc]; rfl
def evB (n : Nat) : Bool := decide (n % 2 = 0)
theorem evB_not (n : Nat) : evB (n + 1) = !evB n := by
  unfold evB
  rw [← decide_not]
  exact decide_eq_decide.2 (by omega)
theorem Own.one1 {α : Type} {f : α → List Value} {z E B : Nat} {w : World} {a : α} {b : Nat} {cs : List Value} (hz : ∀ a, (f a).length = z) (hb : Blk w b cs E) (e : cs = f a) (hB : B ≤ b) : Own f z E B w (.slice (some ⟨b, 0, none⟩) 1 1) [a] :=
  ⟨hz, .inr ⟨b, 1, cs, rfl, hB, hb, Nat.le_refl _, by decide, by rw [e, hz, Nat.one_mul], by rw [e]; simp only [List.length_singleton, Nat.one_mul, List.flatMap_cons, List.flatMap_nil, List.append_nil]; rw [← hz a, List.take_length]⟩⟩
theorem ipowers_ok (a : List UInt8) (n : Nat) (ha : IsRow a) (ho : IsOrd a n) (w : World) : Fn 178 [S a] w (fun r w' => Own fS 1 9 w.heap.size w' r ((List.range n).map (powL a))) := by
  (refine callsV_of mix Try.func178 c_ipowers ?_; simp only [↓vsd, vsn, gW, qd, qv, ev, pick, argE, zipE, ne_eq, eq_self, forall_const, implies_true, if_true, if_false, reduceIte, reduceCtorEq, Nat.reduceEqDiff, Nat.reduceAdd, Nat.reduceLT, ↓us_ipowers, r_ipowers])
  refine m_call (irounds_ok a.length (by have := ha.1; omega) _) ?_
  rintro _ w1 hx1 rfl
  simp only [↓vsd, vsn, gW, qd, qv, ev, pick, argE, zipE, ne_eq, eq_self, forall_const, implies_true, if_true, if_false, reduceIte, reduceCtorEq, Nat.reduceEqDiff, Nat.reduceAdd, Nat.reduceLT, ↓us_ipowers, r_ipowers]
  refine m_bsl (one_el rfl) ?_
  rintro b w2 hb hblk hx2 hs2
  simp only [↓vsd, vsn, gW, qd, qv, ev, pick, argE, zipE, ne_eq, eq_self, forall_const, implies_true, if_true, if_false, reduceIte, reduceCtorEq, Nat.reduceEqDiff, Nat.reduceAdd, Nat.reduceLT, ↓us_ipowers, r_ipowers]
  have h8 := ha.1
  have hp1 : powL a 1 = a := by show timesL (roundsL a.length) a = a; exact rounds_times ha
  have hx12 := hx1.trans hx2
  have hin : 0 < n := ho.1
  refine m_upto (n - 1) (fun k vs w' => ∃ v, vs = [v, S (powL a (k + 1))] ∧ Own fS 1 9 w.heap.size w' v ((List.range (k + 1)).map (powL a)) ∧ Ext w w') ⟨_, by rw [hp1], (Own.one1 fS_len hblk rfl (by have := hx1.size; omega)).to rfl, hx12⟩ ?_
  rintro k vs w3 hk ⟨v, rfl, ho3, hx3⟩
  have h0 : 0 < ((List.range (k + 1)).map (powL a)).length := by simp
  have hg0 : ((List.range (k + 1)).map (powL a)).getD 0 [] = roundsL a.length := by
    rw [List.getD_eq_getElem?_getD, List.getElem?_map, List.getElem?_range (by omega)]; rfl
  simp only [↓vsd, vsn, gW, qd, qv, ev, pick, argE, zipE, ne_eq, eq_self, forall_const, implies_true, if_true, if_false, reduceIte, reduceCtorEq, Nat.reduceEqDiff, Nat.reduceAdd, Nat.reduceLT, ↓us_ipowers, r_ipowers, ho3.sq.facts, ho3.sq.at0 [] h0, hg0]
  have hin2 := ho.2.1
  have hl3 : ((List.range (k + 1)).map (powL a)).length = k + 1 := by simp
  refine ⟨by omega, fun hne => m_bsl (one_el rfl) ?_, fun he => ⟨hx3, ?_⟩⟩
  · rintro b4 w4 hb4 hblk4 hx4 hs4
    simp only [↓vsd, vsn, gW, qd, qv, ev, pick, argE, zipE, ne_eq, eq_self, forall_const, implies_true, if_true, if_false, reduceIte, reduceCtorEq, Nat.reduceEqDiff, Nat.reduceAdd, Nat.reduceLT, ↓us_ipowers, r_ipowers]
    refine m_app (ho3.ext hx4) (Sq.one fS_len hblk4 rfl) fS_one (by decide) (by rw [hl3]; simp only [List.length_singleton]; omega) (by decide) ((hx3.trans hx4).size) ?_
    rintro v5 w5 ho5 hg5
    have hx5 := (ho3.ext hx4).grown (hx3.trans hx4) (Nat.le_refl _) hg5
    simp only [↓vsd, vsn, gW, qd, qv, ev, pick, argE, zipE, ne_eq, eq_self, forall_const, implies_true, if_true, if_false, reduceIte, reduceCtorEq, Nat.reduceEqDiff, Nat.reduceAdd, Nat.reduceLT, ↓us_ipowers, r_ipowers]
    refine m_call (itimes_ok _ _ ha (powL_len _ _) _) ?_
    rintro _ w6 hx6 rfl
    simp only [↓vsd, vsn, gW, qd, qv, ev, pick, argE, zipE, ne_eq, eq_self, forall_const, implies_true, if_true, if_false, reduceIte, reduceCtorEq, Nat.reduceEqDiff, Nat.reduceAdd, Nat.reduceLT, ↓us_ipowers, r_ipowers]
    have hlt : k < n - 1 := by
      rcases Nat.lt_or_ge k (n - 1) with h | h
      · exact h
      · exact absurd (by rw [show k + 1 = n by omega]; exact ho.2.2.1) hne
    exact UpTo.next hlt ⟨v5, rfl, (ho5.to (by rw [List.range_succ (n := k + 1), List.map_append]; rfl)).ext hx6, hx5.trans hx6⟩
  · have : k + 1 = n := by
      rcases Nat.lt_or_ge (k + 1) n with h | h
      · exact absurd he (ho.2.2.2 (k + 1) (by omega) h)
      · omega
    rw [← this]; exact ho3
def evenV (a : List UInt8) : Value := if IsRow a then .tuple ⟨[.bool (evB (invL a)), .bool true]⟩ else .tuple ⟨[.bool false, .bool false]⟩
def ordV (a : List UInt8) (n : Nat) : Value := if IsRow a then .tuple ⟨[.int .i64 (n : Nat), .bool true]⟩ else .tuple ⟨[.int .i64 0, .bool false]⟩
end Go.Proofs.Ytnhealghpfjdcaa
