/-
  Mirrored lists, halves, printed texts, of both sides.
  Conditions: none.
-/
import Derived.Test.YtfklonhjgkahdaaA94
set_option linter.unusedSimpArgs false
set_option linter.unusedVariables false
set_option linter.defProp false
namespace Go.Proofs.Ytfklonhjgkahdaa
open Go Go.RowKit
theorem mir_snoc {l : List Bs} {j : Nat} (h : j + 2 ≤ l.length) : l ++ (l.dropLast.reverse).take (j + 1) = (l ++ (l.dropLast.reverse).take j) ++ [l.getD (l.length - 2 - j) []] := by
  have hd : l.dropLast.length = l.length - 1 := List.length_dropLast
  have hj : j < l.dropLast.reverse.length := by rw [List.length_reverse, hd]; omega
  rw [List.append_assoc, List.take_succ_eq_append_getElem hj, List.getElem_reverse, List.getElem_dropLast]
  have : l.dropLast.length - 1 - j = l.length - 2 - j := by omega
  simp only [this]
  rw [List.getD_eq_getElem?_getD, List.getElem?_eq_getElem (by omega)]
  rfl
theorem mir_all (l : List Bs) : l ++ (l.dropLast.reverse).take (l.length - 1) = mirL l := by
  rw [List.take_of_length_le (by rw [List.length_reverse, List.length_dropLast]; omega)]; rfl
theorem mir_len (l : List Bs) (j : Nat) (h : j ≤ l.length - 1) : (l ++ (l.dropLast.reverse).take j).length = l.length + j := by
  rw [List.length_append, List.length_take, List.length_reverse, List.length_dropLast]; omega
theorem imirrored_ok (v : Value) (l : List Bs) (hl : l.length ≤ 1000) (w : World) (h : Sq fS 1 w v l) : Fn 37 [v] w (fun r w' => Own fS 1 9 w.heap.size w' r (mirL l)) := by
  (refine callsV_of mix Try.func37 c_imirrored ?_; simp only [↓vsd, vsn, gW, qd, qv, ev, pick, argE, zipE, ne_eq, eq_self, forall_const, implies_true, if_true, if_false, reduceIte, reduceCtorEq, Nat.reduceEqDiff, Nat.reduceAdd, Nat.reduceLT, ↓us_imirrored, r_imirrored])
  refine m_call (xslices_Clone_string_string_ok v l (by omega) _ h) ?_
  rintro a w1 hx1 ho1
  simp only [↓vsd, vsn, gW, qd, qv, ev, pick, argE, zipE, ne_eq, eq_self, forall_const, implies_true, if_true, if_false, reduceIte, reduceCtorEq, Nat.reduceEqDiff, Nat.reduceAdd, Nat.reduceLT, ↓us_imirrored, r_imirrored, h.facts]
  refine ⟨inR_i64 (by omega), ?_⟩
  refine m_upto (l.length - 1) (fun j vs w' => ∃ x, vs = [x, .int .i64 ((l.length : Int) - 2 - (j : Nat))] ∧ Own fS 1 9 w.heap.size w' x (l ++ (l.dropLast.reverse).take j) ∧ Ext w w') ⟨a, by simp, ho1.to (by simp), hx1⟩ ?_
  rintro j vs w2 hj ⟨x, rfl, ho, hx⟩
  have hq := h.ext hx
  by_cases hlt : j + 2 ≤ l.length
  · obtain ⟨i, hi⟩ : ∃ i : Nat, (l.length : Int) - 2 - j = i := ⟨l.length - 2 - j, by omega⟩
    have hin : l.length - 2 - j = i := by omega
    have hiA : i < l.length := by omega
    have hiI : (0 : Int) ≤ i := by omega
    have hiJ : ¬ (i : Int) < 0 := by omega
    have hlen := mir_len l j (by omega)
    rw [hi]
    simp only [↓vsd, vsn, gW, qd, qv, ev, pick, argE, zipE, ne_eq, eq_self, forall_const, implies_true, if_true, if_false, reduceIte, reduceCtorEq, Nat.reduceEqDiff, Nat.reduceAdd, Nat.reduceLT, ↓us_imirrored, r_imirrored, hiI, hiJ, hq.facts, hq.at1 [] hiA]
    refine ⟨by omega, ?_⟩
    refine m_bsl (one_el rfl) ?_
    rintro b3 w3 hb3 hblk3 hx3 hs3
    simp only [↓vsd, vsn, gW, qd, qv, ev, pick, argE, zipE, ne_eq, eq_self, forall_const, implies_true, if_true, if_false, reduceIte, reduceCtorEq, Nat.reduceEqDiff, Nat.reduceAdd, Nat.reduceLT, ↓us_imirrored, r_imirrored]
    refine m_app (ho.ext hx3) (Sq.one fS_len hblk3 rfl) fS_one (by decide) (by rw [hlen]; simp; omega) (by decide) ((hx.trans hx3).size) ?_
    rintro x4 w4 ho4 hg4
    simp only [↓vsd, vsn, gW, qd, qv, ev, pick, argE, zipE, ne_eq, eq_self, forall_const, implies_true, if_true, if_false, reduceIte, reduceCtorEq, Nat.reduceEqDiff, Nat.reduceAdd, Nat.reduceLT, ↓us_imirrored, r_imirrored]
    exact ⟨inR_i64 (by omega), UpTo.next (by omega) ⟨x4, by rw [← hi]; congr 3; omega, ho4.to (by rw [mir_snoc hlt, hin]), (ho.ext hx3).grown (hx.trans hx3) (Nat.le_refl _) hg4⟩⟩
  · have hiI : ¬ (0 : Int) ≤ (l.length : Int) - 2 - j := by omega
    have hiJ : (l.length : Int) - 2 - j < 0 := by omega
    simp only [↓vsd, vsn, gW, qd, qv, ev, pick, argE, zipE, ne_eq, eq_self, forall_const, implies_true, if_true, if_false, reduceIte, reduceCtorEq, Nat.reduceEqDiff, Nat.reduceAdd, Nat.reduceLT, ↓us_imirrored, r_imirrored, hiI, hiJ]
    exact ⟨hx, ho.to (by rw [show j = l.length - 1 by omega]; exact mir_all l)⟩
theorem sl3Mirror_ok (v : Value) (l : List Bs) (hl : l.length ≤ 1000) (w : World) (h : Sq fS 1 w v l) : Fn 40 [v] w (fun r w' => Own fS 1 9 w.heap.size w' r (mirL l)) := by
  (refine callsV_of mix Try.func40 c_sl3Mirror ?_; simp only [↓vsd, vsn, gW, qd, qv, ev, pick, argE, zipE, ne_eq, eq_self, forall_const, implies_true, if_true, if_false, reduceIte, reduceCtorEq, Nat.reduceEqDiff, Nat.reduceAdd, Nat.reduceLT, ↓us_sl3Mirror, r_sl3Mirror])
  refine m_call (sl1OwnS_ok v l (by omega) _ h) ?_
  rintro a w1 hx1 ho1
  simp only [↓vsd, vsn, gW, qd, qv, ev, pick, argE, zipE, ne_eq, eq_self, forall_const, implies_true, if_true, if_false, reduceIte, reduceCtorEq, Nat.reduceEqDiff, Nat.reduceAdd, Nat.reduceLT, ↓us_sl3Mirror, r_sl3Mirror, h.facts]
  refine ⟨inR_i64 (by omega), ?_⟩
  refine m_upto (l.length - 1) (fun j vs w' => ∃ x, vs = [x, .int .i64 ((l.length : Int) - 2 - (j : Nat))] ∧ Own fS 1 9 w.heap.size w' x (l ++ (l.dropLast.reverse).take j) ∧ Ext w w') ⟨a, by simp, ho1.to (by simp), hx1⟩ ?_
  rintro j vs w2 hj ⟨x, rfl, ho, hx⟩
  have hq := h.ext hx
  by_cases hlt : j + 2 ≤ l.length
  · obtain ⟨i, hi⟩ : ∃ i : Nat, (l.length : Int) - 2 - j = i := ⟨l.length - 2 - j, by omega⟩
    have hin : l.length - 2 - j = i := by omega
    have hiA : i < l.length := by omega
    have hiI : (0 : Int) ≤ i := by omega
    have hiJ : ¬ (i : Int) < 0 := by omega
    have hlen := mir_len l j (by omega)
    rw [hi]
    simp only [↓vsd, vsn, gW, qd, qv, ev, pick, argE, zipE, ne_eq, eq_self, forall_const, implies_true, if_true, if_false, reduceIte, reduceCtorEq, Nat.reduceEqDiff, Nat.reduceAdd, Nat.reduceLT, ↓us_sl3Mirror, r_sl3Mirror, hiI, hiJ, hq.facts, hq.at1 [] hiA]
    refine ⟨by omega, ?_⟩
    refine m_bsl (one_el rfl) ?_
    rintro b3 w3 hb3 hblk3 hx3 hs3
    simp only [↓vsd, vsn, gW, qd, qv, ev, pick, argE, zipE, ne_eq, eq_self, forall_const, implies_true, if_true, if_false, reduceIte, reduceCtorEq, Nat.reduceEqDiff, Nat.reduceAdd, Nat.reduceLT, ↓us_sl3Mirror, r_sl3Mirror]
    refine m_app (ho.ext hx3) (Sq.one fS_len hblk3 rfl) fS_one (by decide) (by rw [hlen]; simp; omega) (by decide) ((hx.trans hx3).size) ?_
    rintro x4 w4 ho4 hg4
    simp only [↓vsd, vsn, gW, qd, qv, ev, pick, argE, zipE, ne_eq, eq_self, forall_const, implies_true, if_true, if_false, reduceIte, reduceCtorEq, Nat.reduceEqDiff, Nat.reduceAdd, Nat.reduceLT, ↓us_sl3Mirror, r_sl3Mirror]
    exact ⟨inR_i64 (by omega), UpTo.next (by omega) ⟨x4, by rw [← hi]; congr 3; omega, ho4.to (by rw [mir_snoc hlt, hin]), (ho.ext hx3).grown (hx.trans hx3) (Nat.le_refl _) hg4⟩⟩
  · have hiI : ¬ (0 : Int) ≤ (l.length : Int) - 2 - j := by omega
    have hiJ : (l.length : Int) - 2 - j < 0 := by omega
    simp only [↓vsd, vsn, gW, qd, qv, ev, pick, argE, zipE, ne_eq, eq_self, forall_const, implies_true, if_true, if_false, reduceIte, reduceCtorEq, Nat.reduceEqDiff, Nat.reduceAdd, Nat.reduceLT, ↓us_sl3Mirror, r_sl3Mirror, hiI, hiJ]
    exact ⟨hx, ho.to (by rw [show j = l.length - 1 by omega]; exact mir_all l)⟩
/-- The answer of the mirrored list: nothing where it is too long. -/
def MirR (w w' : World) (l : List Bs) (r : Value) : Prop :=
  (2 * l.length ≤ 41 → ∃ x, r = .tuple ⟨[x, .bool true]⟩ ∧ Own fS 1 9 w.heap.size w' x (mirL l)) ∧ (¬ 2 * l.length ≤ 41 → r = .tuple ⟨[.slice none 0 0, .bool false]⟩)
theorem iMirrorAll_ok (v : Value) (l : List Bs) (hl : l.length ≤ 1000) (w : World) (h : Sq fS 1 w v l) : Fn 11 [v] w (fun r w' => MirR w w' l r) := by
  (refine callsV_of mix Try.func11 c_iMirrorAll ?_; simp only [↓vsd, vsn, gW, qd, qv, ev, pick, argE, zipE, ne_eq, eq_self, forall_const, implies_true, if_true, if_false, reduceIte, reduceCtorEq, Nat.reduceEqDiff, Nat.reduceAdd, Nat.reduceLT, ↓us_iMirrorAll, r_iMirrorAll])
  simp only [↓vsd, vsn, gW, qd, qv, ev, pick, argE, zipE, ne_eq, eq_self, forall_const, implies_true, if_true, if_false, reduceIte, reduceCtorEq, Nat.reduceEqDiff, Nat.reduceAdd, Nat.reduceLT, ↓us_iMirrorAll, r_iMirrorAll, h.facts]
  refine ⟨fun _ => inR_i64 (by omega), fun _ => inR_i64 (by omega), fun hbad => ⟨Ext.refl _, fun hh => by omega, fun _ => rfl⟩, fun hg => m_call (imirrored_ok v l hl _ h) ?_⟩
  rintro x w1 hx1 ho1
  simp only [↓vsd, vsn, gW, qd, qv, ev, pick, argE, zipE, ne_eq, eq_self, forall_const, implies_true, if_true, if_false, reduceIte, reduceCtorEq, Nat.reduceEqDiff, Nat.reduceAdd, Nat.reduceLT, ↓us_iMirrorAll, r_iMirrorAll]
  exact ⟨hx1, fun _ => ⟨x, rfl, ho1⟩, fun hh => by omega⟩
theorem sMirrorAll_ok (v : Value) (l : List Bs) (hl : l.length ≤ 1000) (w : World) (h : Sq fS 1 w v l) : Fn 13 [v] w (fun r w' => MirR w w' l r) := by
  (refine callsV_of mix Try.func13 c_sMirrorAll ?_; simp only [↓vsd, vsn, gW, qd, qv, ev, pick, argE, zipE, ne_eq, eq_self, forall_const, implies_true, if_true, if_false, reduceIte, reduceCtorEq, Nat.reduceEqDiff, Nat.reduceAdd, Nat.reduceLT, ↓us_sMirrorAll, r_sMirrorAll])
  by_cases h40 : l.length ≤ 40
  · have hI : ¬ (40 : Int) < l.length := by omega
    simp only [↓vsd, vsn, gW, qd, qv, ev, pick, argE, zipE, ne_eq, eq_self, forall_const, implies_true, if_true, if_false, reduceIte, reduceCtorEq, Nat.reduceEqDiff, Nat.reduceAdd, Nat.reduceLT, ↓us_sMirrorAll, r_sMirrorAll, h.facts, hI]
    refine m_call (sl3Mirror_ok v l hl _ h) ?_
    rintro x w1 hx1 ho1
    simp only [↓vsd, vsn, gW, qd, qv, ev, pick, argE, zipE, ne_eq, eq_self, forall_const, implies_true, if_true, if_false, reduceIte, reduceCtorEq, Nat.reduceEqDiff, Nat.reduceAdd, Nat.reduceLT, ↓us_sMirrorAll, r_sMirrorAll, ho1.sq.facts]
    rw [mirL_len]
    refine ⟨fun hbad => ⟨hx1, fun hh => by omega, fun _ => rfl⟩, fun hg => m_call (sl3Mirror_ok v l hl _ (h.ext hx1)) ?_⟩
    rintro y w2 hx2 ho2
    simp only [↓vsd, vsn, gW, qd, qv, ev, pick, argE, zipE, ne_eq, eq_self, forall_const, implies_true, if_true, if_false, reduceIte, reduceCtorEq, Nat.reduceEqDiff, Nat.reduceAdd, Nat.reduceLT, ↓us_sMirrorAll, r_sMirrorAll]
    exact ⟨hx1.trans hx2, fun _ => ⟨y, rfl, ho2.mono hx1.size⟩, fun hh => by omega⟩
  · have hI : (40 : Int) < l.length := by omega
    simp only [↓vsd, vsn, gW, qd, qv, ev, pick, argE, zipE, ne_eq, eq_self, forall_const, implies_true, if_true, if_false, reduceIte, reduceCtorEq, Nat.reduceEqDiff, Nat.reduceAdd, Nat.reduceLT, ↓us_sMirrorAll, r_sMirrorAll, h.facts, hI]
    exact ⟨Ext.refl _, fun hh => by omega, fun _ => rfl⟩
/-- A palindrome of odd length. -/
def OddPal (l : List Bs) : Prop := IsPal l ∧ l.length % 2 = 1
instance (l : List Bs) : Decidable (OddPal l) := by unfold OddPal; infer_instance
theorem sl3Same_ok (v : Value) (l : List Bs) (hl : l.length ≤ 1000) (w : World) (h : Sq fS 1 w v l) : Fn 77 [v] w (fun r _ => r = .bool (decide (OddPal l))) := by
  (refine callsV_of mix Try.func77 c_sl3Same ?_; simp only [↓vsd, vsn, gW, qd, qv, ev, pick, argE, zipE, ne_eq, eq_self, forall_const, implies_true, if_true, if_false, reduceIte, reduceCtorEq, Nat.reduceEqDiff, Nat.reduceAdd, Nat.reduceLT, ↓us_sl3Same, r_sl3Same])
  simp only [↓vsd, vsn, gW, qd, qv, ev, pick, argE, zipE, ne_eq, eq_self, forall_const, implies_true, if_true, if_false, reduceIte, reduceCtorEq, Nat.reduceEqDiff, Nat.reduceAdd, Nat.reduceLT, ↓us_sl3Same, r_sl3Same, h.facts]
  refine m_upto l.length (fun k vs w' => vs = [.int .i64 k] ∧ (∀ i < k, l.getD i [] = l.getD (l.length - 1 - i) []) ∧ Ext w w') ⟨rfl, fun i hi => absurd hi (Nat.not_lt_zero i), Ext.refl _⟩ ?_
  rintro k vs w1 hk ⟨rfl, hall, hx⟩
  have hq := h.ext hx
  by_cases hlt : k < l.length
  · have hltI : (k : Int) < l.length := by omega
    have hltJ : ¬ (l.length : Int) ≤ k := by omega
    obtain ⟨q, hqe⟩ : ∃ q : Nat, (l.length : Int) - 1 - k = q := ⟨l.length - 1 - k, by omega⟩
    have hqn : l.length - 1 - k = q := by omega
    have hqA : q < l.length := by omega
    simp only [↓vsd, vsn, gW, qd, qv, ev, pick, argE, zipE, ne_eq, eq_self, forall_const, implies_true, if_true, if_false, reduceIte, reduceCtorEq, Nat.reduceEqDiff, Nat.reduceAdd, Nat.reduceLT, ↓us_sl3Same, r_sl3Same, hltI, hltJ, hqe, hq.facts, hq.at1 [] hlt, hq.at1 [] hqA]
    refine ⟨by omega, inR_i64 (by omega), inR_i64 (by omega), by omega, fun hne => ⟨hx, ?_⟩, fun he => ⟨inR_i64 (by omega), UpTo.next hlt ⟨rfl, fun i hi => ?_, by first | exact hx | exact dr hx⟩⟩⟩
    · rw [decide_eq_false (fun hp : OddPal l => hne (by have := hp.1 k hlt; rwa [hqn] at this))]
    · rcases Nat.lt_succ_iff_lt_or_eq.1 hi with h' | rfl
      · exact hall i h'
      · rw [hqn]; exact he
  · obtain rfl : k = l.length := by omega
    have hltI : ¬ (l.length : Int) < l.length := by omega
    simp only [↓vsd, vsn, gW, qd, qv, ev, pick, argE, zipE, ne_eq, eq_self, forall_const, implies_true, if_true, if_false, reduceIte, reduceCtorEq, Nat.reduceEqDiff, Nat.reduceAdd, Nat.reduceLT, ↓us_sl3Same, r_sl3Same, hltI, hq.facts]
    refine ⟨by decide, hx, ?_⟩
    congr 1
    exact propext ⟨fun hh => ⟨hall, by omega⟩, fun hh => by have := hh.2; omega⟩
theorem tail_get {α : Type} (l : List α) (d : α) (k i : Nat) : (l.drop k).getD i d = l.getD (k + i) d := by
  rw [List.getD_eq_getElem?_getD, List.getD_eq_getElem?_getD, List.getElem?_drop]
/-- The answer of the halves. -/
def HalfR (w w' : World) (l : List Bs) (r : Value) : Prop :=
  (∀ a b, halvesL l = some (a, b) → ∃ x y, r = .tuple ⟨[x, y, .bool true]⟩ ∧ Own fS 1 9 w.heap.size w' x a ∧ Own fS 1 9 w.heap.size w' y b) ∧ (halvesL l = none → r = .tuple ⟨[.slice none 0 0, .slice none 0 0, .bool false]⟩)
theorem HalfR.none {w w' : World} {l : List Bs} (he : halvesL l = .none) : HalfR w w' l (.tuple ⟨[.slice .none 0 0, .slice .none 0 0, .bool false]⟩) := ⟨fun a b hh => (by rw [he] at hh; cases hh), fun _ => rfl⟩
theorem HalfR.some {w w' : World} {l a b : List Bs} {x y : Value} (he : halvesL l = .some (a, b)) (hx : Own fS 1 9 w.heap.size w' x a) (hy : Own fS 1 9 w.heap.size w' y b) : HalfR w w' l (.tuple ⟨[x, y, .bool true]⟩) :=
  ⟨fun a' b' hh => (by rw [he] at hh; cases hh; exact ⟨x, y, rfl, hx, hy⟩), fun hh => (by rw [he] at hh; cases hh)⟩
theorem Sq.mid {α : Type} {f : α → List Value} {z : Nat} {w : World} {v : Value} {l : List α} (h : Sq f z w v l) (k k' : IntKind) (a b : Nat) (hab : a ≤ b) (hb : b ≤ l.length) :
    sslD v (some (.int k a)) (some (.int k' b)) = True ∧ Sq f z w (sslV z v (some (.int k a)) (some (.int k' b))) ((l.take b).drop a) := by
  have h1 := (h.headS k' b hb).2
  have h2 := (h1.tail k a (by rw [List.length_take]; omega)).2
  rcases h.2.2 with ⟨rfl, h0⟩ | ⟨ad, c, rfl, hc, hx⟩
  · refine ⟨by simp only [sslD, isI, asI]; exact eq_true ⟨trivial, trivial, by omega, by omega, by omega⟩, ?_⟩
    simpa only [sslV, cutA, asI, Int.toNat_natCast, Option.map_some, Option.map_none, Nat.zero_mul, Addr.add_zero', ite_self] using h2
  · refine ⟨by simp only [sslD, isI, asI]; exact eq_true ⟨trivial, trivial, by omega, by omega, by omega⟩, ?_⟩
    simpa only [sslV, cutA, asI, Int.toNat_natCast, Option.map_some, Nat.zero_mul, Addr.add_zero', ite_self] using h2
theorem sl3Halves_ok (v : Value) (l : List Bs) (hl : l.length ≤ 1000) (w : World) (h : Sq fS 1 w v l) : Fn 36 [v] w (fun r w' => HalfR w w' l r) := by
  (refine callsV_of mix Try.func36 c_sl3Halves ?_; simp only [↓vsd, vsn, gW, qd, qv, ev, pick, argE, zipE, ne_eq, eq_self, forall_const, implies_true, if_true, if_false, reduceIte, reduceCtorEq, Nat.reduceEqDiff, Nat.reduceAdd, Nat.reduceLT, ↓us_sl3Halves, r_sl3Halves])
  refine m_upto (l.length - 1) (fun k vs w' => vs = [.int .i64 ((k + 1 : Nat))] ∧ halfG l (l.length - (k + 1)) (k + 1) = halvesL l ∧ Ext w w') ⟨rfl, rfl, Ext.refl _⟩ ?_
  rintro k vs w1 hk ⟨rfl, hg, hx⟩
  have hq := h.ext hx
  by_cases hlt : k + 1 < l.length
  · have hltI : ((k + 1 : Nat) : Int) < l.length := by omega
    have hltJ : ¬ (l.length : Int) ≤ (k + 1 : Nat) := by omega
    obtain ⟨c, hce⟩ : ∃ c : Nat, (l.length : Int) - (k + 1 : Nat) = c := ⟨l.length - (k + 1), by omega⟩
    have hcn : l.length - (k + 1) = c := by omega
    have hh := hq.headS .i64 c (by omega)
    have ht := hq.tail .i64 c (by omega)
    simp only [↓vsd, vsn, gW, qd, qv, ev, pick, argE, zipE, ne_eq, eq_self, forall_const, implies_true, if_true, if_false, reduceIte, reduceCtorEq, Nat.reduceEqDiff, Nat.reduceAdd, Nat.reduceLT, ↓us_sl3Halves, r_sl3Halves, hltI, hltJ, hq.facts, hce, hh, ht]
    refine ⟨inR_i64 (by omega), m_call (sl3Same_ok _ _ (by rw [List.length_take]; omega) _ hh.2) ?_⟩
    rintro _ w2 hx2 rfl
    have hno : ¬ HalfAt l (k + 1) → halfG l (l.length - (k + 1 + 1)) (k + 1 + 1) = halvesL l := fun hh => by rw [← halfG_no hh]; exact hg
    by_cases hp : OddPal (l.take c)
    · simp only [↓vsd, vsn, gW, qd, qv, ev, pick, argE, zipE, ne_eq, eq_self, forall_const, implies_true, if_true, if_false, reduceIte, reduceCtorEq, Nat.reduceEqDiff, Nat.reduceAdd, Nat.reduceLT, ↓us_sl3Halves, r_sl3Halves, hp, ht]
      refine m_call (sl3Same_ok _ _ (by rw [List.length_drop]; omega) _ (ht.2.ext hx2)) ?_
      rintro _ w3 hx3 rfl
      by_cases hp2 : OddPal (l.drop c)
      · have ha := (hq.headS .i64 ((c + 1) / 2) (by omega))
        have hb := (hq.mid .i64 .i64 c (c + (k + 1 + 1) / 2) (by omega) (by omega))
        have e1 : ((c : Int) + 1).tdiv 2 = ((c + 1) / 2 : Nat) := by rw [Int.tdiv_eq_ediv_of_nonneg (by omega)]; omega
        have e2 : (c : Int) + (((k + 1 + 1) / 2 : Nat) : Int) = (c + (k + 1 + 1) / 2 : Nat) := by omega
        have e3 : (((k + 1 : Nat) : Int) + 1).tdiv 2 = ((k + 1 + 1) / 2 : Nat) := by rw [Int.tdiv_eq_ediv_of_nonneg (by omega)]; omega
        have hat : HalfAt l (k + 1) := by
          have hq1 := hp.2
          have hq2 := hp2.2
          rw [List.length_take] at hq1
          rw [List.length_drop] at hq2
          rw [HalfAt, hcn]
          exact ⟨by omega, by omega, hp.1, hp2.1⟩
        have he := halfG_yes (l := l) (n := k + 1) hlt hat
        rw [hg, hcn] at he
        simp only [↓vsd, vsn, gW, qd, qv, ev, pick, argE, zipE, ne_eq, eq_self, forall_const, implies_true, if_true, if_false, reduceIte, reduceCtorEq, Nat.reduceEqDiff, Nat.reduceAdd, Nat.reduceLT, ↓us_sl3Halves, r_sl3Halves, hp2, ha, hb, e1, e2, e3]
        refine ⟨inR_i64 (by omega), ⟨by decide, inR_i64 (by omega)⟩, inR_i64 (by omega), ⟨by decide, inR_i64 (by omega)⟩, inR_i64 (by omega), m_call (sl1OwnS_ok _ _ (by rw [List.length_take]; omega) _ (ha.2.ext (hx2.trans (dr hx3)))) ?_⟩
        rintro x w4 hx4 ho4
        simp only [↓vsd, vsn, gW, qd, qv, ev, pick, argE, zipE, ne_eq, eq_self, forall_const, implies_true, if_true, if_false, reduceIte, reduceCtorEq, Nat.reduceEqDiff, Nat.reduceAdd, Nat.reduceLT, ↓us_sl3Halves, r_sl3Halves]
        refine m_call (sl1OwnS_ok _ _ (by rw [List.length_drop, List.length_take]; omega) _ (hb.2.ext ((hx2.trans hx3).trans (ud hx4)))) ?_
        rintro y w5 hx5 ho5
        simp only [↓vsd, vsn, gW, qd, qv, ev, pick, argE, zipE, ne_eq, eq_self, forall_const, implies_true, if_true, if_false, reduceIte, reduceCtorEq, Nat.reduceEqDiff, Nat.reduceAdd, Nat.reduceLT, ↓us_sl3Halves, r_sl3Halves]
        have hxA := ((hx.trans hx2).trans hx3)
        have hxB := hxA.trans (ud hx4)
        refine ⟨hxB.trans hx5, HalfR.some he ((ho4.mono hxA.size).ext hx5) ((ho5.mono hxB.size).to ?_)⟩
        rw [List.drop_take, Nat.add_sub_cancel_left]
      · simp only [↓vsd, vsn, gW, qd, qv, ev, pick, argE, zipE, ne_eq, eq_self, forall_const, implies_true, if_true, if_false, reduceIte, reduceCtorEq, Nat.reduceEqDiff, Nat.reduceAdd, Nat.reduceLT, ↓us_sl3Halves, r_sl3Halves, hp2]
        refine ⟨inR_i64 (by omega), UpTo.next (by omega) ⟨rfl, hno fun hh => hp2 ⟨by rw [← hcn]; exact hh.2.2.2, ?_⟩, (hx.trans hx2).trans hx3⟩⟩
        rw [List.length_drop]
        have := hh.1
        omega
    · simp only [↓vsd, vsn, gW, qd, qv, ev, pick, argE, zipE, ne_eq, eq_self, forall_const, implies_true, if_true, if_false, reduceIte, reduceCtorEq, Nat.reduceEqDiff, Nat.reduceAdd, Nat.reduceLT, ↓us_sl3Halves, r_sl3Halves, hp]
      refine ⟨inR_i64 (by omega), UpTo.next (by omega) ⟨rfl, hno fun hh => hp ⟨by rw [← hcn]; exact hh.2.2.1, ?_⟩, hx.trans hx2⟩⟩
      rw [List.length_take]
      have := hh.2.1
      omega
  · have hltI : ¬ ((k + 1 : Nat) : Int) < l.length := by omega
    have hltJ : (l.length : Int) ≤ (k + 1 : Nat) := by omega
    simp only [↓vsd, vsn, gW, qd, qv, ev, pick, argE, zipE, ne_eq, eq_self, forall_const, implies_true, if_true, if_false, reduceIte, reduceCtorEq, Nat.reduceEqDiff, Nat.reduceAdd, Nat.reduceLT, ↓us_sl3Halves, r_sl3Halves, hltI, hltJ, hq.facts]
    have he : halvesL l = none := by rw [← hg]; exact halfG_end (by omega)
    exact ⟨hx, HalfR.none he⟩
theorem ihalves_ok (v : Value) (l : List Bs) (hl : l.length ≤ 1000) (w : World) (h : Sq fS 1 w v l) : Fn 34 [v] w (fun r w' => HalfR w w' l r) := by
  (refine callsV_of mix Try.func34 c_ihalves ?_; simp only [↓vsd, vsn, gW, qd, qv, ev, pick, argE, zipE, ne_eq, eq_self, forall_const, implies_true, if_true, if_false, reduceIte, reduceCtorEq, Nat.reduceEqDiff, Nat.reduceAdd, Nat.reduceLT, ↓us_ihalves, r_ihalves])
  refine m_upto l.length (fun k vs w' => vs = [.int .i64 ((k + 1 : Nat))] ∧ halfG l (l.length - (2 * k + 1)) (2 * k + 1) = halvesL l ∧ Ext w w') ⟨rfl, rfl, Ext.refl _⟩ ?_
  rintro k vs w1 hk ⟨rfl, hg, hx⟩
  have hq := h.ext hx
  by_cases hlt : 2 * (k + 1) ≤ l.length
  · have hltI : 2 * ((k + 1 : Nat) : Int) ≤ l.length := by omega
    have hltJ : ¬ (l.length : Int) < 2 * ((k + 1 : Nat) : Int) := by omega
    obtain ⟨c, hce⟩ : ∃ c : Nat, (l.length : Int) - 2 * (k + 1 : Nat) + 1 = c := ⟨l.length - (2 * k + 1), by omega⟩
    have hcn : l.length - (2 * k + 1) = c := by omega
    have hh := hq.headS .i64 c (by omega)
    have ht := hq.tail .i64 c (by omega)
    have hno : ¬ HalfAt l (2 * k + 1) → halfG l (l.length - (2 * (k + 1) + 1)) (2 * (k + 1) + 1) = halvesL l := fun hh => by
      have h2 : ¬ HalfAt l (2 * k + 1 + 1) := fun hh => by have := hh.1; omega
      rw [show 2 * (k + 1) + 1 = 2 * k + 1 + 1 + 1 by omega, ← halfG_no h2, ← halfG_no hh]; exact hg
    by_cases hodd : c % 2 = 1
    · have hoddI : ((c % 2 : Nat) : Int) = 1 := by omega
      simp only [↓vsd, vsn, gW, qd, qv, ev, pick, argE, zipE, ne_eq, eq_self, forall_const, implies_true, if_true, if_false, reduceIte, reduceCtorEq, Nat.reduceEqDiff, Nat.reduceAdd, Nat.reduceLT, ↓us_ihalves, r_ihalves, hltI, hltJ, hq.facts, hce, hh, ht, hoddI]
      refine ⟨inR_i64 (by omega), inR_i64 (by omega), inR_i64 (by omega), inR_i64 (by omega), by decide, m_call (isameBothWays_ok _ _ (by rw [List.length_take]; omega) _ hh.2) ?_⟩
      rintro _ w2 hx2 rfl
      by_cases hp : IsPal (l.take c)
      · simp only [↓vsd, vsn, gW, qd, qv, ev, pick, argE, zipE, ne_eq, eq_self, forall_const, implies_true, if_true, if_false, reduceIte, reduceCtorEq, Nat.reduceEqDiff, Nat.reduceAdd, Nat.reduceLT, ↓us_ihalves, r_ihalves, hp, ht]
        refine m_call (isameBothWays_ok _ _ (by rw [List.length_drop]; omega) _ (ht.2.ext hx2)) ?_
        rintro _ w3 hx3 rfl
        by_cases hp2 : IsPal (l.drop c)
        · have hat : HalfAt l (2 * k + 1) := by
            rw [HalfAt, hcn]
            exact ⟨by omega, by omega, hp, hp2⟩
          have he := halfG_yes (l := l) (n := 2 * k + 1) (by omega) hat
          rw [hg, hcn] at he
          have ha := (hq.headS .i64 ((c + 1) / 2) (by omega))
          have hb := (hq.mid .i64 .i64 c (c + (2 * k + 1 + 1) / 2) (by omega) (by omega))
          have e1 : ((c / 2 : Nat) : Int) + 1 = ((c + 1) / 2 : Nat) := by omega
          have e2 : (c : Int) + ((k + 1 : Nat) : Int) = (c + (2 * k + 1 + 1) / 2 : Nat) := by omega
          simp only [↓vsd, vsn, gW, qd, qv, ev, pick, argE, zipE, ne_eq, eq_self, forall_const, implies_true, if_true, if_false, reduceIte, reduceCtorEq, Nat.reduceEqDiff, Nat.reduceAdd, Nat.reduceLT, ↓us_ihalves, r_ihalves, hp2, e1, e2, ha, hb]
          refine ⟨⟨by decide, inR_i64 (by omega)⟩, inR_i64 (by omega), inR_i64 (by omega), m_call (xslices_Clone_string_string_ok _ _ (by rw [List.length_take]; omega) _ (ha.2.ext (hx2.trans (dr hx3)))) ?_⟩
          rintro x w4 hx4 ho4
          simp only [↓vsd, vsn, gW, qd, qv, ev, pick, argE, zipE, ne_eq, eq_self, forall_const, implies_true, if_true, if_false, reduceIte, reduceCtorEq, Nat.reduceEqDiff, Nat.reduceAdd, Nat.reduceLT, ↓us_ihalves, r_ihalves]
          refine m_call (xslices_Clone_string_string_ok _ _ (by rw [List.length_drop, List.length_take]; omega) _ (hb.2.ext ((hx2.trans hx3).trans (ud hx4)))) ?_
          rintro y w5 hx5 ho5
          simp only [↓vsd, vsn, gW, qd, qv, ev, pick, argE, zipE, ne_eq, eq_self, forall_const, implies_true, if_true, if_false, reduceIte, reduceCtorEq, Nat.reduceEqDiff, Nat.reduceAdd, Nat.reduceLT, ↓us_ihalves, r_ihalves]
          have hxA := ((hx.trans hx2).trans hx3)
          have hxB := hxA.trans (ud hx4)
          refine ⟨hxB.trans hx5, HalfR.some he ((ho4.mono hxA.size).ext hx5) ((ho5.mono hxB.size).to ?_)⟩
          rw [List.drop_take, Nat.add_sub_cancel_left]
        · simp only [↓vsd, vsn, gW, qd, qv, ev, pick, argE, zipE, ne_eq, eq_self, forall_const, implies_true, if_true, if_false, reduceIte, reduceCtorEq, Nat.reduceEqDiff, Nat.reduceAdd, Nat.reduceLT, ↓us_ihalves, r_ihalves, hp2]
          refine ⟨inR_i64 (by omega), UpTo.next (by omega) ⟨rfl, hno fun hh => hp2 (by rw [← hcn]; exact hh.2.2.2), (hx.trans hx2).trans hx3⟩⟩
      · simp only [↓vsd, vsn, gW, qd, qv, ev, pick, argE, zipE, ne_eq, eq_self, forall_const, implies_true, if_true, if_false, reduceIte, reduceCtorEq, Nat.reduceEqDiff, Nat.reduceAdd, Nat.reduceLT, ↓us_ihalves, r_ihalves, hp]
        refine ⟨inR_i64 (by omega), UpTo.next (by omega) ⟨rfl, hno fun hh => hp (by rw [← hcn]; exact hh.2.2.1), hx.trans hx2⟩⟩
    · have hoddI : ¬ ((c % 2 : Nat) : Int) = 1 := by omega
      simp only [↓vsd, vsn, gW, qd, qv, ev, pick, argE, zipE, ne_eq, eq_self, forall_const, implies_true, if_true, if_false, reduceIte, reduceCtorEq, Nat.reduceEqDiff, Nat.reduceAdd, Nat.reduceLT, ↓us_ihalves, r_ihalves, hltI, hltJ, hq.facts, hce, hh, ht, hoddI]
      exact ⟨inR_i64 (by omega), inR_i64 (by omega), inR_i64 (by omega), inR_i64 (by omega), by decide, inR_i64 (by omega), UpTo.next (by omega) ⟨rfl, hno fun hh => hodd (by rw [← hcn]; exact hh.2.1), hx⟩⟩
  · have hltI : ¬ 2 * ((k + 1 : Nat) : Int) ≤ l.length := by omega
    have hltJ : (l.length : Int) < 2 * ((k + 1 : Nat) : Int) := by omega
    simp only [↓vsd, vsn, gW, qd, qv, ev, pick, argE, zipE, ne_eq, eq_self, forall_const, implies_true, if_true, if_false, reduceIte, reduceCtorEq, Nat.reduceEqDiff, Nat.reduceAdd, Nat.reduceLT, ↓us_ihalves, r_ihalves, hltI, hltJ, hq.facts]
    exact ⟨inR_i64 (by omega), hx, HalfR.none (by rw [← hg]; exact halfG_end (by omega))⟩
/-- A list of changes of a stage. -/
def IsList (n : Int) (l : List Bs) : Prop := (1 ≤ l.length ∧ l.length ≤ 40) ∧ ∀ c ∈ l, IsChange n c
instance (n : Int) (l : List Bs) : Decidable (IsList n l) := by unfold IsList; infer_instance
theorem sl3List_ok (n : Int) (v : Value) (cs : List Bs) (hs : ∀ c ∈ cs, c.length ≤ 1000) (hl : cs.length ≤ 1000) (w : World) (h : Sq fS 1 w v cs) : Fn 35 [.int .i64 n, v] w (fun r _ => r = .bool (decide (IsList n cs))) := by
  (refine callsV_of mix Try.func35 c_sl3List ?_; simp only [↓vsd, vsn, gW, qd, qv, ev, pick, argE, zipE, ne_eq, eq_self, forall_const, implies_true, if_true, if_false, reduceIte, reduceCtorEq, Nat.reduceEqDiff, Nat.reduceAdd, Nat.reduceLT, ↓us_sl3List, r_sl3List])
  simp only [↓vsd, vsn, gW, qd, qv, ev, pick, argE, zipE, ne_eq, eq_self, forall_const, implies_true, if_true, if_false, reduceIte, reduceCtorEq, Nat.reduceEqDiff, Nat.reduceAdd, Nat.reduceLT, ↓us_sl3List, r_sl3List, h.facts]
  refine m_upto cs.length (fun k vs w' => vs = [.int .i64 k] ∧ (∀ c ∈ cs.take k, IsChange n c) ∧ Ext w w') ⟨rfl, by simp, Ext.refl _⟩ ?_
  rintro k vs w1 hk ⟨rfl, hall, hx⟩
  have hq := h.ext hx
  by_cases hlt : k < cs.length
  · have hltI : (k : Int) < cs.length := by omega
    have hltJ : ¬ (cs.length : Int) ≤ k := by omega
    have hsm := hs _ (getD_mem [] hlt)
    simp only [↓vsd, vsn, gW, qd, qv, ev, pick, argE, zipE, ne_eq, eq_self, forall_const, implies_true, if_true, if_false, reduceIte, reduceCtorEq, Nat.reduceEqDiff, Nat.reduceAdd, Nat.reduceLT, ↓us_sl3List, r_sl3List, hq.facts, hq.at1 [] hlt, hltI, hltJ]
    refine ⟨by omega, m_call (sl2Change_ok n _ (by omega) _) ?_⟩
    rintro _ w2 hx2 rfl
    simp only [↓vsd, vsn, gW, qd, qv, ev, pick, argE, zipE, ne_eq, eq_self, forall_const, implies_true, if_true, if_false, reduceIte, reduceCtorEq, Nat.reduceEqDiff, Nat.reduceAdd, Nat.reduceLT, ↓us_sl3List, r_sl3List]
    refine ⟨fun hbad => ⟨hx.trans hx2, ?_⟩, fun hg => ⟨inR_i64 (by omega), UpTo.next hlt ⟨rfl, fun c hc => ?_, hx.trans hx2⟩⟩⟩
    · have : ¬ IsList n cs := fun hh => hbad (hh.2 _ (getD_mem [] hlt))
      simp only [this, decide_false]
    · rcases mem_take (d := []) hlt hc with h | rfl
      · exact hall c h
      · exact hg
  · obtain rfl : k = cs.length := by omega
    have hltI : ¬ (cs.length : Int) < cs.length := by omega
    rw [List.take_length] at hall
    simp only [↓vsd, vsn, gW, qd, qv, ev, pick, argE, zipE, ne_eq, eq_self, forall_const, implies_true, if_true, if_false, reduceIte, reduceCtorEq, Nat.reduceEqDiff, Nat.reduceAdd, Nat.reduceLT, ↓us_sl3List, r_sl3List, hltI, hq.facts]
    refine m_call (sl1In_ok _ _ _ _) ?_
    rintro _ w2 hx2 rfl
    by_cases hlen : 1 ≤ cs.length ∧ cs.length ≤ 40
    · have hd : (decide ((1 : Int) ≤ cs.length) && decide ((cs.length : Int) ≤ 40)) = true := by rw [Bool.and_eq_true, decide_eq_true_eq, decide_eq_true_eq]; omega
      simp only [↓vsd, vsn, gW, qd, qv, ev, pick, argE, zipE, ne_eq, eq_self, forall_const, implies_true, if_true, if_false, reduceIte, reduceCtorEq, Nat.reduceEqDiff, Nat.reduceAdd, Nat.reduceLT, ↓us_sl3List, r_sl3List, hd]
      refine m_call (sl1In_ok _ _ _ _) ?_
      rintro _ w3 hx3 rfl
      simp only [↓vsd, vsn, gW, qd, qv, ev, pick, argE, zipE, ne_eq, eq_self, forall_const, implies_true, if_true, if_false, reduceIte, reduceCtorEq, Nat.reduceEqDiff, Nat.reduceAdd, Nat.reduceLT, ↓us_sl3List, r_sl3List]
      refine ⟨(hx.trans hx2).trans hx3, ?_⟩
      have h3 := (hall _ (getD_mem [] (show 0 < cs.length by omega))).1
      rw [decide_eq_true (show IsList n cs from ⟨hlen, hall⟩), Bool.and_eq_true, decide_eq_true_eq, decide_eq_true_eq]
      omega
    · have hd : (decide ((1 : Int) ≤ cs.length) && decide ((cs.length : Int) ≤ 40)) = false := by
        rw [Bool.and_eq_false_iff, decide_eq_false_iff_not, decide_eq_false_iff_not]; omega
      simp only [↓vsd, vsn, gW, qd, qv, ev, pick, argE, zipE, ne_eq, eq_self, forall_const, implies_true, if_true, if_false, reduceIte, reduceCtorEq, Nat.reduceEqDiff, Nat.reduceAdd, Nat.reduceLT, ↓us_sl3List, r_sl3List, hd]
      refine ⟨hx.trans hx2, ?_⟩
      rw [decide_eq_false (show ¬ IsList n cs from fun hh => hlen hh.1)]
theorem iareL_ok (n : Int) (v : Value) (cs : List Bs) (hs : ∀ c ∈ cs, c.length ≤ 1000) (hl : cs.length ≤ 1000) (w : World) (h : Sq fS 1 w v cs) : Fn 33 [.int .i64 n, v] w (fun r _ => r = .bool (decide (IsList n cs))) := by
  refine Fn.mono (iareChanges_ok n v cs (fun c hc => by have := hs c hc; omega) (by omega) w h) fun r w' hr => ?_
  rw [hr]
  congr
/-- The halves of a list of changes. -/
def HalvesR (n : Int) (w w' : World) (l : List Bs) (r : Value) : Prop :=
  (IsList n l → HalfR w w' l r) ∧ (¬ IsList n l → r = .tuple ⟨[.slice none 0 0, .slice none 0 0, .bool false]⟩)
theorem iHalvesOf_ok (n : Int) (v : Value) (l : List Bs) (hs : ∀ c ∈ l, c.length ≤ 1000) (hl : l.length ≤ 1000) (w : World) (h : Sq fS 1 w v l) : Fn 8 [.int .i64 n, v] w (fun r w' => HalvesR n w w' l r) := by
  (refine callsV_of mix Try.func8 c_iHalvesOf ?_; simp only [↓vsd, vsn, gW, qd, qv, ev, pick, argE, zipE, ne_eq, eq_self, forall_const, implies_true, if_true, if_false, reduceIte, reduceCtorEq, Nat.reduceEqDiff, Nat.reduceAdd, Nat.reduceLT, ↓us_iHalvesOf, r_iHalvesOf])
  refine m_call (iareL_ok n v l hs hl _ h) ?_
  rintro _ w1 hx1 rfl
  by_cases hL : IsList n l
  · simp only [↓vsd, vsn, gW, qd, qv, ev, pick, argE, zipE, ne_eq, eq_self, forall_const, implies_true, if_true, if_false, reduceIte, reduceCtorEq, Nat.reduceEqDiff, Nat.reduceAdd, Nat.reduceLT, ↓us_iHalvesOf, r_iHalvesOf, hL]
    refine m_call (ihalves_ok v l hl _ (h.ext hx1)) ?_
    rintro r w2 hx2 hr
    rcases he : halvesL l with _ | ⟨a, b⟩
    · obtain rfl := hr.2 he
      simp only [↓vsd, vsn, gW, qd, qv, ev, pick, argE, zipE, ne_eq, eq_self, forall_const, implies_true, if_true, if_false, reduceIte, reduceCtorEq, Nat.reduceEqDiff, Nat.reduceAdd, Nat.reduceLT, ↓us_iHalvesOf, r_iHalvesOf]
      exact ⟨hx1.trans hx2, fun _ => HalfR.none he, fun hh => absurd hL hh⟩
    · obtain ⟨x, y, rfl, ho1, ho2⟩ := hr.1 a b he
      simp only [↓vsd, vsn, gW, qd, qv, ev, pick, argE, zipE, ne_eq, eq_self, forall_const, implies_true, if_true, if_false, reduceIte, reduceCtorEq, Nat.reduceEqDiff, Nat.reduceAdd, Nat.reduceLT, ↓us_iHalvesOf, r_iHalvesOf]
      exact ⟨hx1.trans hx2, fun _ => HalfR.some he (ho1.mono hx1.size) (ho2.mono hx1.size), fun hh => absurd hL hh⟩
  · simp only [↓vsd, vsn, gW, qd, qv, ev, pick, argE, zipE, ne_eq, eq_self, forall_const, implies_true, if_true, if_false, reduceIte, reduceCtorEq, Nat.reduceEqDiff, Nat.reduceAdd, Nat.reduceLT, ↓us_iHalvesOf, r_iHalvesOf, hL]
    exact ⟨hx1, fun hh => absurd hh hL, fun _ => rfl⟩
theorem sHalvesOf_ok (n : Int) (v : Value) (l : List Bs) (hs : ∀ c ∈ l, c.length ≤ 1000) (hl : l.length ≤ 1000) (w : World) (h : Sq fS 1 w v l) : Fn 9 [.int .i64 n, v] w (fun r w' => HalvesR n w w' l r) := by
  (refine callsV_of mix Try.func9 c_sHalvesOf ?_; simp only [↓vsd, vsn, gW, qd, qv, ev, pick, argE, zipE, ne_eq, eq_self, forall_const, implies_true, if_true, if_false, reduceIte, reduceCtorEq, Nat.reduceEqDiff, Nat.reduceAdd, Nat.reduceLT, ↓us_sHalvesOf, r_sHalvesOf])
  refine m_call (sl3List_ok n v l hs hl _ h) ?_
  rintro _ w1 hx1 rfl
  by_cases hL : IsList n l
  · simp only [↓vsd, vsn, gW, qd, qv, ev, pick, argE, zipE, ne_eq, eq_self, forall_const, implies_true, if_true, if_false, reduceIte, reduceCtorEq, Nat.reduceEqDiff, Nat.reduceAdd, Nat.reduceLT, ↓us_sHalvesOf, r_sHalvesOf, hL]
    refine m_call (sl3Halves_ok v l hl _ (h.ext hx1)) ?_
    rintro r w2 hx2 hr
    rcases he : halvesL l with _ | ⟨a, b⟩
    · obtain rfl := hr.2 he
      simp only [↓vsd, vsn, gW, qd, qv, ev, pick, argE, zipE, ne_eq, eq_self, forall_const, implies_true, if_true, if_false, reduceIte, reduceCtorEq, Nat.reduceEqDiff, Nat.reduceAdd, Nat.reduceLT, ↓us_sHalvesOf, r_sHalvesOf]
      exact ⟨hx1.trans hx2, fun _ => HalfR.none he, fun hh => absurd hL hh⟩
    · obtain ⟨x, y, rfl, ho1, ho2⟩ := hr.1 a b he
      simp only [↓vsd, vsn, gW, qd, qv, ev, pick, argE, zipE, ne_eq, eq_self, forall_const, implies_true, if_true, if_false, reduceIte, reduceCtorEq, Nat.reduceEqDiff, Nat.reduceAdd, Nat.reduceLT, ↓us_sHalvesOf, r_sHalvesOf]
      exact ⟨hx1.trans hx2, fun _ => HalfR.some he (ho1.mono hx1.size) (ho2.mono hx1.size), fun hh => absurd hL hh⟩
  · simp only [↓vsd, vsn, gW, qd, qv, ev, pick, argE, zipE, ne_eq, eq_self, forall_const, implies_true, if_true, if_false, reduceIte, reduceCtorEq, Nat.reduceEqDiff, Nat.reduceAdd, Nat.reduceLT, ↓us_sHalvesOf, r_sHalvesOf, hL]
    exact ⟨hx1, fun hh => absurd hh hL, fun _ => rfl⟩
theorem txt_small {l : List Bs} (hs : ∀ c ∈ l, c.length ≤ 1000) : ∀ {k}, k ≤ l.length → (txtL (l.take k)).length ≤ 1001 * k
  | 0, _ => by simp [txtL]
  | k + 1, hk => by
    have ih := txt_small hs (k := k) (by omega)
    have hc := hs _ (getD_mem [] (show k < l.length by omega))
    rw [txtL_take (show k < l.length by omega), List.length_append, List.length_append]
    split
    · rw [List.length_singleton]; omega
    · rw [List.length_nil]; omega
theorem inotationText_ok (v : Value) (l : List Bs) (hs : ∀ c ∈ l, c.length ≤ 1000) (hl : l.length ≤ 1000) (w : World) (h : Sq fS 1 w v l) : Fn 50 [v] w (fun r _ => r = S (txtL l)) := by
  (refine callsV_of mix Try.func50 c_inotationText ?_; simp only [↓vsd, vsn, gW, qd, qv, ev, pick, argE, zipE, ne_eq, eq_self, forall_const, implies_true, if_true, if_false, reduceIte, reduceCtorEq, Nat.reduceEqDiff, Nat.reduceAdd, Nat.reduceLT, ↓us_inotationText, r_inotationText])
  simp only [↓vsd, vsn, gW, qd, qv, ev, pick, argE, zipE, ne_eq, eq_self, forall_const, implies_true, if_true, if_false, reduceIte, reduceCtorEq, Nat.reduceEqDiff, Nat.reduceAdd, Nat.reduceLT, ↓us_inotationText, r_inotationText, h.facts]
  refine m_upto l.length (fun k vs w' => vs = [S (txtL (l.take k)), .int .i64 k] ∧ Ext w w') ⟨rfl, Ext.refl _⟩ ?_
  rintro k vs w1 hk ⟨rfl, hx⟩
  have hq := h.ext hx
  by_cases hlt : k < l.length
  · have hltI : (k : Int) < l.length := by omega
    have hltJ : ¬ (l.length : Int) ≤ k := by omega
    have hst := txtL_take (l := l) (k := k) hlt
    have hsz := txt_small hs (k := k) (by omega)
    have hsc := hs _ (getD_mem [] hlt)
    by_cases h0 : 0 < k
    · have h0I : (0 : Int) < k := by omega
      have h0J : ¬ (k : Int) ≤ 0 := by omega
      obtain ⟨q, hqe⟩ : ∃ q : Nat, (k : Int) - 1 = q := ⟨k - 1, by omega⟩
      have hqn : k - 1 = q := by omega
      have hqA : q < l.length := by omega
      rw [hqn] at hst
      by_cases hc : l.getD k [] = [45]
      · rw [if_neg (fun hh => hh.2.1 hc), List.nil_append] at hst
        simp only [↓vsd, vsn, gW, qd, qv, ev, pick, argE, zipE, ne_eq, eq_self, forall_const, implies_true, if_true, if_false, reduceIte, reduceCtorEq, Nat.reduceEqDiff, Nat.reduceAdd, Nat.reduceLT, ↓us_inotationText, r_inotationText, hltI, hltJ, hq.facts, hq.at1 [] hlt, h0I, h0J, hqe, hq.at1 [] hqA, hc]
        repeat (refine And.intro (by first | omega | exact inR_i64 (by omega) | exact ⟨by omega, by omega⟩ | (simp only [List.length_append, List.length_cons, List.length_nil]; omega)) ?_)
        refine UpTo.next hlt ?_
        exact ⟨by rw [hst]; first | rfl | (rw [hc]; rfl) | (simp only [List.append_assoc]; rfl), hx⟩
      · by_cases hp : l.getD q [] = [45]
        · rw [if_neg (fun hh => hh.2.2 hp), List.nil_append] at hst
          simp only [↓vsd, vsn, gW, qd, qv, ev, pick, argE, zipE, ne_eq, eq_self, forall_const, implies_true, if_true, if_false, reduceIte, reduceCtorEq, Nat.reduceEqDiff, Nat.reduceAdd, Nat.reduceLT, ↓us_inotationText, r_inotationText, hltI, hltJ, hq.facts, hq.at1 [] hlt, h0I, h0J, hqe, hq.at1 [] hqA, hc, hp]
          repeat (refine And.intro (by first | omega | exact inR_i64 (by omega) | exact ⟨by omega, by omega⟩ | (simp only [List.length_append, List.length_cons, List.length_nil]; omega)) ?_)
          refine UpTo.next hlt ?_
          exact ⟨by rw [hst]; first | rfl | (rw [hc]; rfl) | (simp only [List.append_assoc]; rfl), hx⟩
        · rw [if_pos ⟨h0, hc, hp⟩] at hst
          simp only [↓vsd, vsn, gW, qd, qv, ev, pick, argE, zipE, ne_eq, eq_self, forall_const, implies_true, if_true, if_false, reduceIte, reduceCtorEq, Nat.reduceEqDiff, Nat.reduceAdd, Nat.reduceLT, ↓us_inotationText, r_inotationText, hltI, hltJ, hq.facts, hq.at1 [] hlt, h0I, h0J, hqe, hq.at1 [] hqA, hc, hp]
          repeat (refine And.intro (by first | omega | exact inR_i64 (by omega) | exact ⟨by omega, by omega⟩ | (simp only [List.length_append, List.length_cons, List.length_nil]; omega)) ?_)
          refine UpTo.next hlt ?_
          exact ⟨by rw [hst]; first | rfl | (rw [hc]; rfl) | (simp only [List.append_assoc]; rfl), hx⟩
    · have h0I : ¬ (0 : Int) < k := by omega
      have h0J : (k : Int) ≤ 0 := by omega
      rw [if_neg (fun hh => h0 hh.1), List.nil_append] at hst
      simp only [↓vsd, vsn, gW, qd, qv, ev, pick, argE, zipE, ne_eq, eq_self, forall_const, implies_true, if_true, if_false, reduceIte, reduceCtorEq, Nat.reduceEqDiff, Nat.reduceAdd, Nat.reduceLT, ↓us_inotationText, r_inotationText, hltI, hltJ, hq.facts, hq.at1 [] hlt, h0I, h0J]
      repeat (refine And.intro (by first | omega | exact inR_i64 (by omega) | exact ⟨by omega, by omega⟩ | (simp only [List.length_append, List.length_cons, List.length_nil]; omega)) ?_)
      refine UpTo.next hlt ?_
      exact ⟨by rw [hst]; first | rfl | (rw [hc]; rfl) | (simp only [List.append_assoc]; rfl), hx⟩
  · obtain rfl : k = l.length := by omega
    have hltI : ¬ (l.length : Int) < l.length := by omega
    simp only [↓vsd, vsn, gW, qd, qv, ev, pick, argE, zipE, ne_eq, eq_self, forall_const, implies_true, if_true, if_false, reduceIte, reduceCtorEq, Nat.reduceEqDiff, Nat.reduceAdd, Nat.reduceLT, ↓us_inotationText, r_inotationText, hltI]
    exact ⟨hx, by rw [List.take_length]⟩
theorem sl3Text_ok (v : Value) (l : List Bs) (hs : ∀ c ∈ l, c.length ≤ 1000) (hl : l.length ≤ 1000) (w : World) (h : Sq fS 1 w v l) : Fn 51 [v] w (fun r _ => r = S (txtL l)) := by
  (refine callsV_of mix Try.func51 c_sl3Text ?_; simp only [↓vsd, vsn, gW, qd, qv, ev, pick, argE, zipE, ne_eq, eq_self, forall_const, implies_true, if_true, if_false, reduceIte, reduceCtorEq, Nat.reduceEqDiff, Nat.reduceAdd, Nat.reduceLT, ↓us_sl3Text, r_sl3Text])
  simp only [↓vsd, vsn, gW, qd, qv, ev, pick, argE, zipE, ne_eq, eq_self, forall_const, implies_true, if_true, if_false, reduceIte, reduceCtorEq, Nat.reduceEqDiff, Nat.reduceAdd, Nat.reduceLT, ↓us_sl3Text, r_sl3Text, h.facts]
  refine m_upto l.length (fun k vs w' => vs = [S (txtL (l.take k)), .int .i64 k] ∧ Ext w w') ⟨rfl, Ext.refl _⟩ ?_
  rintro k vs w1 hk ⟨rfl, hx⟩
  have hq := h.ext hx
  by_cases hlt : k < l.length
  · have hltI : (k : Int) < l.length := by omega
    have hltJ : ¬ (l.length : Int) ≤ k := by omega
    have hst := txtL_take (l := l) (k := k) hlt
    have hsz := txt_small hs (k := k) (by omega)
    have hsc := hs _ (getD_mem [] hlt)
    by_cases h0 : 0 < k
    · have h0I : (0 : Int) < k := by omega
      have h0J : ¬ (k : Int) ≤ 0 := by omega
      obtain ⟨q, hqe⟩ : ∃ q : Nat, (k : Int) - 1 = q := ⟨k - 1, by omega⟩
      have hqn : k - 1 = q := by omega
      have hqA : q < l.length := by omega
      rw [hqn] at hst
      by_cases hc : l.getD k [] = [45]
      · rw [if_neg (fun hh => hh.2.1 hc), List.nil_append] at hst
        simp only [↓vsd, vsn, gW, qd, qv, ev, pick, argE, zipE, ne_eq, eq_self, forall_const, implies_true, if_true, if_false, reduceIte, reduceCtorEq, Nat.reduceEqDiff, Nat.reduceAdd, Nat.reduceLT, ↓us_sl3Text, r_sl3Text, hltI, hltJ, hq.facts, hq.at1 [] hlt, h0I, h0J, hqe, hq.at1 [] hqA, hc]
        repeat (refine And.intro (by first | omega | exact inR_i64 (by omega) | exact ⟨by omega, by omega⟩ | (simp only [List.length_append, List.length_cons, List.length_nil]; omega)) ?_)
        refine UpTo.next hlt ?_
        exact ⟨by rw [hst]; first | rfl | (rw [hc]; rfl) | (simp only [List.append_assoc]; rfl), hx⟩
      · by_cases hp : l.getD q [] = [45]
        · rw [if_neg (fun hh => hh.2.2 hp), List.nil_append] at hst
          simp only [↓vsd, vsn, gW, qd, qv, ev, pick, argE, zipE, ne_eq, eq_self, forall_const, implies_true, if_true, if_false, reduceIte, reduceCtorEq, Nat.reduceEqDiff, Nat.reduceAdd, Nat.reduceLT, ↓us_sl3Text, r_sl3Text, hltI, hltJ, hq.facts, hq.at1 [] hlt, h0I, h0J, hqe, hq.at1 [] hqA, hc, hp]
          repeat (refine And.intro (by first | omega | exact inR_i64 (by omega) | exact ⟨by omega, by omega⟩ | (simp only [List.length_append, List.length_cons, List.length_nil]; omega)) ?_)
          refine UpTo.next hlt ?_
          exact ⟨by rw [hst]; first | rfl | (rw [hc]; rfl) | (simp only [List.append_assoc]; rfl), hx⟩
        · rw [if_pos ⟨h0, hc, hp⟩] at hst
          simp only [↓vsd, vsn, gW, qd, qv, ev, pick, argE, zipE, ne_eq, eq_self, forall_const, implies_true, if_true, if_false, reduceIte, reduceCtorEq, Nat.reduceEqDiff, Nat.reduceAdd, Nat.reduceLT, ↓us_sl3Text, r_sl3Text, hltI, hltJ, hq.facts, hq.at1 [] hlt, h0I, h0J, hqe, hq.at1 [] hqA, hc, hp]
          repeat (refine And.intro (by first | omega | exact inR_i64 (by omega) | exact ⟨by omega, by omega⟩ | (simp only [List.length_append, List.length_cons, List.length_nil]; omega)) ?_)
          refine UpTo.next hlt ?_
          exact ⟨by rw [hst]; first | rfl | (rw [hc]; rfl) | (simp only [List.append_assoc]; rfl), hx⟩
    · have h0I : ¬ (0 : Int) < k := by omega
      have h0J : (k : Int) ≤ 0 := by omega
      rw [if_neg (fun hh => h0 hh.1), List.nil_append] at hst
      simp only [↓vsd, vsn, gW, qd, qv, ev, pick, argE, zipE, ne_eq, eq_self, forall_const, implies_true, if_true, if_false, reduceIte, reduceCtorEq, Nat.reduceEqDiff, Nat.reduceAdd, Nat.reduceLT, ↓us_sl3Text, r_sl3Text, hltI, hltJ, hq.facts, hq.at1 [] hlt, h0I, h0J]
      repeat (refine And.intro (by first | omega | exact inR_i64 (by omega) | exact ⟨by omega, by omega⟩ | (simp only [List.length_append, List.length_cons, List.length_nil]; omega)) ?_)
      refine UpTo.next hlt ?_
      exact ⟨by rw [hst]; first | rfl | (rw [hc]; rfl) | (simp only [List.append_assoc]; rfl), hx⟩
  · obtain rfl : k = l.length := by omega
    have hltI : ¬ (l.length : Int) < l.length := by omega
    simp only [↓vsd, vsn, gW, qd, qv, ev, pick, argE, zipE, ne_eq, eq_self, forall_const, implies_true, if_true, if_false, reduceIte, reduceCtorEq, Nat.reduceEqDiff, Nat.reduceAdd, Nat.reduceLT, ↓us_sl3Text, r_sl3Text, hltI]
    exact ⟨hx, by rw [List.take_length]⟩
/-- A printed list of changes. -/
def TextR (n : Int) (l : List Bs) (x : Bs) (r : Value) : Prop :=
  (IsList n l → r = .tuple ⟨[S x, .bool true]⟩) ∧ (¬ IsList n l → r = .tuple ⟨[S [], .bool false]⟩)
theorem iNotationText_ok (n : Int) (v : Value) (l : List Bs) (hs : ∀ c ∈ l, c.length ≤ 1000) (hl : l.length ≤ 1000) (w : World) (h : Sq fS 1 w v l) : Fn 22 [.int .i64 n, v] w (fun r _ => TextR n l (txtL l) r) := by
  (refine callsV_of mix Try.func22 c_iNotationText ?_; simp only [↓vsd, vsn, gW, qd, qv, ev, pick, argE, zipE, ne_eq, eq_self, forall_const, implies_true, if_true, if_false, reduceIte, reduceCtorEq, Nat.reduceEqDiff, Nat.reduceAdd, Nat.reduceLT, ↓us_iNotationText, r_iNotationText])
  refine m_call (iareL_ok n v l hs hl _ h) ?_
  rintro _ w1 hx1 rfl
  by_cases hL : IsList n l
  · simp only [↓vsd, vsn, gW, qd, qv, ev, pick, argE, zipE, ne_eq, eq_self, forall_const, implies_true, if_true, if_false, reduceIte, reduceCtorEq, Nat.reduceEqDiff, Nat.reduceAdd, Nat.reduceLT, ↓us_iNotationText, r_iNotationText, hL]
    refine m_call (inotationText_ok v l hs hl _ (h.ext hx1)) ?_
    rintro _ w2 hx2 rfl
    simp only [↓vsd, vsn, gW, qd, qv, ev, pick, argE, zipE, ne_eq, eq_self, forall_const, implies_true, if_true, if_false, reduceIte, reduceCtorEq, Nat.reduceEqDiff, Nat.reduceAdd, Nat.reduceLT, ↓us_iNotationText, r_iNotationText]
    exact ⟨hx1.trans hx2, fun _ => rfl, fun hh => absurd hL hh⟩
  · simp only [↓vsd, vsn, gW, qd, qv, ev, pick, argE, zipE, ne_eq, eq_self, forall_const, implies_true, if_true, if_false, reduceIte, reduceCtorEq, Nat.reduceEqDiff, Nat.reduceAdd, Nat.reduceLT, ↓us_iNotationText, r_iNotationText, hL]
    exact ⟨hx1, fun hh => absurd hh hL, fun _ => rfl⟩
theorem sNotationText_ok (n : Int) (v : Value) (l : List Bs) (hs : ∀ c ∈ l, c.length ≤ 1000) (hl : l.length ≤ 1000) (w : World) (h : Sq fS 1 w v l) : Fn 23 [.int .i64 n, v] w (fun r _ => TextR n l (txtL l) r) := by
  (refine callsV_of mix Try.func23 c_sNotationText ?_; simp only [↓vsd, vsn, gW, qd, qv, ev, pick, argE, zipE, ne_eq, eq_self, forall_const, implies_true, if_true, if_false, reduceIte, reduceCtorEq, Nat.reduceEqDiff, Nat.reduceAdd, Nat.reduceLT, ↓us_sNotationText, r_sNotationText])
  refine m_call (sl3List_ok n v l hs hl _ h) ?_
  rintro _ w1 hx1 rfl
  by_cases hL : IsList n l
  · simp only [↓vsd, vsn, gW, qd, qv, ev, pick, argE, zipE, ne_eq, eq_self, forall_const, implies_true, if_true, if_false, reduceIte, reduceCtorEq, Nat.reduceEqDiff, Nat.reduceAdd, Nat.reduceLT, ↓us_sNotationText, r_sNotationText, hL]
    refine m_call (sl3Text_ok v l hs hl _ (h.ext hx1)) ?_
    rintro _ w2 hx2 rfl
    simp only [↓vsd, vsn, gW, qd, qv, ev, pick, argE, zipE, ne_eq, eq_self, forall_const, implies_true, if_true, if_false, reduceIte, reduceCtorEq, Nat.reduceEqDiff, Nat.reduceAdd, Nat.reduceLT, ↓us_sNotationText, r_sNotationText]
    exact ⟨hx1.trans hx2, fun _ => rfl, fun hh => absurd hL hh⟩
  · simp only [↓vsd, vsn, gW, qd, qv, ev, pick, argE, zipE, ne_eq, eq_self, forall_const, implies_true, if_true, if_false, reduceIte, reduceCtorEq, Nat.reduceEqDiff, Nat.reduceAdd, Nat.reduceLT, ↓us_sNotationText, r_sNotationText, hL]
    exact ⟨hx1, fun hh => absurd hh hL, fun _ => rfl⟩
/-- The shorter text. -/
def shortL (l : List Bs) : Bs :=
  match halvesL l with
  | .none => txtL l
  | .some (a, b) => if (txtL a ++ [44] ++ txtL b).length < (txtL l).length then txtL a ++ [44] ++ txtL b else txtL l
theorem short_none {l : List Bs} (h : halvesL l = .none) : shortL l = txtL l := by rw [shortL, h]
theorem short_some {l a b : List Bs} (h : halvesL l = .some (a, b)) : shortL l = if (txtL a ++ [44] ++ txtL b).length < (txtL l).length then txtL a ++ [44] ++ txtL b else txtL l := by rw [shortL, h]
theorem txt_small' {l : List Bs} (hs : ∀ c ∈ l, c.length ≤ 1000) : (txtL l).length ≤ 1001 * l.length := by
  have := txt_small hs (Nat.le_refl l.length)
  rwa [List.take_length] at this
theorem ishortNotation_ok (v : Value) (l : List Bs) (hs : ∀ c ∈ l, c.length ≤ 1000) (hl : l.length ≤ 1000) (w : World) (h : Sq fS 1 w v l) : Fn 52 [v] w (fun r _ => r = S (shortL l)) := by
  (refine callsV_of mix Try.func52 c_ishortNotation ?_; simp only [↓vsd, vsn, gW, qd, qv, ev, pick, argE, zipE, ne_eq, eq_self, forall_const, implies_true, if_true, if_false, reduceIte, reduceCtorEq, Nat.reduceEqDiff, Nat.reduceAdd, Nat.reduceLT, ↓us_ishortNotation, r_ishortNotation])
  refine m_call (inotationText_ok v l hs hl _ h) ?_
  rintro _ w1 hx1 rfl
  simp only [↓vsd, vsn, gW, qd, qv, ev, pick, argE, zipE, ne_eq, eq_self, forall_const, implies_true, if_true, if_false, reduceIte, reduceCtorEq, Nat.reduceEqDiff, Nat.reduceAdd, Nat.reduceLT, ↓us_ishortNotation, r_ishortNotation]
  refine m_call (ihalves_ok v l hl _ (h.ext hx1)) ?_
  rintro r w2 hx2 hr
  have hz := txt_small' hs
  rcases he : halvesL l with _ | ⟨a, b⟩
  · obtain rfl := hr.2 he
    simp only [↓vsd, vsn, gW, qd, qv, ev, pick, argE, zipE, ne_eq, eq_self, forall_const, implies_true, if_true, if_false, reduceIte, reduceCtorEq, Nat.reduceEqDiff, Nat.reduceAdd, Nat.reduceLT, ↓us_ishortNotation, r_ishortNotation]
    exact ⟨hx1.trans hx2, by rw [short_none he]⟩
  · obtain ⟨x, y, rfl, ho1, ho2⟩ := hr.1 a b he
    obtain ⟨-, ha, hb, hca, hcb⟩ := halvesL_spec he
    have hsa : ∀ c ∈ a, c.length ≤ 1000 := fun c hc => hs c (hca c hc)
    have hsb : ∀ c ∈ b, c.length ≤ 1000 := fun c hc => hs c (hcb c hc)
    have hza := txt_small' hsa
    have hzb := txt_small' hsb
    simp only [↓vsd, vsn, gW, qd, qv, ev, pick, argE, zipE, ne_eq, eq_self, forall_const, implies_true, if_true, if_false, reduceIte, reduceCtorEq, Nat.reduceEqDiff, Nat.reduceAdd, Nat.reduceLT, ↓us_ishortNotation, r_ishortNotation]
    refine m_call (inotationText_ok x a hsa (by omega) _ ho1.sq) ?_
    rintro _ w3 hx3 rfl
    simp only [↓vsd, vsn, gW, qd, qv, ev, pick, argE, zipE, ne_eq, eq_self, forall_const, implies_true, if_true, if_false, reduceIte, reduceCtorEq, Nat.reduceEqDiff, Nat.reduceAdd, Nat.reduceLT, ↓us_ishortNotation, r_ishortNotation]
    refine ⟨by omega, m_call (inotationText_ok y b hsb (by omega) _ (ho2.sq.ext hx3)) ?_⟩
    rintro _ w4 hx4 rfl
    simp only [↓vsd, vsn, gW, qd, qv, ev, pick, argE, zipE, ne_eq, eq_self, forall_const, implies_true, if_true, if_false, reduceIte, reduceCtorEq, Nat.reduceEqDiff, Nat.reduceAdd, Nat.reduceLT, ↓us_ishortNotation, r_ishortNotation]
    have hxA := ((hx1.trans hx2).trans hx3).trans hx4
    refine ⟨by rw [List.length_append, List.length_singleton]; omega, fun hlt => ⟨hxA, ?_⟩, fun hge => ⟨hxA, ?_⟩⟩
    · rw [short_some he, if_pos (by omega)]
    · rw [short_some he, if_neg (by omega)]
theorem iShortNotation_ok (n : Int) (v : Value) (l : List Bs) (hs : ∀ c ∈ l, c.length ≤ 1000) (hl : l.length ≤ 1000) (w : World) (h : Sq fS 1 w v l) : Fn 24 [.int .i64 n, v] w (fun r _ => TextR n l (shortL l) r) := by
  (refine callsV_of mix Try.func24 c_iShortNotation ?_; simp only [↓vsd, vsn, gW, qd, qv, ev, pick, argE, zipE, ne_eq, eq_self, forall_const, implies_true, if_true, if_false, reduceIte, reduceCtorEq, Nat.reduceEqDiff, Nat.reduceAdd, Nat.reduceLT, ↓us_iShortNotation, r_iShortNotation])
  refine m_call (iareL_ok n v l hs hl _ h) ?_
  rintro _ w1 hx1 rfl
  by_cases hL : IsList n l
  · simp only [↓vsd, vsn, gW, qd, qv, ev, pick, argE, zipE, ne_eq, eq_self, forall_const, implies_true, if_true, if_false, reduceIte, reduceCtorEq, Nat.reduceEqDiff, Nat.reduceAdd, Nat.reduceLT, ↓us_iShortNotation, r_iShortNotation, hL]
    refine m_call (ishortNotation_ok v l hs hl _ (h.ext hx1)) ?_
    rintro _ w2 hx2 rfl
    simp only [↓vsd, vsn, gW, qd, qv, ev, pick, argE, zipE, ne_eq, eq_self, forall_const, implies_true, if_true, if_false, reduceIte, reduceCtorEq, Nat.reduceEqDiff, Nat.reduceAdd, Nat.reduceLT, ↓us_iShortNotation, r_iShortNotation]
    exact ⟨hx1.trans hx2, fun _ => rfl, fun hh => absurd hL hh⟩
  · simp only [↓vsd, vsn, gW, qd, qv, ev, pick, argE, zipE, ne_eq, eq_self, forall_const, implies_true, if_true, if_false, reduceIte, reduceCtorEq, Nat.reduceEqDiff, Nat.reduceAdd, Nat.reduceLT, ↓us_iShortNotation, r_iShortNotation, hL]
    exact ⟨hx1, fun hh => absurd hh hL, fun _ => rfl⟩
theorem sShortNotation_ok (n : Int) (v : Value) (l : List Bs) (hs : ∀ c ∈ l, c.length ≤ 1000) (hl : l.length ≤ 1000) (w : World) (h : Sq fS 1 w v l) : Fn 25 [.int .i64 n, v] w (fun r _ => TextR n l (shortL l) r) := by
  (refine callsV_of mix Try.func25 c_sShortNotation ?_; simp only [↓vsd, vsn, gW, qd, qv, ev, pick, argE, zipE, ne_eq, eq_self, forall_const, implies_true, if_true, if_false, reduceIte, reduceCtorEq, Nat.reduceEqDiff, Nat.reduceAdd, Nat.reduceLT, ↓us_sShortNotation, r_sShortNotation])
  refine m_call (sl3List_ok n v l hs hl _ h) ?_
  rintro _ w1 hx1 rfl
  by_cases hL : IsList n l
  · simp only [↓vsd, vsn, gW, qd, qv, ev, pick, argE, zipE, ne_eq, eq_self, forall_const, implies_true, if_true, if_false, reduceIte, reduceCtorEq, Nat.reduceEqDiff, Nat.reduceAdd, Nat.reduceLT, ↓us_sShortNotation, r_sShortNotation, hL]
    refine m_call (sl3Halves_ok v l hl _ (h.ext hx1)) ?_
    rintro r w2 hx2 hr
    have hz := txt_small' hs
    have hq2 := h.ext (hx1.trans hx2)
    rcases he : halvesL l with _ | ⟨a, b⟩
    · obtain rfl := hr.2 he
      simp only [↓vsd, vsn, gW, qd, qv, ev, pick, argE, zipE, ne_eq, eq_self, forall_const, implies_true, if_true, if_false, reduceIte, reduceCtorEq, Nat.reduceEqDiff, Nat.reduceAdd, Nat.reduceLT, ↓us_sShortNotation, r_sShortNotation]
      refine m_call (sl3Text_ok _ [] (by simp) (by simp) _ (Sq.nil fS_len)) ?_
      rintro _ w3 hx3 rfl
      simp only [↓vsd, vsn, gW, qd, qv, ev, pick, argE, zipE, ne_eq, eq_self, forall_const, implies_true, if_true, if_false, reduceIte, reduceCtorEq, Nat.reduceEqDiff, Nat.reduceAdd, Nat.reduceLT, ↓us_sShortNotation, r_sShortNotation]
      refine ⟨by decide, m_call (sl3Text_ok _ [] (by simp) (by simp) _ (Sq.nil fS_len)) ?_⟩
      rintro _ w4 hx4 rfl
      simp only [↓vsd, vsn, gW, qd, qv, ev, pick, argE, zipE, ne_eq, eq_self, forall_const, implies_true, if_true, if_false, reduceIte, reduceCtorEq, Nat.reduceEqDiff, Nat.reduceAdd, Nat.reduceLT, ↓us_sShortNotation, r_sShortNotation]
      refine ⟨by decide, ?_⟩
      refine m_call (sl3Text_ok v l hs hl _ ((hq2.ext hx3).ext hx4)) ?_
      rintro _ w5 hx5 rfl
      simp only [↓vsd, vsn, gW, qd, qv, ev, pick, argE, zipE, ne_eq, eq_self, forall_const, implies_true, if_true, if_false, reduceIte, reduceCtorEq, Nat.reduceEqDiff, Nat.reduceAdd, Nat.reduceLT, ↓us_sShortNotation, r_sShortNotation]
      exact ⟨(((hx1.trans hx2).trans hx3).trans hx4).trans hx5, fun _ => by rw [short_none he], fun hh => absurd hL hh⟩
    · obtain ⟨x, y, rfl, ho1, ho2⟩ := hr.1 a b he
      obtain ⟨-, ha, hb, hca, hcb⟩ := halvesL_spec he
      have hsa : ∀ c ∈ a, c.length ≤ 1000 := fun c hc => hs c (hca c hc)
      have hsb : ∀ c ∈ b, c.length ≤ 1000 := fun c hc => hs c (hcb c hc)
      have hza := txt_small' hsa
      have hzb := txt_small' hsb
      simp only [↓vsd, vsn, gW, qd, qv, ev, pick, argE, zipE, ne_eq, eq_self, forall_const, implies_true, if_true, if_false, reduceIte, reduceCtorEq, Nat.reduceEqDiff, Nat.reduceAdd, Nat.reduceLT, ↓us_sShortNotation, r_sShortNotation]
      refine m_call (sl3Text_ok x a hsa (by omega) _ ho1.sq) ?_
      rintro _ w3 hx3 rfl
      simp only [↓vsd, vsn, gW, qd, qv, ev, pick, argE, zipE, ne_eq, eq_self, forall_const, implies_true, if_true, if_false, reduceIte, reduceCtorEq, Nat.reduceEqDiff, Nat.reduceAdd, Nat.reduceLT, ↓us_sShortNotation, r_sShortNotation]
      refine ⟨by omega, m_call (sl3Text_ok y b hsb (by omega) _ (ho2.sq.ext hx3)) ?_⟩
      rintro _ w4 hx4 rfl
      simp only [↓vsd, vsn, gW, qd, qv, ev, pick, argE, zipE, ne_eq, eq_self, forall_const, implies_true, if_true, if_false, reduceIte, reduceCtorEq, Nat.reduceEqDiff, Nat.reduceAdd, Nat.reduceLT, ↓us_sShortNotation, r_sShortNotation]
      refine ⟨by rw [List.length_append, List.length_singleton]; omega, m_call (sl3Text_ok v l hs hl _ ((hq2.ext hx3).ext hx4)) ?_⟩
      rintro _ w5 hx5 rfl
      have hss := short_some he
      by_cases hlt : (txtL a ++ [44] ++ txtL b).length < (txtL l).length
      · have hltI : (((txtL a ++ [44] ++ txtL b).length : Nat) : Int) < (txtL l).length := by omega
        rw [if_pos hlt] at hss
        simp only [↓vsd, vsn, gW, qd, qv, ev, pick, argE, zipE, ne_eq, eq_self, forall_const, implies_true, if_true, if_false, reduceIte, reduceCtorEq, Nat.reduceEqDiff, Nat.reduceAdd, Nat.reduceLT, ↓us_sShortNotation, r_sShortNotation, hltI]
        exact ⟨(((hx1.trans hx2).trans hx3).trans hx4).trans hx5, fun _ => by rw [hss], fun hh => absurd hL hh⟩
      · rw [if_neg hlt] at hss
        have hltI : ¬ (((txtL a ++ [44] ++ txtL b).length : Nat) : Int) < (txtL l).length := by omega
        have hltJ : (((txtL l).length : Nat) : Int) ≤ (txtL a ++ [44] ++ txtL b).length := by omega
        have hxA := (((hx1.trans hx2).trans hx3).trans hx4).trans hx5
        simp only [↓vsd, vsn, gW, qd, qv, ev, pick, argE, zipE, ne_eq, eq_self, forall_const, implies_true, if_true, if_false, reduceIte, reduceCtorEq, Nat.reduceEqDiff, Nat.reduceAdd, Nat.reduceLT, ↓us_sShortNotation, r_sShortNotation, hltI, hltJ]
        refine m_call (sl3Text_ok v l hs hl _ (h.ext (by assumption))) ?_
        rintro _ w6 hx6 rfl
        simp only [↓vsd, vsn, gW, qd, qv, ev, pick, argE, zipE, ne_eq, eq_self, forall_const, implies_true, if_true, if_false, reduceIte, reduceCtorEq, Nat.reduceEqDiff, Nat.reduceAdd, Nat.reduceLT, ↓us_sShortNotation, r_sShortNotation]
        exact ⟨hxA.trans hx6, fun _ => by rw [hss], fun hh => absurd hL hh⟩
  · simp only [↓vsd, vsn, gW, qd, qv, ev, pick, argE, zipE, ne_eq, eq_self, forall_const, implies_true, if_true, if_false, reduceIte, reduceCtorEq, Nat.reduceEqDiff, Nat.reduceAdd, Nat.reduceLT, ↓us_sShortNotation, r_sShortNotation, hL]
    exact ⟨hx1, fun hh => absurd hh hL, fun _ => rfl⟩
end Go.Proofs.Ytfklonhjgkahdaa
