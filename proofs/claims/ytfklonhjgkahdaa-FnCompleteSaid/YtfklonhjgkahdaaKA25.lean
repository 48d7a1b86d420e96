/-
  A method with other changes.
  Conditions: none.
-/
import Derived.Test.YtfklonhjgkahdaaKA11
import Derived.Test.YtfklonhjgkahdaaKVm
set_option linter.unusedSimpArgs false
set_option linter.unusedVariables false
set_option linter.defProp false
namespace Go.Proofs.Ytfklonhjgkahdaa
open Go Go.RowKit
theorem Itr.lt {w : World} {b p : Nat} {l : List UInt8} (h : Itr w b l p) : b < w.heap.size := (Array.getElem?_eq_some_iff.1 h).1
theorem Itr.ext {w w' : World} {b p : Nat} {l : List UInt8} (h : Itr w b l p) (hx : Ext w w') : Itr w' b l p := by
  have hl := h.lt
  unfold Itr at h ⊢; rw [hx.block hl, h]
theorem Itr.grown {w w' : World} {b p : Nat} {l : List UInt8} {row : Option Nat} (h : Itr w b l p) (hg : w.grownBy w' row) (hne : row ≠ some b) : Itr w' b l p := by
  have h' := h
  unfold Itr at h ⊢; rw [hg.block b h'.lt (fun e => hne e.symm), h]
theorem Itr.drew {w : World} {b p : Nat} {l : List UInt8} : Itr w.drew b l p = Itr w b l p := rfl
/-- The slice is not in block c. -/
def Away (v : Value) (c : Nat) : Prop := v.ownBlock ≠ some c
theorem Away.nil (c : Nat) : Away (.slice none 0 0) c := fun h => by cases h
theorem Away.next {v v' : Value} {c : Nat} {w : World} (h : Away v c) (hc : c < w.heap.size) (hv : ∀ b, v'.ownBlock = some b → v.ownBlock = some b ∨ w.heap.size ≤ b) : Away v' c := fun e => by
  rcases hv c e with h' | h'
  · exact h h'
  · omega
section
variable {α : Type} {f : α → List Value} {z : Nat} {E : TypeId} {B : Nat} {w w' : World} {v : Value} {l : List α}
theorem Own.away (h : Own f z E B w v l) {c : Nat} (hc : w.heap.size ≤ c) : Away v c := fun e => by have := h.lt c e; omega
theorem Own.away' (h : Own f z E B w v l) {c : Nat} (hc : c < B) : Away v c := fun e => by have := (h.bound c e).1; omega
theorem Own.upd {c : Nat} (h : Own f z E B w v l) (hu : Upd w w' c) (ha : Away v c) : Own f z E B w' v l := h.same fun g hg => hu.grown.block g (h.lt g hg) fun e => ha (by rw [hg, Option.some.inj e])
theorem Own.off {r : Option Nat} (h : Own f z E B w v l) (hg : w.grownBy w' r) (hr : ∀ c, r = some c → Away v c) : Own f z E B w' v l := h.same fun g hv => hg.block g (h.lt g hv) fun e => hr g e.symm hv
/-- An own slice's head, as it is read. -/
theorem Sq.headS (h : Sq f z w v l) (k : IntKind) (a : Nat) (ha : a ≤ l.length) : sslD v none (some (.int k a)) = True ∧ Sq f z w (sslV z v none (some (.int k a))) (l.take a) := by
  have hfl := flat_len h.1 (l.take a)
  rcases h.2.2 with ⟨rfl, h0⟩ | ⟨ad, c, rfl, hc, hx⟩
  · have hl : l = [] := List.length_eq_zero_iff.1 h0
    subst hl
    obtain rfl : a = 0 := by simpa using ha
    exact ⟨by simp [sslD, isI, asI], h.1, by simp, .inl ⟨by simp [sslV, cutA, asI], rfl⟩⟩
  · refine ⟨by simp only [sslD, isI, asI]; exact eq_true ⟨trivial, by omega, by omega⟩, h.1, hfl, .inr ⟨ad, c, ?_, by rw [List.length_take]; omega, fun j u hj => hx j u ?_⟩⟩
    · simp only [sslV, cutA, asI, Int.toNat_natCast, Option.map_some, Nat.zero_mul, Addr.add_zero', ite_self, List.length_take, Nat.min_eq_left ha]
    · have e : l.flatMap f = (l.take a).flatMap f ++ (l.drop a).flatMap f := by rw [← List.flatMap_append, List.take_append_drop]
      rw [e, List.getElem?_append_left (List.getElem?_eq_some_iff.1 hj).1]
      exact hj
end
end Go.Proofs.Ytfklonhjgkahdaa
namespace Go.Proofs.Ytfklonhjgkahdaa
open Go Go.RowKit
section
variable (P : Program) (k : KT) (e : Env) (w : World)
abbrev b113_1 : X := (.seq (.reg [4] (.c (.q 5 [] (.fa 0 (.t 2))) (.c (.q 6 [] (.ld (.t 5))) (.c (.q 7 [] (.fa 1 (.t 2))) (.c (.q 8 [] (.ld (.t 7))) (.c (.q 9 [] (.mv (.t 1))) (.c (.q 10 [] (.bld [(S []), (.int .i64 0), (.slice none 0 0)] [(0, 0, (.t 6)), (1, 0, (.t 8)), (2, 0, (.t 9))])) (.c (.e none [] (.st 3 (.t 4) (.t 10))) .nil)))))))) .ret)
def t113_1 := b113_1
theorem u113_1 : vcK P t113_1 k e w = vcK P b113_1 k e w := rfl
abbrev b113_0 : X := (.seq (.reg [1, 2, 4] (.c (.e (some 2) [] (.box 44 (.t 0))) (.c (.e (some 4) [] (.al 44 [(S []), (.int .i64 0), (.slice none 0 0)])) .nil))) t113_1)
def x_iwithChanges := b113_0
theorem u113_0 : vcK P x_iwithChanges k e w = vcK P b113_0 k e w := rfl
def r_iwithChanges : List XO := [(.lda 3 (.t 4))]
theorem c_iwithChanges : convF Try.prog [38, 39, 41, 42, 49, 54, 55, 57, 58, 59, 73, 79, 81, 84, 87, 139] Try.f113 [([1, 2, 4], []), ([4], [])] = some (x_iwithChanges, r_iwithChanges) := by kernel_rfl
def us_iwithChanges :=  (aI @u113_0 @u113_1)
end
theorem iwithChanges_ok (nm : List UInt8) (st : Int) (v u : Value) (w : World) (hu : u.oneCell' = true) (hc : oneC u) : Fn 113 [mV nm st v, u] w (fun r _ => r = mV nm st u) := by
  (refine callsV_of mix Try.func113 c_iwithChanges ?_; simp only [↓vsd, vsn, gW, qd, qv, ev, pick, argE, zipE, ne_eq, eq_self, forall_const, implies_true, if_true, if_false, reduceIte, reduceCtorEq, Nat.reduceEqDiff, Nat.reduceAdd, Nat.reduceLT, ↓us_iwithChanges, r_iwithChanges])
  refine m_al ?_
  rintro b1 w1 hb1 hblk1 hx1 hs1
  have h1 : Blk w1 b1 (fM nm st v) 44 := hblk1
  simp only [↓vsd, vsn, gW, qd, qv, ev, pick, argE, zipE, ne_eq, eq_self, forall_const, implies_true, if_true, if_false, reduceIte, reduceCtorEq, Nat.reduceEqDiff, Nat.reduceAdd, Nat.reduceLT, ↓us_iwithChanges, r_iwithChanges, h1.facts, fMg]
  refine m_al ?_
  rintro b2 w2 hb2 hblk2 hx2 hs2
  have h12 := h1.ext hx2
  simp only [↓vsd, vsn, gW, qd, qv, ev, pick, argE, zipE, ne_eq, eq_self, forall_const, implies_true, if_true, if_false, reduceIte, reduceCtorEq, Nat.reduceEqDiff, Nat.reduceAdd, Nat.reduceLT, ↓us_iwithChanges, r_iwithChanges, h12.facts, fMg]
  refine ⟨hc, m_st hblk2 rfl (Nat.le_refl 3) (fM_one nm st u hu) ?_⟩
  rintro w3 hblk3 hu3
  have h3 : Blk w3 b2 (fM nm st u) 44 := hblk3
  have hx3 : Ext w w3 := hu3.below (hx1.trans hx2) (by omega)
  simp only [↓vsd, vsn, gW, qd, qv, ev, pick, argE, zipE, ne_eq, eq_self, forall_const, implies_true, if_true, if_false, reduceIte, reduceCtorEq, Nat.reduceEqDiff, Nat.reduceAdd, Nat.reduceLT, ↓us_iwithChanges, r_iwithChanges, h3.facts, fMg]
  exact hx3
end Go.Proofs.Ytfklonhjgkahdaa
