/-
  Called leads: the method, the row of a call, its order, the bells moved; of both sides.
  Conditions: none.
-/
import Derived.Test.YtnincmnkdjlndaaA37
import Derived.Test.YtnincmnkdjlndaaD7
import Derived.Test.YtnincmnkdjlndaaD3
import Derived.Test.YtnincmnkdjlndaaPt
import Derived.Test.YtnincmnkdjlndaaD10
set_option linter.unusedSimpArgs false
set_option linter.unusedVariables false
set_option linter.defProp false
namespace Go.Proofs.Ytnincmnkdjlndaa
open Go Go.RowKit
section
variable (P : Program) (k : KT) (e : Env) (w : World)
abbrev b192_1 : X := (.seq (.drw [2] (.c (.q 3 [] (.fa 0 (.t 1))) (.c (.q 4 [] (.ld (.t 3))) (.c (.q 5 [] (.fa 1 (.t 1))) (.c (.q 6 [] (.ld (.t 5))) (.c (.q 7 [] (.fa 2 (.t 1))) (.c (.q 8 [] (.ld (.t 7))) (.c (.e (some 9) [] (.call false 183 [(.t 8)])) (.c (.q 10 [] (.bld [(S []), (.int .i64 0), (.slice none 0 0)] [(0, 0, (.t 4)), (1, 0, (.t 6)), (2, 0, (.t 9))])) (.c (.e none [] (.st 3 (.t 2) (.t 10))) .nil)))))))))) .ret)
def t192_1 := b192_1
theorem u192_1 : vcK P t192_1 k e w = vcK P b192_1 k e w := rfl
abbrev b192_0 : X := (.seq (.reg [1, 2] (.c (.e (some 1) [] (.box 26 (.t 0))) (.c (.e (some 2) [] (.al 26 [(S []), (.int .i64 0), (.slice none 0 0)])) .nil))) t192_1)
def x_sl4Own := b192_0
theorem u192_0 : vcK P x_sl4Own k e w = vcK P b192_0 k e w := rfl
def r_sl4Own : List XO := [(.lda 3 (.t 2))]
theorem c_sl4Own : convF Try.prog [147, 148, 152, 160, 162, 163, 170, 178, 206, 208, 210, 224, 233, 235, 236, 251, 264, 265, 268, 270, 287, 322] Try.f192 [([1, 2], []), ([2], [])] = some (x_sl4Own, r_sl4Own) := by kernel_rfl
def us_sl4Own :=  (aI @u192_0 @u192_1)
end

theorem Own.lit40 {α : Type} {f : α → List Value} {z E B n : Nat} {w : World} {b : Nat} {cs : List Value} (l : List α) (hz : ∀ a, (f a).length = z) (hb : Blk w b cs E) (e : cs = l.flatMap f) (hn : n = l.length) (hB : B ≤ b) (hm : n ≤ 1000) : Own f z E B w (.slice (some ⟨b, 0, none⟩) n n) l := by
  subst e; subst hn
  exact ⟨hz, .inr ⟨b, l.length, l.flatMap f, rfl, hB, hb, Nat.le_refl _, by unfold maxLen; omega, flat_len hz l, by rw [← flat_len hz l, List.take_length]⟩⟩
/-- The row of a call. -/
def rowC (st : Nat) (cs : List (List UInt8)) (b s call : List UInt8) : List UInt8 := timesL (turnL (underL (roundsL st) cs)) (headC st cs b s call)
theorem rowC_row {nm : List UInt8} {st : Nat} {cs : List (List UInt8)} {b s : List UInt8} (h : IsMC nm st cs b s) (call : List UInt8) : IsRow (rowC st cs b s call) ∧ (rowC st cs b s call).length = st := by
  have h8 : 3 ≤ st ∧ st ≤ 8 := by have := h.1.2.1; omega
  have hu := under_row h8 cs
  have hh := headC_row h call
  exact ⟨timesL_row (turnL_row hu.1) hh.1 (by rw [turnL_len, hu.2, hh.2]), by rw [rowC, timesL_len, hh.2]⟩
/-- A called lead, if one is asked. -/
def LeadC (nm : List UInt8) (st : Int) (cs : List (List UInt8)) (b s call : List UInt8) (B : Nat) (r : Value) (w' : World) : Prop :=
  if CallOk nm st cs b s call then ∃ x, r = .tuple ⟨[mV nm st x, .bool true]⟩ ∧ Own fS 1 9 B w' x (calledCs cs b s call) else r = .tuple ⟨[mV [] 0 (.slice none 0 0), .bool false]⟩
def crV (nm : List UInt8) (st : Int) (cs : List (List UInt8)) (b s call : List UInt8) : Value := if CallOk nm st cs b s call then .tuple ⟨[S (rowC st.toNat cs b s call), .bool true]⟩ else .tuple ⟨[S [], .bool false]⟩
def coV (nm : List UInt8) (st : Int) (cs : List (List UInt8)) (b s call : List UInt8) (n : Nat) : Value := if CallOk nm st cs b s call then .tuple ⟨[.int .i64 (n : Nat), .bool true]⟩ else .tuple ⟨[.int .i64 0, .bool false]⟩
/-- The places at which a row is not rounds. -/
def movedL (r : List UInt8) (k : Nat) : List Int := ((List.range k).filter fun i => decide (r.getD i 0 ≠ UInt8.ofNat (49 + i))).map fun i : Nat => ((i + 1 : Nat) : Int)
theorem movedL_succ (r : List UInt8) (k : Nat) : movedL r (k + 1) = movedL r k ++ if r.getD k 0 ≠ UInt8.ofNat (49 + k) then [((k + 1 : Nat) : Int)] else [] := by
  unfold movedL
  rw [List.range_succ, List.filter_append, List.map_append]
  congr 1
  by_cases h : r.getD k 0 ≠ UInt8.ofNat (49 + k)
  · rw [if_pos h, List.filter_cons, List.filter_nil, if_pos (decide_eq_true h)]; rfl
  · rw [if_neg h, List.filter_cons, List.filter_nil, if_neg (by rw [decide_eq_false h]; decide)]; rfl
theorem movedL_len (r : List UInt8) (k : Nat) : (movedL r k).length ≤ k := by
  unfold movedL
  rw [List.length_map]
  exact Nat.le_trans (List.length_filter_le _ _) (by simp)
def mvV (nm : List UInt8) (st : Int) (cs : List (List UInt8)) (b s call : List UInt8) : List Int := if CallOk nm st cs b s call then movedL (rowC st.toNat cs b s call) st.toNat else []
theorem ext_grow40 {w0 w w' : World} {r : Option Nat} (hx : Ext w0 w) (hg : w.grownBy w' r) (hr : ∀ c, r = some c → w0.heap.size ≤ c) : Ext w0 w' :=
  Below.trans hx ⟨hg.os, hg.tape, hg.output, hg.size, fun i hi => hg.block i (by have := hx.size; omega) (fun e => by have := hr i e.symm; omega)⟩
theorem sl4Own_ok (nm : List UInt8) (st : Int) (v : Value) (cs : List (List UInt8)) (hcl : cs.length ≤ 1000000) (w : World) (h : Sq fS 1 w v cs) : Fn 192 [mV nm st v] w (fun r w' => ∃ x, r = mV nm st x ∧ Own fS 1 9 w.heap.size w' x cs) := by
  (refine callsV_of mix Try.func192 c_sl4Own ?_; simp only [↓vsd, vsn, gW, qd, qv, ev, pick, argE, zipE, ne_eq, eq_self, forall_const, implies_true, if_true, if_false, reduceIte, reduceCtorEq, Nat.reduceEqDiff, Nat.reduceAdd, Nat.reduceLT, ↓us_sl4Own, r_sl4Own])
  refine m_al ?_
  rintro b1 w1 hb1 hblk1 hx1 hs1
  have h1 : Blk w1 b1 (fM nm st v) 26 := hblk1
  simp only [↓vsd, vsn, gW, qd, qv, ev, pick, argE, zipE, ne_eq, eq_self, forall_const, implies_true, if_true, if_false, reduceIte, reduceCtorEq, Nat.reduceEqDiff, Nat.reduceAdd, Nat.reduceLT, ↓us_sl4Own, r_sl4Own]
  refine m_al ?_
  rintro b2 w2 hb2 hblk2 hx2 hs2
  have h2 : Blk w2 b2 (fM [] 0 (.slice none 0 0)) 26 := hblk2
  have h12 := h1.ext hx2
  have hx12 := hx1.trans hx2
  simp only [↓vsd, vsn, gW, qd, qv, ev, pick, argE, zipE, ne_eq, eq_self, forall_const, implies_true, if_true, if_false, reduceIte, reduceCtorEq, Nat.reduceEqDiff, Nat.reduceAdd, Nat.reduceLT, ↓us_sl4Own, r_sl4Own, h12.facts, fMg]
  refine m_call (sl1OwnS_ok v cs hcl _ (by first | exact h.ext hx12 | exact h.ext (dr hx12))) ?_
  rintro x w3 hx3 ho3
  have hx3 : Ext w2 w3 := by first | exact hx3 | exact ud hx3 | exact ud (ud hx3)
  have ho3 := ho3.mono (B' := w2.heap.size) (Nat.le_refl _)
  have h13 := h12.ext hx3
  have hoc : Go.Proofs.Ytnincmnkdjlndaa.oneC x = True := ho3.sq.oneC
  simp only [↓vsd, vsn, gW, qd, qv, ev, pick, argE, zipE, ne_eq, eq_self, forall_const, implies_true, if_true, if_false, reduceIte, reduceCtorEq, Nat.reduceEqDiff, Nat.reduceAdd, Nat.reduceLT, ↓us_sl4Own, r_sl4Own, h12.facts, h13.facts, fMg, hoc]
  refine m_st (h2.ext hx3) rfl (Nat.le_refl 3) (fM_one nm st x ho3.sq.one') ?_
  rintro w4 hblk4 hu4
  have h4 : Blk w4 b2 (fM nm st x) 26 := hblk4
  have h2l := h2.lt
  simp only [↓vsd, vsn, gW, qd, qv, ev, pick, argE, zipE, ne_eq, eq_self, forall_const, implies_true, if_true, if_false, reduceIte, reduceCtorEq, Nat.reduceEqDiff, Nat.reduceAdd, Nat.reduceLT, ↓us_sl4Own, r_sl4Own, h4.facts, fMg]
  exact ⟨hu4.below (hx12.trans hx3) (by have := hx1.size; omega), x, rfl, (ho3.upd hu4 (ho3.away' (by omega))).mono hx12.size⟩
section
variable (nm : List UInt8) (st : Int) (v : Value) (cs : List (List UInt8)) (b s call : List UInt8) (hnm : nm.length ≤ 1048576) (hs : ∀ c ∈ cs, c.length ≤ 1048576) (hl : cs.length ≤ 1000000000) (hb : b.length ≤ 1048576 ∧ s.length ≤ 1048576)
include hnm hs hl hb
end
/-- The heads of the three calls. -/
def headsC (nm : List UInt8) (st : Int) (cs : List (List UInt8)) (b s : List UInt8) : List (List UInt8) := if IsMC nm st cs b s then [headC st.toNat cs b s [112], headC st.toNat cs b s [98], headC st.toNat cs b s [115]] else []
section
variable (nm : List UInt8) (st : Int) (v : Value) (cs : List (List UInt8)) (b s : List UInt8) (hnm : nm.length ≤ 1048576) (hs : ∀ c ∈ cs, c.length ≤ 1048576) (hl : cs.length ≤ 1000000000) (hb : b.length ≤ 1048576 ∧ s.length ≤ 1048576)
include hnm hs hl hb
end
end Go.Proofs.Ytnincmnkdjlndaa
