/-
  Called leads: the method, the row of a call, its order, the bells moved; of both sides.
  Conditions: none.
-/
import Derived.Test.YtnhealghpfjdcaaA37
import Derived.Test.YtnhealghpfjdcaaD7
import Derived.Test.YtnhealghpfjdcaaD3
import Derived.Test.YtnhealghpfjdcaaPt
import Derived.Test.YtnhealghpfjdcaaD10
set_option linter.unusedSimpArgs false
set_option linter.unusedVariables false
set_option linter.defProp false
namespace Go.Proofs.Ytnhealghpfjdcaa
open Go Go.RowKit
section
variable (P : Program) (k : KT) (e : Env) (w : World)
abbrev b74_1 : X := (.seq (.drw [4] (.c (.q 5 [] (.lda 3 (.t 2))) (.c (.q 6 [] (.lda 2 (.t 3))) (.c (.q 8 [] (.lda 3 (.t 2))) (.c (.q 9 [] (.lda 2 (.t 3))) (.c (.q 11 [] (.lda 3 (.t 2))) (.c (.q 12 [] (.lda 2 (.t 3))) (.c (.e (some 7) [] (.call false 76 [(.t 5), (.t 6), (.s [112])])) (.c (.e (some 10) [] (.call false 76 [(.t 8), (.t 9), (.s [98])])) (.c (.e (some 13) [] (.call false 76 [(.t 11), (.t 12), (.s [115])])) (.c (.e (some 14) [] (.bsl 9 1 [(.t 7), (.t 10), (.t 13)])) (.c (.q 4 [] (.mv (.t 14))) .nil)))))))))))) .ret)
def t74_1 := b74_1
theorem u74_1 : vcK P t74_1 k e w = vcK P b74_1 k e w := rfl
abbrev b74_0 : X := (.seq (.reg [2, 3] (.c (.e (some 2) [] (.box 31 (.t 0))) (.c (.e (some 3) [] (.box 33 (.t 1))) (.c (.q 4 [] (.mv (.c (.slice none 0 0)))) .nil)))) t74_1)
def x_icallHeads := b74_0
theorem u74_0 : vcK P x_icallHeads k e w = vcK P b74_0 k e w := rfl
def r_icallHeads : List XO := [(.mv (.t 4))]
theorem c_icallHeads : convF Try.prog [89, 116, 117, 121, 143, 161, 162, 163, 166, 168, 234] Try.f74 [([2, 3], []), ([4], [])] = some (x_icallHeads, r_icallHeads) := by kernel_rfl
def us_icallHeads := aI @u74_0 @u74_1
end

theorem Own.lit40 {α : Type} {f : α → List Value} {z E B n : Nat} {w : World} {b : Nat} {cs : List Value} (l : List α) (hz : ∀ a, (f a).length = z) (hb : Blk w b cs E) (e : cs = l.flatMap f) (hn : n = l.length) (hB : B ≤ b) (hm : n ≤ 1000) : Own f z E B w (.slice (some ⟨b, 0, none⟩) n n) l := by
  subst e; subst hn
  exact ⟨hz, .inr ⟨b, l.length, l.flatMap f, rfl, hB, hb, Nat.le_refl _, by unfold maxLen; omega, flat_len hz l, by rw [← flat_len hz l, List.take_length]⟩⟩
/-- The row of a call. -/
def rowC (st : Nat) (cs : List (List UInt8)) (b s call : List UInt8) : List UInt8 := timesL (turnL (underL (roundsL st) cs)) (headC st cs b s call)
theorem rowC_row {nm : List UInt8} {st : Nat} {cs : List (List UInt8)} {b s : List UInt8} (h : IsMC nm st cs b s) (call : List UInt8) : IsRow (rowC st cs b s call) ∧ (rowC st cs b s call).length = st := by
  have h8 : 3 ≤ st ∧ st ≤ 8 := by have := h.1.2.1; omega
  have hu := under_row h8 cs
  have hh := headC_row h call
  exact ⟨timesL_row (turnL_row hu.1) hh.1 (by rw [turnL_len, hu.2, hh.2]), by rw [rowC, timesL_len, hh.2]⟩
/-- A called lead, if one is asked. -/
def LeadC (nm : List UInt8) (st : Int) (cs : List (List UInt8)) (b s call : List UInt8) (B : Nat) (r : Value) (w' : World) : Prop :=
  if CallOk nm st cs b s call then ∃ x, r = .tuple ⟨[mV nm st x, .bool true]⟩ ∧ Own fS 1 9 B w' x (calledCs cs b s call) else r = .tuple ⟨[mV [] 0 (.slice none 0 0), .bool false]⟩
def crV (nm : List UInt8) (st : Int) (cs : List (List UInt8)) (b s call : List UInt8) : Value := if CallOk nm st cs b s call then .tuple ⟨[S (rowC st.toNat cs b s call), .bool true]⟩ else .tuple ⟨[S [], .bool false]⟩
def coV (nm : List UInt8) (st : Int) (cs : List (List UInt8)) (b s call : List UInt8) (n : Nat) : Value := if CallOk nm st cs b s call then .tuple ⟨[.int .i64 (n : Nat), .bool true]⟩ else .tuple ⟨[.int .i64 0, .bool false]⟩
/-- The places at which a row is not rounds. -/
def movedL (r : List UInt8) (k : Nat) : List Int := ((List.range k).filter fun i => decide (r.getD i 0 ≠ UInt8.ofNat (49 + i))).map fun i : Nat => ((i + 1 : Nat) : Int)
theorem movedL_succ (r : List UInt8) (k : Nat) : movedL r (k + 1) = movedL r k ++ if r.getD k 0 ≠ UInt8.ofNat (49 + k) then [((k + 1 : Nat) : Int)] else [] := by
  unfold movedL
  rw [List.range_succ, List.filter_append, List.map_append]
  congr 1
  by_cases h : r.getD k 0 ≠ UInt8.ofNat (49 + k)
  · rw [if_pos h, List.filter_cons, List.filter_nil, if_pos (decide_eq_true h)]; rfl
  · rw [if_neg h, List.filter_cons, List.filter_nil, if_neg (by rw [decide_eq_false h]; decide)]; rfl
theorem movedL_len (r : List UInt8) (k : Nat) : (movedL r k).length ≤ k := by
  unfold movedL
  rw [List.length_map]
  exact Nat.le_trans (List.length_filter_le _ _) (by simp)
def mvV (nm : List UInt8) (st : Int) (cs : List (List UInt8)) (b s call : List UInt8) : List Int := if CallOk nm st cs b s call then movedL (rowC st.toNat cs b s call) st.toNat else []
theorem ext_grow40 {w0 w w' : World} {r : Option Nat} (hx : Ext w0 w) (hg : w.grownBy w' r) (hr : ∀ c, r = some c → w0.heap.size ≤ c) : Ext w0 w' :=
  Below.trans hx ⟨hg.os, hg.tape, hg.output, hg.size, fun i hi => hg.block i (by have := hx.size; omega) (fun e => by have := hr i e.symm; omega)⟩
section
variable (nm : List UInt8) (st : Int) (v : Value) (cs : List (List UInt8)) (b s call : List UInt8) (hnm : nm.length ≤ 1048576) (hs : ∀ c ∈ cs, c.length ≤ 1048576) (hl : cs.length ≤ 1000000000) (hb : b.length ≤ 1048576 ∧ s.length ≤ 1048576)
include hnm hs hl hb
end
/-- The heads of the three calls. -/
def headsC (nm : List UInt8) (st : Int) (cs : List (List UInt8)) (b s : List UInt8) : List (List UInt8) := if IsMC nm st cs b s then [headC st.toNat cs b s [112], headC st.toNat cs b s [98], headC st.toNat cs b s [115]] else []
theorem icallHeads_ok (nm : List UInt8) (st : Nat) (v : Value) (cs : List (List UInt8)) (b s : List UInt8) (hM : IsMC nm st cs b s) (w : World) (h : Sq fS 1 w v cs) : Fn 74 [mV nm st v, kV b s] w (fun r w' => Own fS 1 9 w.heap.size w' r (headsC nm st cs b s)) := by
  (refine callsV_of mix Try.func74 c_icallHeads ?_; simp only [↓vsd, vsn, gW, qd, qv, ev, pick, argE, zipE, ne_eq, eq_self, forall_const, implies_true, if_true, if_false, reduceIte, reduceCtorEq, Nat.reduceEqDiff, Nat.reduceAdd, Nat.reduceLT, ↓us_icallHeads, r_icallHeads])
  refine m_al ?_
  rintro b1 w1 hb1 hblk1 hx1 hs1
  have h1 : Blk w1 b1 (fM nm st v) 31 := hblk1
  simp only [↓vsd, vsn, gW, qd, qv, ev, pick, argE, zipE, ne_eq, eq_self, forall_const, implies_true, if_true, if_false, reduceIte, reduceCtorEq, Nat.reduceEqDiff, Nat.reduceAdd, Nat.reduceLT, ↓us_icallHeads, r_icallHeads, h1.facts, fMg]
  refine m_al ?_
  rintro b2 w2 hb2 hblk2 hx2 hs2
  have h2 : Blk w2 b2 (fQ b s) 33 := hblk2
  have h12 := h1.ext hx2
  have hx12 := hx1.trans hx2
  simp only [↓vsd, vsn, gW, qd, qv, ev, pick, argE, zipE, ne_eq, eq_self, forall_const, implies_true, if_true, if_false, reduceIte, reduceCtorEq, Nat.reduceEqDiff, Nat.reduceAdd, Nat.reduceLT, ↓us_icallHeads, r_icallHeads, h12.facts, h2.facts, fMg, fQg]
  refine m_call (icallHead_ok nm st v cs b s [112] hM _ (by first | exact h.ext hx12 | exact h.ext (dr hx12))) ?_
  rintro _ w3 hx3 rfl
  have hx3 : Ext w2 w3 := by first | exact hx3 | exact ud hx3 | exact ud (ud hx3)
  have hx13 := hx12.trans hx3
  have h13 := h12.ext hx3
  have h23 := h2.ext hx3
  simp only [↓vsd, vsn, gW, qd, qv, ev, pick, argE, zipE, ne_eq, eq_self, forall_const, implies_true, if_true, if_false, reduceIte, reduceCtorEq, Nat.reduceEqDiff, Nat.reduceAdd, Nat.reduceLT, ↓us_icallHeads, r_icallHeads, h13.facts, h23.facts, fMg, fQg]
  refine m_call (icallHead_ok nm st v cs b s [98] hM _ (by first | exact h.ext hx13 | exact h.ext (dr hx13))) ?_
  rintro _ w4 hx4 rfl
  have hx4 : Ext w3 w4 := by first | exact hx4 | exact ud hx4 | exact ud (ud hx4)
  have hx14 := hx13.trans hx4
  have h14 := h13.ext hx4
  have h24 := h23.ext hx4
  simp only [↓vsd, vsn, gW, qd, qv, ev, pick, argE, zipE, ne_eq, eq_self, forall_const, implies_true, if_true, if_false, reduceIte, reduceCtorEq, Nat.reduceEqDiff, Nat.reduceAdd, Nat.reduceLT, ↓us_icallHeads, r_icallHeads, h14.facts, h24.facts, fMg, fQg]
  refine m_call (icallHead_ok nm st v cs b s [115] hM _ (by first | exact h.ext hx14 | exact h.ext (dr hx14))) ?_
  rintro _ w5 hx5 rfl
  have hx5 : Ext w4 w5 := by first | exact hx5 | exact ud hx5 | exact ud (ud hx5)
  simp only [↓vsd, vsn, gW, qd, qv, ev, pick, argE, zipE, ne_eq, eq_self, forall_const, implies_true, if_true, if_false, reduceIte, reduceCtorEq, Nat.reduceEqDiff, Nat.reduceAdd, Nat.reduceLT, ↓us_icallHeads, r_icallHeads]
  refine m_bsl (by simp [S]; repeat' constructor) ?_
  rintro b6 w6 hb6 hblk6 hx6 hs6
  have hx6 : Ext w5 w6 := by first | exact hx6 | exact ud hx6 | exact ud (ud hx6)
  simp only [↓vsd, vsn, gW, qd, qv, ev, pick, argE, zipE, ne_eq, eq_self, forall_const, implies_true, if_true, if_false, reduceIte, reduceCtorEq, Nat.reduceEqDiff, Nat.reduceAdd, Nat.reduceLT, ↓us_icallHeads, r_icallHeads]
  have hx15 := hx14.trans hx5
  exact ⟨hx15.trans hx6, by rw [headsC, if_pos hM]; exact (Own.lit40 [headC st cs b s [112], headC st cs b s [98], headC st cs b s [115]] fS_len hblk6 rfl rfl (by omega) (by simp)).mono hx15.size⟩
section
variable (nm : List UInt8) (st : Int) (v : Value) (cs : List (List UInt8)) (b s : List UInt8) (hnm : nm.length ≤ 1048576) (hs : ∀ c ∈ cs, c.length ≤ 1048576) (hl : cs.length ≤ 1000000000) (hb : b.length ≤ 1048576 ∧ s.length ≤ 1048576)
include hnm hs hl hb
end
end Go.Proofs.Ytnhealghpfjdcaa
