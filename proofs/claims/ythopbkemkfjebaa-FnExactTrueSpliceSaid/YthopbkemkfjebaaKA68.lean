/-
  SpliceRows returns what the reference's returns: the law.
  Conditions: none.
-/
import Derived.Test.YthopbkemkfjebaaKA67
set_option linter.unusedSimpArgs false
set_option linter.unusedVariables false
set_option linter.defProp false
namespace Go.Proofs.Ythopbkemkfjebaa
open Go Go.RowKit
section
variable (P : Program) (k : KT) (e : Env) (w : World)
abbrev b43_1 : X := (.cond (.t 11) (.seq (.reg [4] (.c (.q 4 [] (.mv (.c (.int .i64 (-1))))) .nil)) .ret) .skip)
def t43_1 := b43_1
theorem u43_1 : vcK P t43_1 k e w = vcK P b43_1 k e w := rfl
abbrev b43_2 : X := (.cond (.t 15) .skip (.exit 0))
def t43_2 := b43_2
theorem u43_2 : vcK P t43_2 k e w = vcK P b43_2 k e w := rfl
abbrev b43_3 : X := (.cond (.t 25) (.seq (.reg [4] (.c (.q 4 [] (.mv (.c (.int .i64 (-1))))) .nil)) .ret) .skip)
def t43_3 := b43_3
theorem u43_3 : vcK P t43_3 k e w = vcK P b43_3 k e w := rfl
abbrev b43_4 : X := (.seq (.reg [0, 1, 5, 25] (.c (.q 24 [] (.mv (.t 1))) (.c (.q 25 [] (.bin .lss (.t 24) (.c (.int .i64 0)))) .nil))) t43_3)
def t43_4 := b43_4
theorem u43_4 : vcK P t43_4 k e w = vcK P b43_4 k e w := rfl
abbrev b43_5 : X := (.reg [0, 1, 5] (.c (.q 16 [] (.mv (.t 5))) (.c (.q 17 [] (.bin .add (.t 16) (.c (.int .i64 1)))) (.c (.q 5 [] (.mv (.t 17))) .nil))))
def t43_5 := b43_5
theorem u43_5 : vcK P t43_5 k e w = vcK P b43_5 k e w := rfl
abbrev b43_6 : X := (.seq (.blk 1 (.seq (.reg [0, 1, 5] (.c (.q 18 [] (.mv (.t 0))) (.c (.q 19 [] (.mv (.t 5))) (.c (.q 20 [] (.ia 3 (.t 18) (.t 19))) (.c (.q 21 [] (.lda 3 (.t 20))) (.c (.q 22 [] (.mv (.t 1))) (.c (.e (some 23) [] (.call false 97 [(.t 21), (.t 22)])) (.c (.q 1 [] (.mv (.t 23))) .nil)))))))) t43_4)) t43_5)
def t43_6 := b43_6
theorem u43_6 : vcK P t43_6 k e w = vcK P b43_6 k e w := rfl
abbrev b43_7 : X := (.seq (.seq (.reg [0, 1, 5, 15] (.c (.q 12 [] (.mv (.t 5))) (.c (.q 13 [] (.mv (.t 0))) (.c (.q 14 [] (.lens (.t 13))) (.c (.q 15 [] (.bin .lss (.t 12) (.t 14))) .nil))))) t43_2) t43_6)
def t43_7 := b43_7
theorem u43_7 : vcK P t43_7 k e w = vcK P b43_7 k e w := rfl
abbrev b43_8 : X := (.blk 0 (.loop [1, 5] [0] t43_7))
def t43_8 := b43_8
theorem u43_8 : vcK P t43_8 k e w = vcK P b43_8 k e w := rfl
abbrev b43_9 : X := (.seq (.reg [4] (.c (.q 26 [] (.mv (.t 1))) (.c (.q 4 [] (.mv (.t 26))) .nil))) .ret)
def t43_9 := b43_9
theorem u43_9 : vcK P t43_9 k e w = vcK P b43_9 k e w := rfl
abbrev b43_10 : X := (.seq (.seq (.reg [0, 1, 5] (.c (.q 5 [] (.mv (.c (.int .i64 0)))) .nil)) t43_8) t43_9)
def t43_10 := b43_10
theorem u43_10 : vcK P t43_10 k e w = vcK P b43_10 k e w := rfl
abbrev b43_11 : X := (.seq (.seq (.reg [0, 1, 11] (.c (.q 10 [] (.mv (.t 1))) (.c (.q 11 [] (.bin .lss (.t 10) (.c (.int .i64 0)))) .nil))) t43_1) t43_10)
def t43_11 := b43_11
theorem u43_11 : vcK P t43_11 k e w = vcK P b43_11 k e w := rfl
abbrev b43_12 : X := (.seq (.reg [0, 1] (.c (.q 6 [] (.mv (.t 1))) (.c (.q 7 [] (.mv (.t 0))) (.c (.q 8 [] (.lens (.t 7))) (.c (.q 9 [] (.bin .sub (.t 6) (.t 8))) (.c (.q 1 [] (.mv (.t 9))) .nil)))))) t43_11)
def t43_12 := b43_12
theorem u43_12 : vcK P t43_12 k e w = vcK P b43_12 k e w := rfl
abbrev b43_0 : X := (.seq (.reg [0, 1] (.c (.q 4 [] (.mv (.c (.int .i64 0)))) .nil)) t43_12)
def x_lszMethodS := b43_0
theorem u43_0 : vcK P x_lszMethodS k e w = vcK P b43_0 k e w := rfl
def r_lszMethodS : List XO := [(.mv (.t 4))]
theorem c_lszMethodS : convF Try.prog [54, 55, 58, 69, 70, 71, 72, 73, 84, 89, 94, 95, 113, 114, 115, 130, 134, 143, 146, 161] Try.f43 [([0, 1], []), ([0, 1], []), ([0, 1, 11], []), ([4], []), ([0, 1, 5], []), ([1, 5], [0]), ([0, 1, 5, 15], []), ([0, 1, 5], []), ([0, 1, 5, 25], []), ([4], []), ([0, 1, 5], []), ([4], [])] = some (x_lszMethodS, r_lszMethodS) := by kernel_rfl
def us_lszMethodS :=  (aI (aI (aI @u43_0 (aI @u43_1 @u43_2)) (aI @u43_3 (aI @u43_4 @u43_5))) (aI (aI @u43_6 (aI @u43_7 @u43_8)) (aI (aI @u43_9 @u43_10) (aI @u43_11 @u43_12))))
abbrev b46_1 : X := (.cond (.t 11) .skip (.exit 0))
def t46_1 := b46_1
theorem u46_1 : vcK P t46_1 k e w = vcK P b46_1 k e w := rfl
abbrev b46_2 : X := (.reg [0, 3, 4] (.c (.q 12 [] (.mv (.t 4))) (.c (.q 13 [] (.bin .add (.t 12) (.c (.int .i64 1)))) (.c (.q 4 [] (.mv (.t 13))) .nil))))
def t46_2 := b46_2
theorem u46_2 : vcK P t46_2 k e w = vcK P b46_2 k e w := rfl
abbrev b46_3 : X := (.seq (.blk 1 (.reg [0, 3, 4] (.c (.q 14 [] (.mv (.t 3))) (.c (.q 15 [] (.mv (.t 4))) (.c (.q 16 [] (.mv (.t 0))) (.c (.q 17 [] (.mv (.t 4))) (.c (.q 18 [] (.ia 3 (.t 16) (.t 17))) (.c (.q 19 [] (.lda 3 (.t 18))) (.c (.e (some 20) [] (.call false 104 [(.t 19)])) (.c (.q 21 [] (.ia 3 (.t 14) (.t 15))) (.c (.e none [] (.st 3 (.t 21) (.t 20))) .nil))))))))))) t46_2)
def t46_3 := b46_3
theorem u46_3 : vcK P t46_3 k e w = vcK P b46_3 k e w := rfl
abbrev b46_4 : X := (.seq (.seq (.reg [0, 3, 4, 11] (.c (.q 8 [] (.mv (.t 4))) (.c (.q 9 [] (.mv (.t 0))) (.c (.q 10 [] (.lens (.t 9))) (.c (.q 11 [] (.bin .lss (.t 8) (.t 10))) .nil))))) t46_1) t46_3)
def t46_4 := b46_4
theorem u46_4 : vcK P t46_4 k e w = vcK P b46_4 k e w := rfl
abbrev b46_5 : X := (.blk 0 (.loop [4] [0, 3] t46_4))
def t46_5 := b46_5
theorem u46_5 : vcK P t46_5 k e w = vcK P b46_5 k e w := rfl
abbrev b46_6 : X := (.seq (.reg [2] (.c (.q 22 [] (.mv (.t 3))) (.c (.q 2 [] (.mv (.t 22))) .nil))) .ret)
def t46_6 := b46_6
theorem u46_6 : vcK P t46_6 k e w = vcK P b46_6 k e w := rfl
abbrev b46_7 : X := (.seq (.seq (.reg [0, 3, 4] (.c (.q 4 [] (.mv (.c (.int .i64 0)))) .nil)) t46_5) t46_6)
def t46_7 := b46_7
theorem u46_7 : vcK P t46_7 k e w = vcK P b46_7 k e w := rfl
abbrev b46_8 : X := (.seq (.reg [0, 3] (.c (.q 5 [] (.mv (.t 0))) (.c (.q 6 [] (.lens (.t 5))) (.c (.e (some 7) [] (.msl 61 68 3 48 [(S []), (.int .i64 0), (.slice none 0 0)] (.t 6) (.t 6))) (.c (.q 3 [] (.mv (.t 7))) .nil))))) t46_7)
def t46_8 := b46_8
theorem u46_8 : vcK P t46_8 k e w = vcK P b46_8 k e w := rfl
abbrev b46_0 : X := (.seq (.reg [0] (.c (.q 2 [] (.mv (.c (.slice none 0 0)))) .nil)) t46_8)
def x_ltoMethodS := b46_0
theorem u46_0 : vcK P x_ltoMethodS k e w = vcK P b46_0 k e w := rfl
def r_ltoMethodS : List XO := [(.mv (.t 2))]
theorem c_ltoMethodS : convF Try.prog [54, 55, 58, 69, 70, 71, 72, 73, 84, 89, 94, 95, 113, 114, 115, 130, 134, 143, 146, 161] Try.f46 [([0], []), ([0, 3], []), ([0, 3, 4], []), ([4], [0, 3]), ([0, 3, 4, 11], []), ([0, 3, 4], []), ([0, 3, 4], []), ([2], [])] = some (x_ltoMethodS, r_ltoMethodS) := by kernel_rfl
def us_ltoMethodS :=  (aI (aI (aI @u46_0 @u46_1) (aI @u46_2 @u46_3)) (aI (aI @u46_4 @u46_5) (aI @u46_6 (aI @u46_7 @u46_8))))
abbrev b49_1 : X := (.cond (.t 10) (.seq (.reg [4] (.c (.q 4 [] (.mv (.c (.bool false)))) .nil)) .ret) .skip)
def t49_1 := b49_1
theorem u49_1 : vcK P t49_1 k e w = vcK P b49_1 k e w := rfl
abbrev b49_2 : X := (.cond (.t 14) .skip (.exit 0))
def t49_2 := b49_2
theorem u49_2 : vcK P t49_2 k e w = vcK P b49_2 k e w := rfl
abbrev b49_3 : X := (.cond (.t 26) (.seq (.reg [4] (.c (.q 4 [] (.mv (.c (.bool false)))) .nil)) .ret) .skip)
def t49_3 := b49_3
theorem u49_3 : vcK P t49_3 k e w = vcK P b49_3 k e w := rfl
abbrev b49_4 : X := (.reg [0, 1, 5] (.c (.q 15 [] (.mv (.t 5))) (.c (.q 16 [] (.bin .add (.t 15) (.c (.int .i64 1)))) (.c (.q 5 [] (.mv (.t 16))) .nil))))
def t49_4 := b49_4
theorem u49_4 : vcK P t49_4 k e w = vcK P b49_4 k e w := rfl
abbrev b49_5 : X := (.seq (.blk 1 (.seq (.drw [0, 1, 5, 26] (.c (.q 17 [] (.mv (.t 0))) (.c (.q 18 [] (.mv (.t 5))) (.c (.q 19 [] (.ia 3 (.t 17) (.t 18))) (.c (.q 20 [] (.lda 3 (.t 19))) (.c (.q 21 [] (.mv (.t 1))) (.c (.q 22 [] (.mv (.t 5))) (.c (.q 23 [] (.ia 3 (.t 21) (.t 22))) (.c (.q 24 [] (.lda 3 (.t 23))) (.c (.e (some 25) [] (.call false 112 [(.t 20), (.t 24)])) (.c (.q 26 [] (.not (.t 25))) .nil))))))))))) t49_3)) t49_4)
def t49_5 := b49_5
theorem u49_5 : vcK P t49_5 k e w = vcK P b49_5 k e w := rfl
abbrev b49_6 : X := (.seq (.seq (.reg [0, 1, 5, 14] (.c (.q 11 [] (.mv (.t 5))) (.c (.q 12 [] (.mv (.t 0))) (.c (.q 13 [] (.lens (.t 12))) (.c (.q 14 [] (.bin .lss (.t 11) (.t 13))) .nil))))) t49_2) t49_5)
def t49_6 := b49_6
theorem u49_6 : vcK P t49_6 k e w = vcK P b49_6 k e w := rfl
abbrev b49_7 : X := (.blk 0 (.loop [5] [0, 1] t49_6))
def t49_7 := b49_7
theorem u49_7 : vcK P t49_7 k e w = vcK P b49_7 k e w := rfl
abbrev b49_8 : X := (.seq (.reg [4] (.c (.q 4 [] (.mv (.c (.bool true)))) .nil)) .ret)
def t49_8 := b49_8
theorem u49_8 : vcK P t49_8 k e w = vcK P b49_8 k e w := rfl
abbrev b49_9 : X := (.seq (.seq (.reg [0, 1, 5] (.c (.q 5 [] (.mv (.c (.int .i64 0)))) .nil)) t49_7) t49_8)
def t49_9 := b49_9
theorem u49_9 : vcK P t49_9 k e w = vcK P b49_9 k e w := rfl
abbrev b49_10 : X := (.seq (.seq (.reg [0, 1, 10] (.c (.q 6 [] (.mv (.t 0))) (.c (.q 7 [] (.lens (.t 6))) (.c (.q 8 [] (.mv (.t 1))) (.c (.q 9 [] (.lens (.t 8))) (.c (.q 10 [] (.bin .neq (.t 7) (.t 9))) .nil)))))) t49_1) t49_9)
def t49_10 := b49_10
theorem u49_10 : vcK P t49_10 k e w = vcK P b49_10 k e w := rfl
abbrev b49_0 : X := (.seq (.reg [0, 1] (.c (.q 4 [] (.mv (.c (.bool false)))) .nil)) t49_10)
def x_leqMethodS := b49_0
theorem u49_0 : vcK P x_leqMethodS k e w = vcK P b49_0 k e w := rfl
def r_leqMethodS : List XO := [(.mv (.t 4))]
theorem c_leqMethodS : convF Try.prog [54, 55, 58, 69, 70, 71, 72, 73, 84, 89, 94, 95, 113, 114, 115, 130, 134, 143, 146, 161] Try.f49 [([0, 1], []), ([0, 1, 10], []), ([4], []), ([0, 1, 5], []), ([5], [0, 1]), ([0, 1, 5, 14], []), ([0, 1, 5, 26], []), ([4], []), ([0, 1, 5], []), ([4], [])] = some (x_leqMethodS, r_leqMethodS) := by kernel_rfl
def us_leqMethodS :=  (aI (aI (aI @u49_0 @u49_1) (aI @u49_2 (aI @u49_3 @u49_4))) (aI (aI @u49_5 (aI @u49_6 @u49_7)) (aI @u49_8 (aI @u49_9 @u49_10))))
end
def offM (ls : List (List (List UInt8))) (i : Nat) : Nat := (ls.take i).flatten.length
theorem offM_succ (ls : List (List (List UInt8))) (i : Nat) (h : i < ls.length) : offM ls (i + 1) = offM ls i + (ls.getD i []).length := by
  unfold offM
  rw [List.take_add_one, List.getElem?_eq_getElem h, List.flatten_append, List.length_append, List.getD_eq_getElem?_getD, List.getElem?_eq_getElem h]
  simp
theorem offM_all (ls : List (List (List UInt8))) : offM ls ls.length = ls.flatten.length := by rw [offM, List.take_length]
/-- Methods of the same names and stages. -/
def SameM (ms ms' : List MS) : Prop := ms'.length = ms.length ∧ ∀ i, (ms'.getD i MS.nil).nm = (ms.getD i MS.nil).nm ∧ (ms'.getD i MS.nil).st = (ms.getD i MS.nil).st
theorem sameM_spl {ms ms' : List MS} (h : SameM ms ms') (css : List (List (List UInt8))) (b s : List UInt8) : SplM ms' css b s ↔ SplM ms css b s := by
  unfold SplM
  simp only [h.1, (h.2 _).1, (h.2 _).2]
theorem sameM_small {ms ms' : List MS} {css : List (List (List UInt8))} (h : SameM ms ms') (hs : MSmall ms css) : MSmall ms' css := by
  unfold MSmall at *
  simp only [h.1, (h.2 _).1]
  exact hs
/-- Only blocks from B to T are written. -/
structure Btw (B T : Nat) (w w' : World) : Prop where
  os : w'.os = w.os
  tape : w'.tape = w.tape
  output : w'.output = w.output
  size : w.heap.size ≤ w'.heap.size
  block : ∀ g, g < w.heap.size → (g < B ∨ T ≤ g) → w'.heap[g]? = w.heap[g]?
theorem Btw.refl (B T : Nat) (w : World) : Btw B T w w := ⟨rfl, rfl, rfl, Nat.le_refl _, fun _ _ _ => rfl⟩
theorem Btw.trans {B T : Nat} {w w' w'' : World} (h : Btw B T w w') (h' : Btw B T w' w'') : Btw B T w w'' := ⟨h'.os.trans h.os, h'.tape.trans h.tape, h'.output.trans h.output, Nat.le_trans h.size h'.size, fun g hg hn => (h'.block g (Nat.lt_of_lt_of_le hg h.size) hn).trans (h.block g hg hn)⟩
theorem Btw.ext {B T : Nat} {w w' : World} (h : Ext w w') : Btw B T w w' := ⟨h.os, h.tape, h.output, h.size, fun g hg _ => h.block hg⟩
theorem Btw.grown {B T : Nat} {w w' : World} {r : Option Nat} (h : w.grownBy w' r) (hr : ∀ c, r = some c → B ≤ c ∧ c < T) : Btw B T w w' := ⟨h.os, h.tape, h.output, h.size, fun g hg hn => h.block g hg fun e => by have := hr g e.symm; omega⟩
/-- An own slice of methods, each with a slice of its own. -/
def MNest (B T : Nat) (w : World) (v : Value) (ms : List MS) (css : List (List (List UInt8))) : Prop := (Own fMS 3 68 B w v ms ∧ ∀ c, v.ownBlock = some c → c < T) ∧ css.length = ms.length ∧ ∀ i < ms.length, Own fS 1 9 B w (ms.getD i MS.nil).sv.v (css.getD i []) ∧ (∀ c, (ms.getD i MS.nil).sv.v.ownBlock = some c → v.ownBlock ≠ some c ∧ c < T) ∧ ∀ j < i, ∀ c, (ms.getD j MS.nil).sv.v.ownBlock = some c → (ms.getD i MS.nil).sv.v.ownBlock ≠ some c
theorem MNest.sq {B T : Nat} {w : World} {v : Value} {ms : List MS} {css : List (List (List UInt8))} (h : MNest B T w v ms css) : SqM w v ms css := ⟨h.1.1.sq, h.2.1, fun i hi => (h.2.2 i hi).1.sq⟩
theorem MNest.ext {B T : Nat} {w w' : World} {v : Value} {ms : List MS} {css : List (List (List UInt8))} (h : MNest B T w v ms css) (hx : Ext w w') : MNest B T w' v ms css := ⟨⟨h.1.1.ext hx, h.1.2⟩, h.2.1, fun i hi => ⟨(h.2.2 i hi).1.ext hx, (h.2.2 i hi).2⟩⟩
theorem lszStringS_ok2 (v : Value) (l : List (List UInt8)) (n : Int) (hn : 0 ≤ n ∧ n ≤ 1048576) (hl : l.length ≤ 9223372036854775807) (hs : ∀ x ∈ l, x.length ≤ 9223372036854775807) (w : World) (h : Sq fS 1 w v l) :
    Fn 148 [v, .int .i64 n] w (fun v _ => ∃ m : Int, v = .int .i64 m ∧ m ≤ 1048576 ∧ (0 ≤ m → m + l.length ≤ n ∧ ∀ x ∈ l, x.length ≤ 1048576)) := by
  (refine callsV_of mix Try.func148 c_lszStringS ?_; simp only [↓vsd, vsn, gW, qd, qv, ev, pick, argE, zipE, ne_eq, eq_self, forall_const, implies_true, if_true, if_false, reduceIte, reduceCtorEq, Nat.reduceEqDiff, Nat.reduceAdd, Nat.reduceLT, ↓us_lszStringS, r_lszStringS])
  simp only [↓vsd, vsn, gW, qd, qv, ev, pick, argE, zipE, ne_eq, eq_self, forall_const, implies_true, if_true, if_false, reduceIte, reduceCtorEq, Nat.reduceEqDiff, Nat.reduceAdd, Nat.reduceLT, ↓us_lszStringS, r_lszStringS, h.facts]
  refine ⟨inR_i64 (by omega), fun hlt => ⟨Ext.refl _, -1, rfl, by omega, fun h => by omega⟩, fun hge => ?_⟩
  refine m_upto l.length (fun k vs w' => ∃ m : Int, vs = [.int .i64 m, .int .i64 k] ∧ 0 ≤ m ∧ m + l.length ≤ n ∧ (∀ x ∈ l.take k, x.length ≤ 1048576) ∧ Ext w w') ⟨_, rfl, by omega, by omega, by simp, Ext.refl _⟩ ?_
  rintro k vs w1 hk ⟨m, rfl, h0, h1, hall, hx⟩
  have hq := h.ext hx
  by_cases hlt : k < l.length
  · have hltI : (k : Int) < l.length := by omega
    have hltJ : ¬ (l.length : Int) ≤ k := by omega
    have := hs _ (getD_mem [] hlt)
    simp only [↓vsd, vsn, gW, qd, qv, ev, pick, argE, zipE, ne_eq, eq_self, forall_const, implies_true, if_true, if_false, reduceIte, reduceCtorEq, Nat.reduceEqDiff, Nat.reduceAdd, Nat.reduceLT, ↓us_lszStringS, r_lszStringS, hq.facts, hq.at1 [] hlt, hltI, hltJ]
    refine ⟨by omega, inR_i64 (by omega), fun _ => ⟨hx, -1, rfl, by omega, fun h => by omega⟩, fun hge2 => ⟨inR_i64 (by omega), UpTo.next hlt ⟨_, rfl, by omega, by omega, fun x hx' => ?_, hx⟩⟩⟩
    rcases mem_take (d := []) hlt hx' with h | rfl
    · exact hall x h
    · omega
  · obtain rfl : k = l.length := by omega
    have hltI : ¬ (l.length : Int) < l.length := by omega
    simp only [↓vsd, vsn, gW, qd, qv, ev, pick, argE, zipE, ne_eq, eq_self, forall_const, implies_true, if_true, if_false, reduceIte, reduceCtorEq, Nat.reduceEqDiff, Nat.reduceAdd, Nat.reduceLT, ↓us_lszStringS, r_lszStringS, hq.facts, hltI]
    exact ⟨hx, m, rfl, by omega, fun _ => ⟨h1, by simpa using hall⟩⟩
theorem lszMethod_ok2 (nm : List UInt8) (st : Int) (v : Value) (cs : List (List UInt8)) (n : Int) (hn : 0 ≤ n ∧ n ≤ 1048576) (hnm : nm.length ≤ 9223372036854775807) (hl : cs.length ≤ 9223372036854775807) (hs : ∀ x ∈ cs, x.length ≤ 9223372036854775807) (w : World) (h : Sq fS 1 w v cs) :
    Fn 97 [mV nm st v, .int .i64 n] w (fun r _ => ∃ m : Int, r = .int .i64 m ∧ m ≤ 1048576 ∧ (0 ≤ m → nm.length ≤ 1048576 ∧ m + cs.length ≤ n ∧ ∀ x ∈ cs, x.length ≤ 1048576)) := by
  (refine callsV_of mix Try.func97 c_lszMethod ?_; simp only [↓vsd, vsn, gW, qd, qv, ev, pick, argE, zipE, ne_eq, eq_self, forall_const, implies_true, if_true, if_false, reduceIte, reduceCtorEq, Nat.reduceEqDiff, Nat.reduceAdd, Nat.reduceLT, ↓us_lszMethod, r_lszMethod])
  refine m_al ?_
  rintro b w1 hb hblk hx1 hs1
  have h1 : Blk w1 b (fM nm st v) 116 := hblk
  have hq1 := h.ext hx1
  simp only [↓vsd, vsn, gW, qd, qv, ev, pick, argE, zipE, ne_eq, eq_self, forall_const, implies_true, if_true, if_false, reduceIte, reduceCtorEq, Nat.reduceEqDiff, Nat.reduceAdd, Nat.reduceLT, ↓us_lszMethod, r_lszMethod, h1.facts, fMg]
  refine ⟨inR_i64 (by omega), fun hneg => ⟨hx1, -1, rfl, by omega, fun h => by omega⟩, fun hpos => ?_⟩
  refine m_call (lszStringS_ok2 v cs _ ⟨hpos, by omega⟩ hl hs _ hq1) ?_
  rintro _ w2 hx2 ⟨m, rfl, hm1, hm2⟩
  simp only [↓vsd, vsn, gW, qd, qv, ev, pick, argE, zipE, ne_eq, eq_self, forall_const, implies_true, if_true, if_false, reduceIte, reduceCtorEq, Nat.reduceEqDiff, Nat.reduceAdd, Nat.reduceLT, ↓us_lszMethod, r_lszMethod]
  refine ⟨fun hneg => ⟨hx1.trans hx2, -1, rfl, by omega, fun h => by omega⟩, fun hp => ⟨hx1.trans hx2, m, rfl, hm1, fun _ => ⟨by omega, by have := (hm2 hp).1; omega, (hm2 hp).2⟩⟩⟩
/-- No part is longer than a slice can be. -/
def MBig (ms : List MS) (css : List (List (List UInt8))) : Prop := ms.length ≤ 9223372036854775807 ∧ ∀ i < ms.length, (ms.getD i MS.nil).nm.length ≤ 9223372036854775807 ∧ (css.getD i []).length ≤ 9223372036854775807 ∧ ∀ c ∈ css.getD i [], c.length ≤ 9223372036854775807
theorem lszMethodS_ok (v : Value) (ms : List MS) (css : List (List (List UInt8))) (n : Int) (hn : 0 ≤ n ∧ n ≤ 1048576) (hB : MBig ms css) (w : World) (h : SqM w v ms css) :
    Fn 43 [v, .int .i64 n] w (fun v _ => ∃ m : Int, v = .int .i64 m ∧ m ≤ 1048576 ∧ (0 ≤ m → MSmall ms css ∧ css.flatten.length ≤ 1048576)) := by
  (refine callsV_of mix Try.func43 c_lszMethodS ?_; simp only [↓vsd, vsn, gW, qd, qv, ev, pick, argE, zipE, ne_eq, eq_self, forall_const, implies_true, if_true, if_false, reduceIte, reduceCtorEq, Nat.reduceEqDiff, Nat.reduceAdd, Nat.reduceLT, ↓us_lszMethodS, r_lszMethodS])
  simp only [↓vsd, vsn, gW, qd, qv, ev, pick, argE, zipE, ne_eq, eq_self, forall_const, implies_true, if_true, if_false, reduceIte, reduceCtorEq, Nat.reduceEqDiff, Nat.reduceAdd, Nat.reduceLT, ↓us_lszMethodS, r_lszMethodS, h.1.facts]
  have hl := hB.1
  refine ⟨inR_i64 (by omega), fun hneg => ⟨Ext.refl _, -1, rfl, by omega, fun hh => by omega⟩, fun hpos => ?_⟩
  refine m_upto ms.length (fun i vs w' => ∃ m : Int, vs = [.int .i64 m, .int .i64 i] ∧ 0 ≤ m ∧ m + offM css i ≤ 1048576 ∧ (∀ j < i, (ms.getD j MS.nil).nm.length ≤ 1048576 ∧ (css.getD j []).length ≤ 1048576 ∧ ∀ c ∈ css.getD j [], c.length ≤ 1048576) ∧ Ext w w') ⟨n - ms.length, rfl, by omega, by simp [offM]; omega, fun j hj => by omega, Ext.refl _⟩ ?_
  rintro i vs w1 hi ⟨m, rfl, hm0, hm1, hall, hx1⟩
  have hq1 := h.ext hx1
  have hq1f := hq1.1.facts
  by_cases hlt : i < ms.length
  · have hltI : (i : Int) < ms.length := by omega
    have hltJ : ¬ (ms.length : Int) ≤ i := by omega
    have a1 := hq1.1.ata MS.nil hlt
    have hss := hB.2 _ hlt
    have hin := hq1.2.2 i hlt
    have hof := offM_succ css i (by rw [h.2.1]; exact hlt)
    simp only [↓vsd, vsn, gW, qd, qv, ev, pick, argE, zipE, ne_eq, eq_self, forall_const, implies_true, if_true, if_false, reduceIte, reduceCtorEq, Nat.reduceEqDiff, Nat.reduceAdd, Nat.reduceLT, ↓us_lszMethodS, r_lszMethodS, hltI, hltJ, hq1f, a1]
    refine ⟨by omega, m_call (lszMethod_ok2 (ms.getD i MS.nil).nm (ms.getD i MS.nil).st (ms.getD i MS.nil).sv.v (css.getD i []) m ⟨hm0, by omega⟩ hss.1 hss.2.1 hss.2.2 _ (by first | exact hin | exact hin.ext (dr (Ext.refl _)))) ?_⟩
    rintro _ w2 hx2 ⟨m2, rfl, hm21, hm2⟩
    have hx2 : Ext w1 w2 := by first | exact hx2 | exact ud hx2 | exact ud (ud hx2)
    simp only [↓vsd, vsn, gW, qd, qv, ev, pick, argE, zipE, ne_eq, eq_self, forall_const, implies_true, if_true, if_false, reduceIte, reduceCtorEq, Nat.reduceEqDiff, Nat.reduceAdd, Nat.reduceLT, ↓us_lszMethodS, r_lszMethodS]
    refine ⟨fun hneg => ⟨hx1.trans hx2, -1, rfl, by omega, fun hh => by omega⟩, fun hpos2 => ⟨inR_i64 (by omega), UpTo.next hlt ⟨m2, by simp, hpos2, by have := (hm2 hpos2).2.1; omega, fun j hj => ?_, hx1.trans hx2⟩⟩⟩
    by_cases hji : j = i
    · subst hji; exact ⟨(hm2 hpos2).1, by have := (hm2 hpos2).2.1; omega, (hm2 hpos2).2.2⟩
    · exact hall j (by omega)
  · obtain rfl : i = ms.length := by omega
    have hltI : ¬ (ms.length : Int) < ms.length := by omega
    simp only [↓vsd, vsn, gW, qd, qv, ev, pick, argE, zipE, ne_eq, eq_self, forall_const, implies_true, if_true, if_false, reduceIte, reduceCtorEq, Nat.reduceEqDiff, Nat.reduceAdd, Nat.reduceLT, ↓us_lszMethodS, r_lszMethodS, hq1f, hltI]
    have hoa := offM_all css
    rw [h.2.1] at hoa
    exact ⟨hx1, m, rfl, by omega, fun _ => ⟨⟨by omega, hall⟩, by omega⟩⟩
theorem ltoMethodS_ok (v : Value) (ms : List MS) (css : List (List (List UInt8))) (hl : MSmall ms css) (w : World) (h : SqM w v ms css) : Fn 46 [v] w (fun r w' => ∃ ms', SameM ms ms' ∧ MNest w.heap.size w'.heap.size w' r ms' css) := by
  have hll := hl.1
  (refine callsV_of mix Try.func46 c_ltoMethodS ?_; simp only [↓vsd, vsn, gW, qd, qv, ev, pick, argE, zipE, ne_eq, eq_self, forall_const, implies_true, if_true, if_false, reduceIte, reduceCtorEq, Nat.reduceEqDiff, Nat.reduceAdd, Nat.reduceLT, ↓us_ltoMethodS, r_ltoMethodS])
  simp only [↓vsd, vsn, gW, qd, qv, ev, pick, argE, zipE, ne_eq, eq_self, forall_const, implies_true, if_true, if_false, reduceIte, reduceCtorEq, Nat.reduceEqDiff, Nat.reduceAdd, Nat.reduceLT, ↓us_ltoMethodS, r_ltoMethodS, h.1.facts]
  refine m_msl MS.nil fMS_len rfl (by omega) (by decide) (Nat.le_refl _) ?_
  rintro o1 w1 ho1 hb1 hx1
  simp only [↓vsd, vsn, gW, qd, qv, ev, pick, argE, zipE, ne_eq, eq_self, forall_const, implies_true, if_true, if_false, reduceIte, reduceCtorEq, Nat.reduceEqDiff, Nat.reduceAdd, Nat.reduceLT, ↓us_ltoMethodS, r_ltoMethodS]
  refine m_upto ms.length (fun i vs w' => vs = [.int .i64 i] ∧ (∃ ms', ms'.length = ms.length ∧ Own fMS 3 68 w.heap.size w' o1 ms' ∧ ∀ j < i, ((ms'.getD j MS.nil).nm = (ms.getD j MS.nil).nm ∧ (ms'.getD j MS.nil).st = (ms.getD j MS.nil).st) ∧ Own fS 1 9 w.heap.size w' (ms'.getD j MS.nil).sv.v (css.getD j []) ∧ (∀ c, (ms'.getD j MS.nil).sv.v.ownBlock = some c → o1.ownBlock ≠ some c) ∧ ∀ j' < j, ∀ c, (ms'.getD j' MS.nil).sv.v.ownBlock = some c → (ms'.getD j MS.nil).sv.v.ownBlock ≠ some c) ∧ Ext w w') ⟨rfl, ⟨_, by simp, ho1, fun j hj => by omega⟩, hx1⟩ ?_
  rintro i vs w2 hi ⟨rfl, ⟨us, hul, hou, hin⟩, hx2⟩
  have hq2 := h.ext hx2
  have hq2f := hq2.1.facts
  by_cases hlt : i < ms.length
  · have hltI : (i : Int) < ms.length := by omega
    have hltJ : ¬ (ms.length : Int) ≤ i := by omega
    have a2 := hq2.1.ata MS.nil hlt
    have hcc := hq2.2.2 i hlt
    simp only [↓vsd, vsn, gW, qd, qv, ev, pick, argE, zipE, ne_eq, eq_self, forall_const, implies_true, if_true, if_false, reduceIte, reduceCtorEq, Nat.reduceEqDiff, Nat.reduceAdd, Nat.reduceLT, ↓us_ltoMethodS, r_ltoMethodS, hltI, hltJ, hq2f, a2]
    refine ⟨by omega, m_call (ltoMethod_ok (ms.getD i MS.nil).nm (ms.getD i MS.nil).st (ms.getD i MS.nil).sv.v (css.getD i []) (hl.2 i hlt).2.1 _ (by first | exact hcc | exact hcc.ext (dr (Ext.refl _)))) ?_⟩
    rintro _ w3 hx3 ⟨y, rfl, hoy⟩
    have hx3 : Ext w2 w3 := by first | exact hx3 | exact ud hx3 | exact ud (ud hx3)
    obtain ⟨sv, rfl⟩ := hoy.sq.sv
    have hou3 := hou.ext hx3
    have hou3f := hou3.sq.facts
    simp only [↓vsd, vsn, gW, qd, qv, ev, pick, argE, zipE, ne_eq, eq_self, forall_const, implies_true, if_true, if_false, reduceIte, reduceCtorEq, Nat.reduceEqDiff, Nat.reduceAdd, Nat.reduceLT, ↓us_ltoMethodS, r_ltoMethodS, hou3f, hul]
    refine ⟨by omega, m_set1 i (MS.mk (ms.getD i MS.nil).nm (ms.getD i MS.nil).st sv) hou3 rfl (by omega) rfl fMS_one ?_⟩
    rintro w4 ho4 hg4 _
    have hx4 : Ext w w4 := hou3.grown (hx2.trans hx3) (Nat.le_refl _) hg4
    simp only [↓vsd, vsn, gW, qd, qv, ev, pick, argE, zipE, ne_eq, eq_self, forall_const, implies_true, if_true, if_false, reduceIte, reduceCtorEq, Nat.reduceEqDiff, Nat.reduceAdd, Nat.reduceLT, ↓us_ltoMethodS, r_ltoMethodS]
    refine ⟨inR_i64 (by omega), UpTo.next hlt ⟨by simp, ⟨_, by rw [List.length_set, hul], ho4, fun j hj => ?_⟩, hx4⟩⟩
    have hne : ∀ c, sv.v.ownBlock = some c → o1.ownBlock ≠ some c := fun c hc e => by
      have := (hoy.bound c hc).1
      have := hou.lt c e
      omega
    rw [getD_set]
    by_cases hji : i = j
    · subst hji
      rw [if_pos ⟨rfl, by omega⟩]
      refine ⟨⟨rfl, rfl⟩, (hoy.off hg4 (fun c hc e => hne c e hc)).mono hx2.size, hne, fun j' hj' c hc e => ?_⟩
      rw [getD_set, if_neg (fun hh => by omega)] at hc
      have := (hin j' hj').2.1.lt c hc
      have := (hoy.bound c e).1
      omega
    · rw [if_neg (fun hh => hji hh.1)]
      obtain ⟨q0, q1, q2, q3⟩ := hin j (by omega)
      refine ⟨q0, (q1.ext hx3).off hg4 (fun c hc e => q2 c e hc), q2, fun j' hj' c hc => ?_⟩
      rw [getD_set, if_neg (fun hh => by omega)] at hc
      exact q3 j' hj' c hc
  · obtain rfl : i = ms.length := by omega
    have hltI : ¬ (ms.length : Int) < ms.length := by omega
    simp only [↓vsd, vsn, gW, qd, qv, ev, pick, argE, zipE, ne_eq, eq_self, forall_const, implies_true, if_true, if_false, reduceIte, reduceCtorEq, Nat.reduceEqDiff, Nat.reduceAdd, Nat.reduceLT, ↓us_ltoMethodS, r_ltoMethodS, hq2f, hltI]
    refine ⟨hx2, us, ⟨hul, fun j => ?_⟩, ⟨hou, fun c hc => hou.lt c hc⟩, by rw [hul]; exact h.2.1, fun j hj => ?_⟩
    · rcases Nat.lt_or_ge j ms.length with hj | hj
      · exact (hin j hj).1
      · rw [List.getD_eq_getElem?_getD, List.getD_eq_getElem?_getD, List.getElem?_eq_none (by omega), List.getElem?_eq_none hj]
        exact ⟨rfl, rfl⟩
    · obtain ⟨_, q1, q2, q3⟩ := hin j (by omega)
      exact ⟨q1, fun c hc => ⟨q2 c hc, q1.lt c hc⟩, q3⟩
theorem leqMethodS_ok (v1 v2 : Value) (m1 m2 : List MS) (css : List (List (List UInt8))) (hl : MSmall m1 css) (hS : SameM m1 m2) (w : World) (h1 : SqM w v1 m1 css) (h2 : SqM w v2 m2 css) : Fn 49 [v1, v2] w (fun r _ => r = .bool true) := by
  have hll := hl.1
  have h2l := hS.1
  (refine callsV_of mix Try.func49 c_leqMethodS ?_; simp only [↓vsd, vsn, gW, qd, qv, ev, pick, argE, zipE, ne_eq, eq_self, forall_const, implies_true, if_true, if_false, reduceIte, reduceCtorEq, Nat.reduceEqDiff, Nat.reduceAdd, Nat.reduceLT, ↓us_leqMethodS, r_leqMethodS])
  simp only [↓vsd, vsn, gW, qd, qv, ev, pick, argE, zipE, ne_eq, eq_self, forall_const, implies_true, if_true, if_false, reduceIte, reduceCtorEq, Nat.reduceEqDiff, Nat.reduceAdd, Nat.reduceLT, ↓us_leqMethodS, r_leqMethodS, h1.1.facts, h2.1.facts, h2l]
  refine m_upto m1.length (fun i vs w' => vs = [.int .i64 i] ∧ Ext w w') ⟨rfl, Ext.refl _⟩ ?_
  rintro i vs w2 hi ⟨rfl, hx2⟩
  have hq1 := h1.ext hx2
  have hq2 := h2.ext hx2
  have hf1 := hq1.1.facts
  have hf2 := hq2.1.facts
  by_cases hlt : i < m1.length
  · have hltI : (i : Int) < m1.length := by omega
    have hltJ : ¬ (m1.length : Int) ≤ i := by omega
    have hlt2 : i < m2.length := by omega
    have a1 := hq1.1.ata MS.nil hlt
    have a2 := hq2.1.ata MS.nil hlt2
    have c1 := hq1.2.2 i hlt
    have c2 := hq2.2.2 i hlt2
    simp only [↓vsd, vsn, gW, qd, qv, ev, pick, argE, zipE, ne_eq, eq_self, forall_const, implies_true, if_true, if_false, reduceIte, reduceCtorEq, Nat.reduceEqDiff, Nat.reduceAdd, Nat.reduceLT, ↓us_leqMethodS, r_leqMethodS, hltI, hltJ, hf1, hf2, a1, a2, h2l]
    refine ⟨by omega, by omega, m_call (leqMethod_ok _ _ _ _ _ _ (css.getD i []) (css.getD i []) (by have := (hl.2 i hlt).2.1; omega) _ (by first | exact c1 | exact c1.ext (dr (Ext.refl _))) (by first | exact c2 | exact c2.ext (dr (Ext.refl _)))) ?_⟩
    rintro _ w3 hx3 rfl
    have hx3 : Ext w2 w3 := by first | exact hx3 | exact ud hx3 | exact ud (ud hx3)
    have hd : decide ((m1.getD i MS.nil).nm = (m2.getD i MS.nil).nm ∧ (m1.getD i MS.nil).st = (m2.getD i MS.nil).st ∧ css.getD i [] = css.getD i []) = true := decide_eq_true ⟨(hS.2 i).1.symm, (hS.2 i).2.symm, rfl⟩
    rw [hd]
    simp only [↓vsd, vsn, gW, qd, qv, ev, pick, argE, zipE, ne_eq, eq_self, forall_const, implies_true, if_true, if_false, reduceIte, reduceCtorEq, Nat.reduceEqDiff, Nat.reduceAdd, Nat.reduceLT, ↓us_leqMethodS, r_leqMethodS]
    exact ⟨inR_i64 (by omega), UpTo.next hlt ⟨by simp, hx2.trans hx3⟩⟩
  · obtain rfl : i = m1.length := by omega
    have hltI : ¬ (m1.length : Int) < m1.length := by omega
    simp only [↓vsd, vsn, gW, qd, qv, ev, pick, argE, zipE, ne_eq, eq_self, forall_const, implies_true, if_true, if_false, reduceIte, reduceCtorEq, Nat.reduceEqDiff, Nat.reduceAdd, Nat.reduceLT, ↓us_leqMethodS, r_leqMethodS, hf1, hltI]
    exact hx2
end Go.Proofs.Ythopbkemkfjebaa
