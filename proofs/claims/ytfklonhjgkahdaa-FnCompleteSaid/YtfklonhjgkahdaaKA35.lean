/-
  The rows of a touch, of both sides.
  Conditions: none.
-/
import Derived.Test.YtfklonhjgkahdaaKA33
import Derived.Test.YtfklonhjgkahdaaKA34
set_option linter.unusedSimpArgs false
set_option linter.unusedVariables false
set_option linter.defProp false
namespace Go.Proofs.Ytfklonhjgkahdaa
open Go Go.RowKit
section
variable (P : Program) (k : KT) (e : Env) (w : World)
abbrev b70_1 : X := (.reg [3, 7, 18, 19, 20] (.c (.q 31 [] (.mv (.t 7))) (.c (.q 32 [] (.mv (.t 10))) (.c (.e (some 33) [] (.app 24 9 1 16 [(S [])] 24 (.t 31) (.t 32))) (.c (.q 7 [] (.mv (.t 33))) .nil)))))
def t70_1 := b70_1
theorem u70_1 : vcK P t70_1 k e w = vcK P b70_1 k e w := rfl
abbrev b70_2 : X := (.seq (.reg [3, 7, 10, 18, 19, 20] (.c (.q 25 [] (.fa 2 (.t 3))) (.c (.q 26 [] (.ld (.t 25))) (.c (.q 27 [] (.mv (.t 9))) (.c (.e (some 28) [] (.call false 95 [(.t 26), (.t 27)])) (.c (.q 24 [] (.mv (.t 28))) (.c (.q 29 [] (.ext 0 (.t 24))) (.c (.q 30 [] (.ext 1 (.t 24))) (.c (.q 10 [] (.mv (.t 29))) (.c (.q 11 [] (.mv (.t 30))) .nil)))))))))) t70_1)
def t70_2 := b70_2
theorem u70_2 : vcK P t70_2 k e w = vcK P b70_2 k e w := rfl
abbrev b70_3 : X := (.reg [3, 7, 18, 19, 20] (.c (.q 34 [] (.bin .add (.t 20) (.c (.int .i64 1)))) (.c (.q 20 [] (.mv (.t 34))) .nil)))
def t70_3 := b70_3
theorem u70_3 : vcK P t70_3 k e w = vcK P b70_3 k e w := rfl
abbrev b70_4 : X := (.seq (.blk 1 (.seq (.reg [3, 7, 9, 18, 19, 20] (.c (.q 22 [] (.ia 1 (.t 18) (.t 20))) (.c (.q 23 [] (.ld (.t 22))) (.c (.q 9 [] (.mv (.t 23))) .nil)))) t70_2)) t70_3)
def t70_4 := b70_4
theorem u70_4 : vcK P t70_4 k e w = vcK P b70_4 k e w := rfl
abbrev b70_5 : X := (.seq (.cond (.t 21) .skip (.exit 0)) t70_4)
def t70_5 := b70_5
theorem u70_5 : vcK P t70_5 k e w = vcK P b70_5 k e w := rfl
abbrev b70_6 : X := (.seq (.reg [3, 7, 18, 19, 20, 21] (.c (.q 21 [] (.bin .lss (.t 20) (.t 19))) .nil)) t70_5)
def t70_6 := b70_6
theorem u70_6 : vcK P t70_6 k e w = vcK P b70_6 k e w := rfl
abbrev b70_7 : X := (.blk 0 (.loop [7, 20] [3, 18, 19] t70_6))
def t70_7 := b70_7
theorem u70_7 : vcK P t70_7 k e w = vcK P b70_7 k e w := rfl
abbrev b70_8 : X := (.seq (.reg [6] (.c (.q 35 [] (.mv (.t 7))) (.c (.q 6 [] (.mv (.t 35))) .nil))) .ret)
def t70_8 := b70_8
theorem u70_8 : vcK P t70_8 k e w = vcK P b70_8 k e w := rfl
abbrev b70_9 : X := (.seq (.seq (.reg [3, 7, 18, 19, 20] (.c (.q 12 [] (.lda 3 (.t 3))) (.c (.q 13 [] (.lda 2 (.t 4))) (.c (.q 14 [] (.mv (.t 2))) (.c (.e (some 15) [] (.call false 93 [(.t 12), (.t 13), (.t 14)])) (.c (.q 16 [] (.mv (.t 2))) (.c (.q 17 [] (.len (.t 16))) (.c (.q 18 [] (.ssl 1 (.t 15) none (some (.t 17)))) (.c (.q 19 [] (.lens (.t 18))) (.c (.q 20 [] (.mv (.c (.int .i64 0)))) .nil)))))))))) t70_7) t70_8)
def t70_9 := b70_9
theorem u70_9 : vcK P t70_9 k e w = vcK P b70_9 k e w := rfl
abbrev b70_10 : X := (.seq (.reg [2, 3, 4, 7] (.c (.q 7 [] (.mv (.c (.slice none 0 0)))) .nil)) t70_9)
def t70_10 := b70_10
theorem u70_10 : vcK P t70_10 k e w = vcK P b70_10 k e w := rfl
abbrev b70_0 : X := (.seq (.reg [2, 3, 4] (.c (.e (some 3) [] (.box 44 (.t 0))) (.c (.e (some 4) [] (.box 46 (.t 1))) (.c (.q 6 [] (.mv (.c (.slice none 0 0)))) .nil)))) t70_10)
def x_sl9Rows := b70_0
theorem u70_0 : vcK P x_sl9Rows k e w = vcK P b70_0 k e w := rfl
def r_sl9Rows : List XO := [(.mv (.t 6))]
theorem c_sl9Rows : convF Try.prog [38, 39, 41, 42, 49, 54, 55, 57, 58, 59, 73, 79, 81, 84, 87, 139] Try.f70 [([2, 3, 4], []), ([2, 3, 4, 7], []), ([3, 7, 18, 19, 20], []), ([7, 20], [3, 18, 19]), ([3, 7, 18, 19, 20, 21], []), ([3, 7, 9, 18, 19, 20], []), ([3, 7, 10, 18, 19, 20], []), ([3, 7, 18, 19, 20], []), ([3, 7, 18, 19, 20], []), ([6], [])] = some (x_sl9Rows, r_sl9Rows) := by kernel_rfl
def us_sl9Rows :=  (aI (aI (aI @u70_0 @u70_1) (aI @u70_2 (aI @u70_3 @u70_4))) (aI (aI @u70_5 (aI @u70_6 @u70_7)) (aI @u70_8 (aI @u70_9 @u70_10))))
end
def rowsT (st : Nat) (cs : List (List UInt8)) (b s t : List UInt8) : List (List UInt8) := leadsL cs (headsP st cs b s t t.length)
theorem headsP_take (st : Nat) (cs : List (List UInt8)) (b s t : List UInt8) (k : Nat) : (headsP st cs b s t (k + 1)).take k = headsP st cs b s t k := by
  unfold headsP
  rw [← List.map_take, List.take_range, Nat.min_eq_left (by omega)]
theorem headsP_rows {nm : List UInt8} {st : Nat} {cs : List (List UInt8)} {b s : List UInt8} (h : IsMC nm st cs b s) (t : List UInt8) (k : Nat) : ∀ r ∈ headsP st cs b s t k, IsRow r := fun r hr => by
  obtain ⟨i, _, rfl⟩ := List.mem_map.1 hr
  exact (headP_row h t i).1
theorem sl9Rows_ok (nm : List UInt8) (st : Nat) (v : Value) (cs : List (List UInt8)) (b s t : List UInt8) (hM : IsMT nm st cs b s t) (w : World) (h : Sq fS 1 w v cs) : Fn 70 [mV nm st v, kV b s, S t] w (fun r w' => Own fS 1 9 w.heap.size w' r (rowsT st cs b s t)) := by
  have hcl := hM.1.1.2.2.1
  have ht60 := hM.2.1
  (refine callsV_of mix Try.func70 c_sl9Rows ?_; simp only [↓vsd, vsn, gW, qd, qv, ev, pick, argE, zipE, ne_eq, eq_self, forall_const, implies_true, if_true, if_false, reduceIte, reduceCtorEq, Nat.reduceEqDiff, Nat.reduceAdd, Nat.reduceLT, ↓us_sl9Rows, r_sl9Rows])
  refine m_al ?_
  rintro b1 w1 hb1 hblk1 hx1 hs1
  have h1 : Blk w1 b1 (fM nm st v) 44 := hblk1
  simp only [↓vsd, vsn, gW, qd, qv, ev, pick, argE, zipE, ne_eq, eq_self, forall_const, implies_true, if_true, if_false, reduceIte, reduceCtorEq, Nat.reduceEqDiff, Nat.reduceAdd, Nat.reduceLT, ↓us_sl9Rows, r_sl9Rows, h1.facts, fMg]
  refine m_al ?_
  rintro b2 w2 hb2 hblk2 hx2 hs2
  have h2 : Blk w2 b2 (fQ b s) 46 := hblk2
  have h12 := h1.ext hx2
  have hx12 := hx1.trans hx2
  have hq2 := h.ext hx12
  simp only [↓vsd, vsn, gW, qd, qv, ev, pick, argE, zipE, ne_eq, eq_self, forall_const, implies_true, if_true, if_false, reduceIte, reduceCtorEq, Nat.reduceEqDiff, Nat.reduceAdd, Nat.reduceLT, ↓us_sl9Rows, r_sl9Rows, h12.facts, h2.facts, fMg, fQg, hq2.facts]
  try refine m_call (sl9Heads_ok nm st v cs b s t hM.1 hM.2.1.2 _ hq2) ?_
  try refine m_call (sl9Heads_ok nm st v cs b s t hM.1 hM.2.1.2 _ (h.ext (dr hx12))) ?_
  rintro x w3 hx3 ho3
  have hx3 : Ext w2 w3 := by first | exact hx3 | exact ud hx3
  obtain ⟨hd, hoh, _⟩ := ho3.head .i64 t.length (by rw [headsP_len]; omega)
  rw [headsP_take] at hoh
  simp only [↓vsd, vsn, gW, qd, qv, ev, pick, argE, zipE, ne_eq, eq_self, forall_const, implies_true, if_true, if_false, reduceIte, reduceCtorEq, Nat.reduceEqDiff, Nat.reduceAdd, Nat.reduceLT, ↓us_sl9Rows, r_sl9Rows, hd, hoh.sq.facts]
  have hrs := headsP_rows hM.1 t t.length
  have hhl := headsP_len st cs b s t t.length
  unfold rowsT
  generalize headsP st cs b s t t.length = hs at *
  have hx13 := hx12.trans hx3
  have h13 := h12.ext hx3
  refine m_upto hs.length (fun i vs w' => ∃ x, vs = [x, .int .i64 i] ∧ Own fS 1 9 w3.heap.size w' x (leadsL cs (hs.take i)) ∧ Ext w3 w') ⟨_, rfl, (Own.nil fS_len).to rfl, Ext.refl _⟩ ?_
  rintro i vs w4 hi ⟨x, rfl, ho4, hx4⟩
  have h14 := h13.ext hx4
  have hx14 := hx13.trans hx4
  have hq4 := hoh.sq.ext hx4
  by_cases hlt : i < hs.length
  · have hltI : (i : Int) < hs.length := by omega
    have hltJ : ¬ (hs.length : Int) ≤ i := by omega
    simp only [↓vsd, vsn, gW, qd, qv, ev, pick, argE, zipE, ne_eq, eq_self, forall_const, implies_true, if_true, if_false, reduceIte, reduceCtorEq, Nat.reduceEqDiff, Nat.reduceAdd, Nat.reduceLT, ↓us_sl9Rows, r_sl9Rows, hltI, hltJ, hq4.facts, hq4.at1 [] hlt, h14.facts, fMg]
    refine ⟨by omega, m_call (sl4Lead_ok _ v cs st (hrs _ (getD_mem [] hlt)) hM.1.1.2.2.2 hcl.2 _ (h.ext (by first | exact hx14 | exact dr hx14))) ?_⟩
    rintro _ w5 hx5 ⟨y, rfl, ho5⟩
    have hx5 : Ext w4 w5 := by first | exact hx5 | exact ud hx5
    simp only [↓vsd, vsn, gW, qd, qv, ev, pick, argE, zipE, ne_eq, eq_self, forall_const, implies_true, if_true, if_false, reduceIte, reduceCtorEq, Nat.reduceEqDiff, Nat.reduceAdd, Nat.reduceLT, ↓us_sl9Rows, r_sl9Rows]
    have hll := leadsL_len cs (hs.take i)
    rw [List.length_take, Nat.min_eq_left (by omega)] at hll
    have hb1 : i * cs.length ≤ 40000 := Nat.le_trans (Nat.mul_le_mul (show i ≤ 1000 by omega) hcl.2) (by decide)
    refine m_app (ho4.ext hx5) ho5.sq fS_one (by decide) (by rw [hll, rowsU_len]; omega) (by decide) (hx4.trans hx5).size ?_
    rintro z w6 ho6 hg6
    have hx6 := (ho4.ext hx5).grown (hx4.trans hx5) (Nat.le_refl _) hg6
    simp only [↓vsd, vsn, gW, qd, qv, ev, pick, argE, zipE, ne_eq, eq_self, forall_const, implies_true, if_true, if_false, reduceIte, reduceCtorEq, Nat.reduceEqDiff, Nat.reduceAdd, Nat.reduceLT, ↓us_sl9Rows, r_sl9Rows]
    exact ⟨inR_i64 (by omega), UpTo.next hlt ⟨z, rfl, ho6.to (leadsL_succ cs hs i hlt).symm, hx6⟩⟩
  · obtain rfl : i = hs.length := by omega
    have hltI : ¬ (hs.length : Int) < hs.length := by omega
    simp only [↓vsd, vsn, gW, qd, qv, ev, pick, argE, zipE, ne_eq, eq_self, forall_const, implies_true, if_true, if_false, reduceIte, reduceCtorEq, Nat.reduceEqDiff, Nat.reduceAdd, Nat.reduceLT, ↓us_sl9Rows, r_sl9Rows, hltI]
    rw [List.take_length] at ho4
    exact ⟨hx14, ho4.mono hx13.size⟩
section
variable (nm : List UInt8) (st : Int) (v : Value) (cs : List (List UInt8)) (b s t : List UInt8) (hnm : nm.length ≤ 1048576) (hs : ∀ c ∈ cs, c.length ≤ 1048576) (hl : cs.length ≤ 1000000000) (hb : b.length ≤ 1048576 ∧ s.length ≤ 1048576) (ht : t.length ≤ 1000000000)
include hnm hs hl hb ht
end
end Go.Proofs.Ytfklonhjgkahdaa
