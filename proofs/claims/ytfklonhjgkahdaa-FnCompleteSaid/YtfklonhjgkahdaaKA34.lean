/-
  The rows of leads, of both sides.
  Conditions: none.
-/
import Derived.Test.YtfklonhjgkahdaaKA11
import Derived.Test.YtfklonhjgkahdaaKA25
set_option linter.unusedSimpArgs false
set_option linter.unusedVariables false
set_option linter.defProp false
namespace Go.Proofs.Ytfklonhjgkahdaa
open Go Go.RowKit
section
variable (P : Program) (k : KT) (e : Env) (w : World)
abbrev b91_1 : X := (.seq (.drw [4] (.c (.q 5 [] (.mv (.t 1))) (.c (.q 6 [] (.fa 2 (.t 2))) (.c (.q 7 [] (.ld (.t 6))) (.c (.q 9 [] (.fa 2 (.t 2))) (.c (.q 10 [] (.ld (.t 9))) (.c (.q 11 [] (.lens (.t 10))) (.c (.e (some 8) [] (.call false 105 [(.t 5), (.t 7)])) (.c (.q 12 [] (.ssl 1 (.t 8) none (some (.t 11)))) (.c (.q 4 [] (.mv (.t 12))) .nil)))))))))) .ret)
def t91_1 := b91_1
theorem u91_1 : vcK P t91_1 k e w = vcK P b91_1 k e w := rfl
abbrev b91_0 : X := (.seq (.reg [1, 2] (.c (.e (some 2) [] (.box 44 (.t 0))) (.c (.q 4 [] (.mv (.c (.slice none 0 0)))) .nil))) t91_1)
def x_ileadRows := b91_0
theorem u91_0 : vcK P x_ileadRows k e w = vcK P b91_0 k e w := rfl
def r_ileadRows : List XO := [(.mv (.t 4))]
theorem c_ileadRows : convF Try.prog [38, 39, 41, 42, 49, 54, 55, 57, 58, 59, 73, 79, 81, 84, 87, 139] Try.f91 [([1, 2], []), ([4], [])] = some (x_ileadRows, r_ileadRows) := by kernel_rfl
def us_ileadRows :=  (aI @u91_0 @u91_1)
abbrev b64_1 : X := (.reg [2, 5, 9, 10, 11] (.c (.q 15 [] (.mv (.t 5))) (.c (.q 16 [] (.lda 3 (.t 2))) (.c (.q 17 [] (.mv (.t 7))) (.c (.e (some 18) [] (.call false 91 [(.t 16), (.t 17)])) (.c (.e (some 19) [] (.app 24 9 1 16 [(S [])] 24 (.t 15) (.t 18))) (.c (.q 5 [] (.mv (.t 19))) .nil)))))))
def t64_1 := b64_1
theorem u64_1 : vcK P t64_1 k e w = vcK P b64_1 k e w := rfl
abbrev b64_2 : X := (.reg [2, 5, 9, 10, 11] (.c (.q 20 [] (.bin .add (.t 11) (.c (.int .i64 1)))) (.c (.q 11 [] (.mv (.t 20))) .nil)))
def t64_2 := b64_2
theorem u64_2 : vcK P t64_2 k e w = vcK P b64_2 k e w := rfl
abbrev b64_3 : X := (.seq (.blk 1 (.seq (.reg [2, 5, 7, 9, 10, 11] (.c (.q 13 [] (.ia 1 (.t 9) (.t 11))) (.c (.q 14 [] (.ld (.t 13))) (.c (.q 7 [] (.mv (.t 14))) .nil)))) t64_1)) t64_2)
def t64_3 := b64_3
theorem u64_3 : vcK P t64_3 k e w = vcK P b64_3 k e w := rfl
abbrev b64_4 : X := (.seq (.cond (.t 12) .skip (.exit 0)) t64_3)
def t64_4 := b64_4
theorem u64_4 : vcK P t64_4 k e w = vcK P b64_4 k e w := rfl
abbrev b64_5 : X := (.seq (.reg [2, 5, 9, 10, 11, 12] (.c (.q 12 [] (.bin .lss (.t 11) (.t 10))) .nil)) t64_4)
def t64_5 := b64_5
theorem u64_5 : vcK P t64_5 k e w = vcK P b64_5 k e w := rfl
abbrev b64_6 : X := (.blk 0 (.loop [5, 11] [2, 9, 10] t64_5))
def t64_6 := b64_6
theorem u64_6 : vcK P t64_6 k e w = vcK P b64_6 k e w := rfl
abbrev b64_7 : X := (.seq (.reg [4] (.c (.q 21 [] (.mv (.t 5))) (.c (.q 4 [] (.mv (.t 21))) .nil))) .ret)
def t64_7 := b64_7
theorem u64_7 : vcK P t64_7 k e w = vcK P b64_7 k e w := rfl
abbrev b64_8 : X := (.seq (.seq (.reg [2, 5, 9, 10, 11] (.c (.q 9 [] (.mv (.t 1))) (.c (.q 10 [] (.lens (.t 9))) (.c (.q 11 [] (.mv (.c (.int .i64 0)))) .nil)))) t64_6) t64_7)
def t64_8 := b64_8
theorem u64_8 : vcK P t64_8 k e w = vcK P b64_8 k e w := rfl
abbrev b64_9 : X := (.seq (.reg [1, 2, 5] (.c (.e (some 8) [] (.bsl 9 1 [])) (.c (.q 5 [] (.mv (.t 8))) .nil))) t64_8)
def t64_9 := b64_9
theorem u64_9 : vcK P t64_9 k e w = vcK P b64_9 k e w := rfl
abbrev b64_0 : X := (.seq (.reg [1, 2] (.c (.e (some 2) [] (.box 44 (.t 0))) (.c (.q 4 [] (.mv (.c (.slice none 0 0)))) .nil))) t64_9)
def x_ileadsFrom := b64_0
theorem u64_0 : vcK P x_ileadsFrom k e w = vcK P b64_0 k e w := rfl
def r_ileadsFrom : List XO := [(.mv (.t 4))]
theorem c_ileadsFrom : convF Try.prog [38, 39, 41, 42, 49, 54, 55, 57, 58, 59, 73, 79, 81, 84, 87, 139] Try.f64 [([1, 2], []), ([1, 2, 5], []), ([2, 5, 9, 10, 11], []), ([5, 11], [2, 9, 10]), ([2, 5, 9, 10, 11, 12], []), ([2, 5, 7, 9, 10, 11], []), ([2, 5, 9, 10, 11], []), ([2, 5, 9, 10, 11], []), ([4], [])] = some (x_ileadsFrom, r_ileadsFrom) := by kernel_rfl
def us_ileadsFrom :=  (aI (aI (aI @u64_0 @u64_1) (aI @u64_2 (aI @u64_3 @u64_4))) (aI (aI @u64_5 @u64_6) (aI @u64_7 (aI @u64_8 @u64_9))))
end
theorem rowsU_take (l : List UInt8) (cs : List (List UInt8)) (k : Nat) : (rowsU l cs (k + 1)).take k = rowsU l cs k := by
  unfold rowsU
  rw [← List.map_take, List.take_range, Nat.min_eq_left (by omega)]
/-- The rows of the leads from some heads. -/
def leadsL (cs : List (List UInt8)) (hs : List (List UInt8)) : List (List UInt8) := hs.flatMap fun h => rowsU h cs cs.length
theorem leadsL_len (cs : List (List UInt8)) (hs : List (List UInt8)) : (leadsL cs hs).length = hs.length * cs.length := by
  unfold leadsL
  induction hs with
  | nil => simp
  | cons h hs ih => rw [List.flatMap_cons, List.length_append, ih, rowsU_len, List.length_cons, Nat.add_mul]; omega
theorem leadsL_succ (cs : List (List UInt8)) (hs : List (List UInt8)) (k : Nat) (h : k < hs.length) : leadsL cs (hs.take (k + 1)) = leadsL cs (hs.take k) ++ rowsU (hs.getD k []) cs cs.length := by
  unfold leadsL
  rw [List.take_add_one, List.getElem?_eq_getElem h, List.getD_eq_getElem?_getD, List.getElem?_eq_getElem h, List.flatMap_append]
  simp
theorem ileadRows_ok (nm : List UInt8) (st : Nat) (v : Value) (cs : List (List UInt8)) (l : List UInt8) (hm : IsMethod nm st cs) (hr : IsRow l) (w : World) (h : Sq fS 1 w v cs) : Fn 91 [mV nm st v, S l] w (fun r w' => Own fS 1 9 w.heap.size w' r (rowsU l cs cs.length)) := by
  (refine callsV_of mix Try.func91 c_ileadRows ?_; simp only [↓vsd, vsn, gW, qd, qv, ev, pick, argE, zipE, ne_eq, eq_self, forall_const, implies_true, if_true, if_false, reduceIte, reduceCtorEq, Nat.reduceEqDiff, Nat.reduceAdd, Nat.reduceLT, ↓us_ileadRows, r_ileadRows])
  refine m_al ?_
  rintro b1 w1 hb1 hblk1 hx1 hs1
  have h1 : Blk w1 b1 (fM nm st v) 44 := hblk1
  have hcl := hm.2.2.1
  have hq := h.ext hx1
  simp only [↓vsd, vsn, gW, qd, qv, ev, pick, argE, zipE, ne_eq, eq_self, forall_const, implies_true, if_true, if_false, reduceIte, reduceCtorEq, Nat.reduceEqDiff, Nat.reduceAdd, Nat.reduceLT, ↓us_ileadRows, r_ileadRows, h1.facts, fMg, hq.facts]
  try refine m_call (irowsUnder_ok l v cs st hr hm.2.2.2 hm.2.2.1.2 _ hq) ?_
  try refine m_call (irowsUnder_ok l v cs st hr hm.2.2.2 hm.2.2.1.2 _ (h.ext (dr hx1))) ?_
  rintro x w2 hx2 ho2
  have hx2 : Ext w1 w2 := by first | exact hx2 | exact ud hx2
  have h2 := h1.ext hx2
  have hq2 := hq.ext hx2
  obtain ⟨hd, hoh, _⟩ := ho2.head .i64 cs.length (by rw [rowsU_len]; omega)
  rw [rowsU_take] at hoh
  simp only [↓vsd, vsn, gW, qd, qv, ev, pick, argE, zipE, ne_eq, eq_self, forall_const, implies_true, if_true, if_false, reduceIte, reduceCtorEq, Nat.reduceEqDiff, Nat.reduceAdd, Nat.reduceLT, ↓us_ileadRows, r_ileadRows, h1.facts, h2.facts, fMg, hq.facts, hq2.facts, hd]
  exact ⟨hx1.trans hx2, hoh.mono hx1.size⟩
theorem ileadsFrom_ok (nm : List UInt8) (st : Nat) (v u : Value) (cs hs : List (List UInt8)) (hm : IsMethod nm st cs) (hr : ∀ r ∈ hs, IsRow r) (hl : hs.length ≤ 1000) (w : World) (h : Sq fS 1 w v cs) (h' : Sq fS 1 w u hs) : Fn 64 [mV nm st v, u] w (fun r w' => Own fS 1 9 w.heap.size w' r (leadsL cs hs)) := by
  (refine callsV_of mix Try.func64 c_ileadsFrom ?_; simp only [↓vsd, vsn, gW, qd, qv, ev, pick, argE, zipE, ne_eq, eq_self, forall_const, implies_true, if_true, if_false, reduceIte, reduceCtorEq, Nat.reduceEqDiff, Nat.reduceAdd, Nat.reduceLT, ↓us_ileadsFrom, r_ileadsFrom])
  refine m_al ?_
  rintro b1 w1 hb1 hblk1 hx1 hs1
  have h1 : Blk w1 b1 (fM nm st v) 44 := hblk1
  simp only [↓vsd, vsn, gW, qd, qv, ev, pick, argE, zipE, ne_eq, eq_self, forall_const, implies_true, if_true, if_false, reduceIte, reduceCtorEq, Nat.reduceEqDiff, Nat.reduceAdd, Nat.reduceLT, ↓us_ileadsFrom, r_ileadsFrom]
  refine m_bsl (by simp) ?_
  rintro b2 w2 hb2 hblk2 hx2 hs2
  have h12 := h1.ext hx2
  have hx12 := hx1.trans hx2
  have hq' := h'.ext hx12
  simp only [↓vsd, vsn, gW, qd, qv, ev, pick, argE, zipE, ne_eq, eq_self, forall_const, implies_true, if_true, if_false, reduceIte, reduceCtorEq, Nat.reduceEqDiff, Nat.reduceAdd, Nat.reduceLT, ↓us_ileadsFrom, r_ileadsFrom, hq'.facts]
  have hcl := hm.2.2.1
  refine m_upto hs.length (fun i vs w' => ∃ x, vs = [x, .int .i64 i] ∧ Own fS 1 9 w1.heap.size w' x (leadsL cs (hs.take i)) ∧ Ext w1 w') ⟨_, rfl, (Own.empty fS_len hblk2 (by omega)).to rfl, hx2⟩ ?_
  rintro i vs w3 hi ⟨x, rfl, ho3, hx3⟩
  have h13 := h1.ext hx3
  have hx13 := hx1.trans hx3
  have hq3 := h'.ext hx13
  by_cases hlt : i < hs.length
  · have hltI : (i : Int) < hs.length := by omega
    have hltJ : ¬ (hs.length : Int) ≤ i := by omega
    simp only [↓vsd, vsn, gW, qd, qv, ev, pick, argE, zipE, ne_eq, eq_self, forall_const, implies_true, if_true, if_false, reduceIte, reduceCtorEq, Nat.reduceEqDiff, Nat.reduceAdd, Nat.reduceLT, ↓us_ileadsFrom, r_ileadsFrom, hltI, hltJ, hq3.facts, hq3.at1 [] hlt, h13.facts, fMg]
    refine ⟨by omega, m_call (ileadRows_ok nm st v cs _ hm (hr _ (getD_mem [] hlt)) _ (h.ext (by first | exact hx13 | exact dr hx13))) ?_⟩
    rintro y w4 hx4 ho4
    have hx4 : Ext w3 w4 := by first | exact hx4 | exact ud hx4
    simp only [↓vsd, vsn, gW, qd, qv, ev, pick, argE, zipE, ne_eq, eq_self, forall_const, implies_true, if_true, if_false, reduceIte, reduceCtorEq, Nat.reduceEqDiff, Nat.reduceAdd, Nat.reduceLT, ↓us_ileadsFrom, r_ileadsFrom]
    have hll := leadsL_len cs (hs.take i)
    rw [List.length_take, Nat.min_eq_left (by omega)] at hll
    have hb1 : i * cs.length ≤ 40000 := Nat.le_trans (Nat.mul_le_mul (show i ≤ 1000 by omega) hcl.2) (by decide)
    refine m_app (ho3.ext hx4) ho4.sq fS_one (by decide) (by rw [hll, rowsU_len]; omega) (by decide) (hx3.trans hx4).size ?_
    rintro z w5 ho5 hg5
    have hx5 := (ho3.ext hx4).grown (hx3.trans hx4) (Nat.le_refl _) hg5
    simp only [↓vsd, vsn, gW, qd, qv, ev, pick, argE, zipE, ne_eq, eq_self, forall_const, implies_true, if_true, if_false, reduceIte, reduceCtorEq, Nat.reduceEqDiff, Nat.reduceAdd, Nat.reduceLT, ↓us_ileadsFrom, r_ileadsFrom]
    exact ⟨inR_i64 (by omega), UpTo.next hlt ⟨z, rfl, ho5.to (leadsL_succ cs hs i hlt).symm, hx5⟩⟩
  · obtain rfl : i = hs.length := by omega
    have hltI : ¬ (hs.length : Int) < hs.length := by omega
    simp only [↓vsd, vsn, gW, qd, qv, ev, pick, argE, zipE, ne_eq, eq_self, forall_const, implies_true, if_true, if_false, reduceIte, reduceCtorEq, Nat.reduceEqDiff, Nat.reduceAdd, Nat.reduceLT, ↓us_ileadsFrom, r_ileadsFrom, hltI]
    rw [List.take_length] at ho3
    exact ⟨hx13, ho3.mono hx1.size⟩
end Go.Proofs.Ytfklonhjgkahdaa
