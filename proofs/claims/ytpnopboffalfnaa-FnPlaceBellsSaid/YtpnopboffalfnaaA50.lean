/-
  Course paths, of both sides.
  Conditions: none.
-/
import Derived.Test.YtpnopboffalfnaaA49
set_option linter.unusedSimpArgs false
set_option linter.unusedVariables false
set_option linter.defProp false
namespace Go.Proofs.Ytpnopboffalfnaa
open Go Go.RowKit
section
variable (P : Program) (k : KT) (e : Env) (w : World)
abbrev b64_1 : X := (.cond (.t 18) (.seq (.reg [4, 5] (.c (.q 4 [] (.mv (.c (.slice none 0 0)))) (.c (.q 5 [] (.mv (.c (.bool false)))) .nil))) .ret) .skip)
def t64_1 := b64_1
theorem u64_1 : vcK P t64_1 k e w = vcK P b64_1 k e w := rfl
abbrev b64_2 : X := (.drw [2, 6, 22, 23, 24] (.c (.q 28 [] (.mv (.t 6))) (.c (.q 29 [] (.lda 3 (.t 2))) (.c (.q 30 [] (.mv (.t 8))) (.c (.q 32 [] (.fa 2 (.t 2))) (.c (.q 33 [] (.ld (.t 32))) (.c (.q 34 [] (.lens (.t 33))) (.c (.e (some 31) [] (.call false 205 [(.t 29), (.t 30)])) (.c (.q 35 [] (.ssl 1 (.t 31) none (some (.t 34)))) (.c (.e (some 36) [] (.app 69 3 1 8 [(.int .i64 0)] 69 (.t 28) (.t 35))) (.c (.q 6 [] (.mv (.t 36))) .nil)))))))))))
def t64_2 := b64_2
theorem u64_2 : vcK P t64_2 k e w = vcK P b64_2 k e w := rfl
abbrev b64_3 : X := (.reg [2, 6, 22, 23, 24] (.c (.q 37 [] (.bin .add (.t 24) (.c (.int .i64 1)))) (.c (.q 24 [] (.mv (.t 37))) .nil)))
def t64_3 := b64_3
theorem u64_3 : vcK P t64_3 k e w = vcK P b64_3 k e w := rfl
abbrev b64_4 : X := (.seq (.blk 1 (.seq (.reg [2, 6, 8, 22, 23, 24] (.c (.q 26 [] (.ia 1 (.t 22) (.t 24))) (.c (.q 27 [] (.ld (.t 26))) (.c (.q 8 [] (.mv (.t 27))) .nil)))) t64_2)) t64_3)
def t64_4 := b64_4
theorem u64_4 : vcK P t64_4 k e w = vcK P b64_4 k e w := rfl
abbrev b64_5 : X := (.seq (.cond (.t 25) .skip (.exit 0)) t64_4)
def t64_5 := b64_5
theorem u64_5 : vcK P t64_5 k e w = vcK P b64_5 k e w := rfl
abbrev b64_6 : X := (.seq (.reg [2, 6, 22, 23, 24, 25] (.c (.q 25 [] (.bin .lss (.t 24) (.t 23))) .nil)) t64_5)
def t64_6 := b64_6
theorem u64_6 : vcK P t64_6 k e w = vcK P b64_6 k e w := rfl
abbrev b64_7 : X := (.blk 0 (.loop [6, 24] [2, 22, 23] t64_6))
def t64_7 := b64_7
theorem u64_7 : vcK P t64_7 k e w = vcK P b64_7 k e w := rfl
abbrev b64_8 : X := (.seq (.reg [4, 5] (.c (.q 38 [] (.mv (.t 6))) (.c (.q 4 [] (.mv (.t 38))) (.c (.q 5 [] (.mv (.c (.bool true)))) .nil)))) .ret)
def t64_8 := b64_8
theorem u64_8 : vcK P t64_8 k e w = vcK P b64_8 k e w := rfl
abbrev b64_9 : X := (.seq (.seq (.reg [2, 6, 22, 23, 24] (.c (.q 20 [] (.lda 3 (.t 2))) (.c (.q 21 [] (.mv (.t 1))) (.c (.e (some 22) [] (.call false 202 [(.t 20), (.t 21)])) (.c (.q 23 [] (.lens (.t 22))) (.c (.q 24 [] (.mv (.c (.int .i64 0)))) .nil)))))) t64_7) t64_8)
def t64_9 := b64_9
theorem u64_9 : vcK P t64_9 k e w = vcK P b64_9 k e w := rfl
abbrev b64_10 : X := (.seq (.reg [1, 2, 6] (.c (.e (some 19) [] (.bsl 3 1 [])) (.c (.q 6 [] (.mv (.t 19))) .nil))) t64_9)
def t64_10 := b64_10
theorem u64_10 : vcK P t64_10 k e w = vcK P b64_10 k e w := rfl
abbrev b64_11 : X := (.seq (.seq (.reg [1, 2, 18] (.c (.q 9 [] (.lda 3 (.t 2))) (.c (.e (some 10) [] (.call false 113 [(.t 9)])) (.c (.q 11 [] (.not (.t 10))) (.c (.q 12 [] (.mv (.t 11))) (.c (.q 13 [(12, false)] (.fa 1 (.t 2))) (.c (.q 14 [(12, false)] (.ld (.t 13))) (.c (.q 15 [(12, false)] (.mv (.t 1))) (.c (.e (some 16) [(12, false)] (.call false 201 [(.t 14), (.t 15)])) (.c (.q 17 [(12, false)] (.not (.t 16))) (.c (.q 18 [] (.pick (.t 12) (.c (.bool true)) (.t 17))) .nil))))))))))) t64_1) t64_10)
def t64_11 := b64_11
theorem u64_11 : vcK P t64_11 k e w = vcK P b64_11 k e w := rfl
abbrev b64_0 : X := (.seq (.reg [1, 2] (.c (.e (some 2) [] (.box 41 (.t 0))) (.c (.q 4 [] (.mv (.c (.slice none 0 0)))) (.c (.q 5 [] (.mv (.c (.bool false)))) .nil)))) t64_11)
def x_iCoursePath := b64_0
theorem u64_0 : vcK P x_iCoursePath k e w = vcK P b64_0 k e w := rfl
def r_iCoursePath : List XO := [(.mv (.t 4)), (.mv (.t 5))]
theorem c_iCoursePath : convF Try.prog [169, 170, 207, 208, 210, 227, 232, 233, 255, 259, 268, 269, 270, 280, 281, 296, 299, 306, 307, 309] Try.f64 [([1, 2], []), ([1, 2, 18], []), ([4, 5], []), ([1, 2, 6], []), ([2, 6, 22, 23, 24], []), ([6, 24], [2, 22, 23]), ([2, 6, 22, 23, 24, 25], []), ([2, 6, 8, 22, 23, 24], []), ([2, 6, 22, 23, 24], []), ([2, 6, 22, 23, 24], []), ([4, 5], [])] = some (x_iCoursePath, r_iCoursePath) := by kernel_rfl
def us_iCoursePath := aI @u64_0 (aI @u64_1 (aI @u64_2 (aI @u64_3 (aI @u64_4 (aI @u64_5 (aI @u64_6 (aI @u64_7 (aI @u64_8 (aI @u64_9 (aI @u64_10 @u64_11))))))))))
abbrev b65_1 : X := (.cond (.t 13) (.seq (.reg [4, 5] (.c (.q 4 [] (.mv (.c (.slice none 0 0)))) (.c (.q 5 [] (.mv (.c (.bool false)))) .nil))) .ret) .skip)
def t65_1 := b65_1
theorem u65_1 : vcK P t65_1 k e w = vcK P b65_1 k e w := rfl
abbrev b65_2 : X := (.reg [2, 6, 16, 17, 18] (.c (.q 25 [] (.mv (.t 6))) (.c (.q 26 [] (.mv (.t 9))) (.c (.q 27 [] (.mv (.t 9))) (.c (.q 28 [] (.lens (.t 27))) (.c (.q 29 [] (.bin .sub (.t 28) (.c (.int .i64 1)))) (.c (.q 30 [] (.ssl 1 (.t 26) none (some (.t 29)))) (.c (.e (some 31) [] (.app 69 3 1 8 [(.int .i64 0)] 69 (.t 25) (.t 30))) (.c (.q 6 [] (.mv (.t 31))) .nil)))))))))
def t65_2 := b65_2
theorem u65_2 : vcK P t65_2 k e w = vcK P b65_2 k e w := rfl
abbrev b65_3 : X := (.seq (.reg [2, 6, 9, 16, 17, 18] (.c (.q 22 [] (.lda 3 (.t 2))) (.c (.q 23 [] (.mv (.t 8))) (.c (.e (some 24) [] (.call false 206 [(.t 22), (.t 23)])) (.c (.q 9 [] (.mv (.t 24))) .nil))))) t65_2)
def t65_3 := b65_3
theorem u65_3 : vcK P t65_3 k e w = vcK P b65_3 k e w := rfl
abbrev b65_4 : X := (.reg [2, 6, 16, 17, 18] (.c (.q 32 [] (.bin .add (.t 18) (.c (.int .i64 1)))) (.c (.q 18 [] (.mv (.t 32))) .nil)))
def t65_4 := b65_4
theorem u65_4 : vcK P t65_4 k e w = vcK P b65_4 k e w := rfl
abbrev b65_5 : X := (.seq (.blk 1 (.seq (.reg [2, 6, 8, 16, 17, 18] (.c (.q 20 [] (.ia 1 (.t 16) (.t 18))) (.c (.q 21 [] (.ld (.t 20))) (.c (.q 8 [] (.mv (.t 21))) .nil)))) t65_3)) t65_4)
def t65_5 := b65_5
theorem u65_5 : vcK P t65_5 k e w = vcK P b65_5 k e w := rfl
abbrev b65_6 : X := (.seq (.cond (.t 19) .skip (.exit 0)) t65_5)
def t65_6 := b65_6
theorem u65_6 : vcK P t65_6 k e w = vcK P b65_6 k e w := rfl
abbrev b65_7 : X := (.seq (.reg [2, 6, 16, 17, 18, 19] (.c (.q 19 [] (.bin .lss (.t 18) (.t 17))) .nil)) t65_6)
def t65_7 := b65_7
theorem u65_7 : vcK P t65_7 k e w = vcK P b65_7 k e w := rfl
abbrev b65_8 : X := (.blk 0 (.loop [6, 18] [2, 16, 17] t65_7))
def t65_8 := b65_8
theorem u65_8 : vcK P t65_8 k e w = vcK P b65_8 k e w := rfl
abbrev b65_9 : X := (.seq (.reg [4, 5] (.c (.q 33 [] (.mv (.t 6))) (.c (.q 4 [] (.mv (.t 33))) (.c (.q 5 [] (.mv (.c (.bool true)))) .nil)))) .ret)
def t65_9 := b65_9
theorem u65_9 : vcK P t65_9 k e w = vcK P b65_9 k e w := rfl
abbrev b65_10 : X := (.seq (.seq (.reg [2, 6, 16, 17, 18] (.c (.q 14 [] (.lda 3 (.t 2))) (.c (.q 15 [] (.mv (.t 1))) (.c (.e (some 16) [] (.call false 204 [(.t 14), (.t 15)])) (.c (.q 17 [] (.lens (.t 16))) (.c (.q 18 [] (.mv (.c (.int .i64 0)))) .nil)))))) t65_8) t65_9)
def t65_10 := b65_10
theorem u65_10 : vcK P t65_10 k e w = vcK P b65_10 k e w := rfl
abbrev b65_11 : X := (.seq (.reg [1, 2, 6] (.c (.q 6 [] (.mv (.c (.slice none 0 0)))) .nil)) t65_10)
def t65_11 := b65_11
theorem u65_11 : vcK P t65_11 k e w = vcK P b65_11 k e w := rfl
abbrev b65_12 : X := (.seq (.seq (.reg [1, 2, 13] (.c (.q 10 [] (.lda 3 (.t 2))) (.c (.q 11 [] (.mv (.t 1))) (.c (.e (some 12) [] (.call false 203 [(.t 10), (.t 11)])) (.c (.q 13 [] (.not (.t 12))) .nil))))) t65_1) t65_11)
def t65_12 := b65_12
theorem u65_12 : vcK P t65_12 k e w = vcK P b65_12 k e w := rfl
abbrev b65_0 : X := (.seq (.reg [1, 2] (.c (.e (some 2) [] (.box 41 (.t 0))) (.c (.q 4 [] (.mv (.c (.slice none 0 0)))) (.c (.q 5 [] (.mv (.c (.bool false)))) .nil)))) t65_12)
def x_sCoursePath := b65_0
theorem u65_0 : vcK P x_sCoursePath k e w = vcK P b65_0 k e w := rfl
def r_sCoursePath : List XO := [(.mv (.t 4)), (.mv (.t 5))]
theorem c_sCoursePath : convF Try.prog [169, 170, 207, 208, 210, 227, 232, 233, 255, 259, 268, 269, 270, 280, 281, 296, 299, 306, 307, 309] Try.f65 [([1, 2], []), ([1, 2, 13], []), ([4, 5], []), ([1, 2, 6], []), ([2, 6, 16, 17, 18], []), ([6, 18], [2, 16, 17]), ([2, 6, 16, 17, 18, 19], []), ([2, 6, 8, 16, 17, 18], []), ([2, 6, 9, 16, 17, 18], []), ([2, 6, 16, 17, 18], []), ([2, 6, 16, 17, 18], []), ([4, 5], [])] = some (x_sCoursePath, r_sCoursePath) := by kernel_rfl
def us_sCoursePath := aI @u65_0 (aI @u65_1 (aI @u65_2 (aI @u65_3 (aI @u65_4 (aI @u65_5 (aI @u65_6 (aI @u65_7 (aI @u65_8 (aI @u65_9 (aI @u65_10 (aI @u65_11 @u65_12)))))))))))
end

/-- The path of a bell in a lead, without the lead head. -/
def lpL (n : Nat) (cs : List (List UInt8)) (b : Int) : List Int := (pathP (rowsU (roundsL n) cs (cs.length + 1)) b).take cs.length
theorem lpL_len (n : Nat) (cs : List (List UInt8)) (b : Int) : (lpL n cs b).length = cs.length := by
  rw [lpL, List.length_take, pathP_len, rowsU_len]; omega
/-- The paths of some bells, one behind the other. -/
def cpL (n : Nat) (cs : List (List UInt8)) (l : List Int) : List Int := l.flatMap (lpL n cs)
theorem cpL_len (n : Nat) (cs : List (List UInt8)) (l : List Int) : (cpL n cs l).length = l.length * cs.length := by
  unfold cpL
  induction l with
  | nil => simp
  | cons h hs ih => rw [List.flatMap_cons, List.length_append, ih, lpL_len, List.length_cons, Nat.add_mul]; omega
theorem cpL_succ (n : Nat) (cs : List (List UInt8)) (l : List Int) (k : Nat) (h : k < l.length) : cpL n cs (l.take (k + 1)) = cpL n cs (l.take k) ++ lpL n cs (l.getD k 0) := by
  unfold cpL
  rw [List.take_add_one, List.getElem?_eq_getElem h, List.getD_eq_getElem?_getD, List.getElem?_eq_getElem h, List.flatMap_append]
  simp
def cpR (nm : List UInt8) (st : Int) (cs : List (List UInt8)) (b : Int) : List Int := if pathOk nm st cs b then cpL st.toNat cs (pbL (underL (roundsL st.toNat) cs) (b.toNat - 1)) else []
theorem pbL_len {h : List UInt8} (hr : IsRow h) {x : Nat} (hx : x < h.length) : 1 ≤ (pbL h x).length ∧ (pbL h x).length ≤ 8 := by
  have hp := per_is (turnL_row hr) (i := x) (by rw [turnL_len]; exact hx)
  rw [← pbK_all, pbK_len]
  exact ⟨hp.1, hp.2.1⟩
theorem iCoursePath_ok (nm : List UInt8) (st : Int) (v : Value) (cs : List (List UInt8)) (b : Int) (hnm : nm.length ≤ 1048576) (hs : ∀ c ∈ cs, c.length ≤ 1048576) (hl : cs.length ≤ 1000000000) (w : World) (h : Sq fS 1 w v cs) : Fn 64 [mV nm st v, .int .i64 b] w (fun r w' => ∃ x, r = .tuple ⟨[x, .bool (decide (pathOk nm st cs b))]⟩ ∧ Own fI 1 3 w.heap.size w' x (cpR nm st cs b)) := by
  (refine callsV_of mix Try.func64 c_iCoursePath ?_; simp only [↓vsd, vsn, gW, qd, qv, ev, pick, argE, zipE, ne_eq, eq_self, forall_const, implies_true, if_true, if_false, reduceIte, reduceCtorEq, Nat.reduceEqDiff, Nat.reduceAdd, Nat.reduceLT, ↓us_iCoursePath, r_iCoursePath])
  refine m_al ?_
  rintro b1 w1 hb1 hblk1 hx1 hs1
  have h1 : Blk w1 b1 (fM nm st v) 41 := hblk1
  simp only [↓vsd, vsn, gW, qd, qv, ev, pick, argE, zipE, ne_eq, eq_self, forall_const, implies_true, if_true, if_false, reduceIte, reduceCtorEq, Nat.reduceEqDiff, Nat.reduceAdd, Nat.reduceLT, ↓us_iCoursePath, r_iCoursePath, h1.facts, fMg]
  have hno : ¬ pathOk nm st cs b → ∀ w', ∃ x, Value.tuple ⟨[.slice none 0 0, .bool false]⟩ = .tuple ⟨[x, .bool (decide (pathOk nm st cs b))]⟩ ∧ Own fI 1 3 w.heap.size w' x (cpR nm st cs b) := fun hn w' =>
    ⟨_, by rw [decide_eq_false hn], by rw [cpR, if_neg hn]; exact Own.nil fI_len⟩
  refine m_call (iGoodMethod_ok nm st v cs hnm hs hl _ (h.ext hx1)) ?_
  rintro _ w2 hx2 rfl
  have hx12 := hx1.trans hx2
  have h2 := h1.ext hx2
  by_cases hm : IsMethod nm st cs
  · obtain ⟨n, rfl⟩ : ∃ n : Nat, st = n := ⟨st.toNat, by have := hm.2.1; omega⟩
    simp only [↓vsd, vsn, gW, qd, qv, ev, pick, argE, zipE, ne_eq, eq_self, forall_const, implies_true, if_true, if_false, reduceIte, reduceCtorEq, Nat.reduceEqDiff, Nat.reduceAdd, Nat.reduceLT, ↓us_iCoursePath, r_iCoursePath, hm, h2.facts, fMg]
    refine m_call (iisBell_ok n b _) ?_
    rintro _ w3 hx3 rfl
    have hx3 : Ext w2 w3 := by first | exact hx3 | exact ud hx3 | exact ud (ud hx3)
    have hx13 := hx12.trans hx3
    have h3 := h2.ext hx3
    by_cases hb : 1 ≤ b ∧ b ≤ n
    · have hb1 := hb.1
      have hb2 := hb.2
      have hok : pathOk nm n cs b := ⟨hm, hb⟩
      obtain ⟨x, rfl⟩ : ∃ x : Nat, b = ((x + 1 : Nat) : Int) := ⟨b.toNat - 1, by omega⟩
      have hcl := hm.2.2.1
      have h38 := hm.2.1
      have hH := under_row (n := n) (by omega) cs
      have hpb := pbL_len hH.1 (x := x) (by rw [hH.2]; omega)
      have hcp : cpR nm n cs ((x + 1 : Nat) : Int) = cpL n cs (pbL (underL (roundsL n) cs) x) := by rw [cpR, if_pos hok, Int.toNat_natCast, Int.toNat_natCast, Nat.add_sub_cancel]
      simp only [↓vsd, vsn, gW, qd, qv, ev, pick, argE, zipE, ne_eq, eq_self, forall_const, implies_true, if_true, if_false, reduceIte, reduceCtorEq, Nat.reduceEqDiff, Nat.reduceAdd, Nat.reduceLT, ↓us_iCoursePath, r_iCoursePath, hb1, hb2, h3.facts, fMg]
      refine m_bsl (by simp) ?_
      rintro b4 w4 hb4 hblk4 hx4 hs4
      have hx4 : Ext w3 w4 := by first | exact hx4 | exact ud hx4 | exact ud (ud hx4)
      have hx14 := hx13.trans hx4
      have h4 := h3.ext hx4
      simp only [↓vsd, vsn, gW, qd, qv, ev, pick, argE, zipE, ne_eq, eq_self, forall_const, implies_true, if_true, if_false, reduceIte, reduceCtorEq, Nat.reduceEqDiff, Nat.reduceAdd, Nat.reduceLT, ↓us_iCoursePath, r_iCoursePath, h4.facts, fMg]
      refine m_call (iplaceBells_ok nm n v cs x hm (by omega) _ (by first | exact h.ext hx14 | exact h.ext (dr hx14))) ?_
      rintro y w5 hx5 ho5
      have hx5 : Ext w4 w5 := by first | exact hx5 | exact ud hx5 | exact ud (ud hx5)
      have hx15 := hx14.trans hx5
      generalize hPB : pbL (underL (roundsL n) cs) x = PB at *
      simp only [↓vsd, vsn, gW, qd, qv, ev, pick, argE, zipE, ne_eq, eq_self, forall_const, implies_true, if_true, if_false, reduceIte, reduceCtorEq, Nat.reduceEqDiff, Nat.reduceAdd, Nat.reduceLT, ↓us_iCoursePath, r_iCoursePath, ho5.sq.facts]
      refine m_upto PB.length (fun i vs w' => ∃ z, vs = [z, .int .i64 i] ∧ Own fI 1 3 w3.heap.size w' z (cpL n cs (PB.take i)) ∧ Ext w3 w' ∧ Own fI 1 3 w4.heap.size w' y PB ∧ ∀ c, z.ownBlock = some c → Away y c) ⟨_, rfl, (Own.empty fI_len (Blk.ext hblk4 hx5) (by omega)).to rfl, hx4.trans hx5, ho5, fun c hc => ho5.away' (by simp only [Value.ownBlock, Option.some.injEq] at hc; omega)⟩ ?_
      rintro i vs w6 hi ⟨z, rfl, ho6, hx6, hy6, haw⟩
      have hq6 := hy6.sq
      have hx16 := hx13.trans hx6
      have h6 := h3.ext hx6
      by_cases hlt : i < PB.length
      · have hltI : (i : Int) < PB.length := by omega
        have hltJ : ¬ (PB.length : Int) ≤ i := by omega
        have hqc := h.ext hx16
        simp only [↓vsd, vsn, gW, qd, qv, ev, pick, argE, zipE, ne_eq, eq_self, forall_const, implies_true, if_true, if_false, reduceIte, reduceCtorEq, Nat.reduceEqDiff, Nat.reduceAdd, Nat.reduceLT, ↓us_iCoursePath, r_iCoursePath, hltI, hltJ, hq6.facts, hq6.at1 0 hlt, h6.facts, fMg, hqc.facts]
        refine ⟨by omega, m_call (ipathOf_ok nm n v cs _ hm _ (by first | exact h.ext hx16 | exact h.ext (dr hx16))) ?_⟩
        rintro p w7 hx7 ho7
        have hx7 : Ext w6 w7 := by first | exact hx7 | exact ud hx7 | exact ud (ud hx7)
        have h7 := h6.ext hx7
        have hqc7 := hqc.ext hx7
        obtain ⟨hd, hoh, _⟩ := ho7.head .i64 cs.length (by rw [pathP_len, rowsU_len]; omega)
        have hoh := hoh.to (show _ = lpL n cs (PB.getD i 0) from rfl)
        simp only [↓vsd, vsn, gW, qd, qv, ev, pick, argE, zipE, ne_eq, eq_self, forall_const, implies_true, if_true, if_false, reduceIte, reduceCtorEq, Nat.reduceEqDiff, Nat.reduceAdd, Nat.reduceLT, ↓us_iCoursePath, r_iCoursePath, h7.facts, h6.facts, fMg, hqc.facts, hqc7.facts, hd]
        have hll := cpL_len n cs (PB.take i)
        rw [List.length_take, Nat.min_eq_left (by omega)] at hll
        have hb1 : i * cs.length ≤ 320 := Nat.mul_le_mul (show i ≤ 8 by omega) hcl.2
        refine m_app2 (ho6.ext hx7) hoh.sq fI_one (by decide) (by rw [hll, lpL_len]; omega) (by decide) (hx6.trans hx7).size ?_
        rintro z' w8 ho8 hg8 hna
        have hx8 := (ho6.ext hx7).grown (hx6.trans hx7) (Nat.le_refl _) hg8
        simp only [↓vsd, vsn, gW, qd, qv, ev, pick, argE, zipE, ne_eq, eq_self, forall_const, implies_true, if_true, if_false, reduceIte, reduceCtorEq, Nat.reduceEqDiff, Nat.reduceAdd, Nat.reduceLT, ↓us_iCoursePath, r_iCoursePath]
        have hyk := hy6.ext hx7
        exact ⟨inR_i64 (by omega), UpTo.next hlt ⟨z', rfl, ho8.to (cpL_succ n cs PB i hlt).symm, hx8, hyk.off hg8 haw, fun c hc => by
          rcases hna c hc with h' | h'
          · exact haw c h'
          · exact hyk.away h'⟩⟩
      · obtain rfl : i = PB.length := by omega
        have hltI : ¬ (PB.length : Int) < PB.length := by omega
        simp only [↓vsd, vsn, gW, qd, qv, ev, pick, argE, zipE, ne_eq, eq_self, forall_const, implies_true, if_true, if_false, reduceIte, reduceCtorEq, Nat.reduceEqDiff, Nat.reduceAdd, Nat.reduceLT, ↓us_iCoursePath, r_iCoursePath, hltI]
        rw [List.take_length] at ho6
        exact ⟨hx16, z, by rw [decide_eq_true hok], by rw [hcp]; exact ho6.mono hx13.size⟩
    · have hbD : (decide (1 ≤ b) && decide (b ≤ (n : Int))) = false := by rw [← Bool.decide_and]; exact decide_eq_false hb
      simp only [↓vsd, vsn, gW, qd, qv, ev, pick, argE, zipE, ne_eq, eq_self, forall_const, implies_true, if_true, if_false, reduceIte, reduceCtorEq, Nat.reduceEqDiff, Nat.reduceAdd, Nat.reduceLT, ↓us_iCoursePath, r_iCoursePath, hbD]
      exact ⟨hx13, hno (fun hh => hb hh.2) _⟩
  · simp only [↓vsd, vsn, gW, qd, qv, ev, pick, argE, zipE, ne_eq, eq_self, forall_const, implies_true, if_true, if_false, reduceIte, reduceCtorEq, Nat.reduceEqDiff, Nat.reduceAdd, Nat.reduceLT, ↓us_iCoursePath, r_iCoursePath, hm]
    exact ⟨hx12, hno (fun hh => hm hh.1) _⟩
theorem sCoursePath_ok (nm : List UInt8) (st : Int) (v : Value) (cs : List (List UInt8)) (b : Int) (hnm : nm.length ≤ 1048576) (hs : ∀ c ∈ cs, c.length ≤ 1048576) (hl : cs.length ≤ 1000000000) (w : World) (h : Sq fS 1 w v cs) : Fn 65 [mV nm st v, .int .i64 b] w (fun r w' => ∃ x, r = .tuple ⟨[x, .bool (decide (pathOk nm st cs b))]⟩ ∧ Own fI 1 3 w.heap.size w' x (cpR nm st cs b)) := by
  (refine callsV_of mix Try.func65 c_sCoursePath ?_; simp only [↓vsd, vsn, gW, qd, qv, ev, pick, argE, zipE, ne_eq, eq_self, forall_const, implies_true, if_true, if_false, reduceIte, reduceCtorEq, Nat.reduceEqDiff, Nat.reduceAdd, Nat.reduceLT, ↓us_sCoursePath, r_sCoursePath])
  refine m_al ?_
  rintro b1 w1 hb1 hblk1 hx1 hs1
  have h1 : Blk w1 b1 (fM nm st v) 41 := hblk1
  simp only [↓vsd, vsn, gW, qd, qv, ev, pick, argE, zipE, ne_eq, eq_self, forall_const, implies_true, if_true, if_false, reduceIte, reduceCtorEq, Nat.reduceEqDiff, Nat.reduceAdd, Nat.reduceLT, ↓us_sCoursePath, r_sCoursePath, h1.facts, fMg]
  refine m_call (sl5Asked_ok nm st v cs b hnm hs hl _ (h.ext hx1)) ?_
  rintro _ w2 hx2 rfl
  have hx12 := hx1.trans hx2
  have h2 := h1.ext hx2
  by_cases hok : pathOk nm st cs b
  · have hD := decide_eq_true hok
    have hm := hok.1
    obtain ⟨n, rfl⟩ : ∃ n : Nat, st = n := ⟨st.toNat, by have := hok.1.2.1; omega⟩
    obtain ⟨x, rfl⟩ : ∃ x : Nat, b = ((x + 1 : Nat) : Int) := ⟨b.toNat - 1, by have := hok.2; omega⟩
    have hb := hok.2
    have hcl := hm.2.2.1
    have h38 := hm.2.1
    have hH := under_row (n := n) (by omega) cs
    have hpb := pbL_len hH.1 (x := x) (by rw [hH.2]; omega)
    have hcp : cpR nm n cs ((x + 1 : Nat) : Int) = cpL n cs (pbL (underL (roundsL n) cs) x) := by rw [cpR, if_pos hok, Int.toNat_natCast, Int.toNat_natCast, Nat.add_sub_cancel]
    simp only [↓vsd, vsn, gW, qd, qv, ev, pick, argE, zipE, ne_eq, eq_self, forall_const, implies_true, if_true, if_false, reduceIte, reduceCtorEq, Nat.reduceEqDiff, Nat.reduceAdd, Nat.reduceLT, ↓us_sCoursePath, r_sCoursePath, hD, h2.facts, fMg]
    refine m_call (sl5Bells_ok nm n v cs x hm (by omega) _ (by first | exact h.ext hx12 | exact h.ext (dr hx12))) ?_
    rintro y w3 hx3 ho3
    have hx3 : Ext w2 w3 := by first | exact hx3 | exact ud hx3 | exact ud (ud hx3)
    generalize hPB : pbL (underL (roundsL n) cs) x = PB at *
    simp only [↓vsd, vsn, gW, qd, qv, ev, pick, argE, zipE, ne_eq, eq_self, forall_const, implies_true, if_true, if_false, reduceIte, reduceCtorEq, Nat.reduceEqDiff, Nat.reduceAdd, Nat.reduceLT, ↓us_sCoursePath, r_sCoursePath, ho3.sq.facts]
    refine m_upto PB.length (fun i vs w' => ∃ z, vs = [z, .int .i64 i] ∧ Own fI 1 3 w2.heap.size w' z (cpL n cs (PB.take i)) ∧ Ext w2 w' ∧ Own fI 1 3 w2.heap.size w' y PB ∧ ∀ c, z.ownBlock = some c → Away y c) ⟨_, rfl, (Own.nil fI_len).to rfl, hx3, ho3, fun c hc => by cases hc⟩ ?_
    rintro i vs w6 hi ⟨z, rfl, ho6, hx6, hy6, haw⟩
    have hq6 := hy6.sq
    have hx16 := hx12.trans hx6
    have h6 := h2.ext hx6
    by_cases hlt : i < PB.length
    · have hltI : (i : Int) < PB.length := by omega
      have hltJ : ¬ (PB.length : Int) ≤ i := by omega
      simp only [↓vsd, vsn, gW, qd, qv, ev, pick, argE, zipE, ne_eq, eq_self, forall_const, implies_true, if_true, if_false, reduceIte, reduceCtorEq, Nat.reduceEqDiff, Nat.reduceAdd, Nat.reduceLT, ↓us_sCoursePath, r_sCoursePath, hltI, hltJ, hq6.facts, hq6.at1 0 hlt, h6.facts, fMg]
      refine ⟨by omega, m_call (sl5Path_ok nm n v cs _ hm _ (by first | exact h.ext hx16 | exact h.ext (dr hx16))) ?_⟩
      rintro p w7 hx7 ho7
      have hx7 : Ext w6 w7 := by first | exact hx7 | exact ud hx7 | exact ud (ud hx7)
      obtain ⟨hd, hoh, _⟩ := ho7.head .i64 cs.length (by rw [pathP_len, rowsU_len]; omega)
      have hoh := hoh.to (show _ = lpL n cs (PB.getD i 0) from rfl)
      have hpl : (pathP (rowsU (roundsL n) cs (cs.length + 1)) (PB.getD i 0)).length = cs.length + 1 := by rw [pathP_len, rowsU_len]
      have hI : ((cs.length + 1 : Nat) : Int) - 1 = (cs.length : Int) := by omega
      have hI2 : (cs.length : Int) + 1 - 1 = (cs.length : Int) := by omega
      simp only [↓vsd, vsn, gW, qd, qv, ev, pick, argE, zipE, ne_eq, eq_self, forall_const, implies_true, if_true, if_false, reduceIte, reduceCtorEq, Nat.reduceEqDiff, Nat.reduceAdd, Nat.reduceLT, ↓us_sCoursePath, r_sCoursePath, ho7.sq.facts, hpl, hI, hI2, hd]
      have hll := cpL_len n cs (PB.take i)
      rw [List.length_take, Nat.min_eq_left (by omega)] at hll
      have hb1 : i * cs.length ≤ 320 := Nat.mul_le_mul (show i ≤ 8 by omega) hcl.2
      refine ⟨inR_i64 (by omega), m_app2 (ho6.ext hx7) hoh.sq fI_one (by decide) (by rw [hll, lpL_len]; omega) (by decide) (hx6.trans hx7).size ?_⟩
      rintro z' w8 ho8 hg8 hna
      have hx8 := (ho6.ext hx7).grown (hx6.trans hx7) (Nat.le_refl _) hg8
      simp only [↓vsd, vsn, gW, qd, qv, ev, pick, argE, zipE, ne_eq, eq_self, forall_const, implies_true, if_true, if_false, reduceIte, reduceCtorEq, Nat.reduceEqDiff, Nat.reduceAdd, Nat.reduceLT, ↓us_sCoursePath, r_sCoursePath]
      have hyk := hy6.ext hx7
      exact ⟨inR_i64 (by omega), UpTo.next hlt ⟨z', rfl, ho8.to (cpL_succ n cs PB i hlt).symm, hx8, hyk.off hg8 haw, fun c hc => by
        rcases hna c hc with h' | h'
        · exact haw c h'
        · exact hyk.away h'⟩⟩
    · obtain rfl : i = PB.length := by omega
      have hltI : ¬ (PB.length : Int) < PB.length := by omega
      simp only [↓vsd, vsn, gW, qd, qv, ev, pick, argE, zipE, ne_eq, eq_self, forall_const, implies_true, if_true, if_false, reduceIte, reduceCtorEq, Nat.reduceEqDiff, Nat.reduceAdd, Nat.reduceLT, ↓us_sCoursePath, r_sCoursePath, hltI]
      rw [List.take_length] at ho6
      exact ⟨hx16, z, rfl, by rw [hcp]; exact ho6.mono hx12.size⟩
  · have hD := decide_eq_false hok
    simp only [↓vsd, vsn, gW, qd, qv, ev, pick, argE, zipE, ne_eq, eq_self, forall_const, implies_true, if_true, if_false, reduceIte, reduceCtorEq, Nat.reduceEqDiff, Nat.reduceAdd, Nat.reduceLT, ↓us_sCoursePath, r_sCoursePath, hD]
    exact ⟨hx12, _, rfl, by rw [cpR, if_neg hok]; exact Own.nil fI_len⟩
end Go.Proofs.Ytpnopboffalfnaa
