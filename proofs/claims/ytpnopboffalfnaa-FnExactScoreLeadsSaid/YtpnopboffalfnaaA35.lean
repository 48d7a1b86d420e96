/-
  The rows of a touch, of both sides.
  Conditions: none.
-/
import Derived.Test.YtpnopboffalfnaaA33
import Derived.Test.YtpnopboffalfnaaA34
set_option linter.unusedSimpArgs false
set_option linter.unusedVariables false
set_option linter.defProp false
namespace Go.Proofs.Ytpnopboffalfnaa
open Go Go.RowKit
section
variable (P : Program) (k : KT) (e : Env) (w : World)
abbrev b214_1 : X := (.cond (.t 14) (.seq (.reg [6, 7] (.c (.q 6 [] (.mv (.c (.slice none 0 0)))) (.c (.q 7 [] (.mv (.c (.bool false)))) .nil))) .ret) .skip)
def t214_1 := b214_1
theorem u214_1 : vcK P t214_1 k e w = vcK P b214_1 k e w := rfl
abbrev b214_2 : X := (.seq (.drw [6, 7] (.c (.q 15 [] (.lda 3 (.t 3))) (.c (.q 16 [] (.lda 3 (.t 3))) (.c (.q 17 [] (.lda 2 (.t 4))) (.c (.q 18 [] (.mv (.t 2))) (.c (.q 20 [] (.mv (.t 2))) (.c (.q 21 [] (.len (.t 20))) (.c (.e (some 19) [] (.call false 198 [(.t 16), (.t 17), (.t 18)])) (.c (.q 22 [] (.ssl 1 (.t 19) none (some (.t 21)))) (.c (.e (some 23) [] (.call false 294 [(.t 15), (.t 22)])) (.c (.q 6 [] (.mv (.t 23))) (.c (.q 7 [] (.mv (.c (.bool true)))) .nil)))))))))))) .ret)
def t214_2 := b214_2
theorem u214_2 : vcK P t214_2 k e w = vcK P b214_2 k e w := rfl
abbrev b214_3 : X := (.seq (.seq (.reg [2, 3, 4, 14] (.c (.q 8 [] (.mv (.t 2))) (.c (.q 9 [] (.len (.t 8))) (.c (.q 10 [] (.fa 2 (.t 3))) (.c (.q 11 [] (.ld (.t 10))) (.c (.q 12 [] (.lens (.t 11))) (.c (.q 13 [] (.bin .mul (.t 9) (.t 12))) (.c (.q 14 [] (.bin .gtr (.t 13) (.c (.int .i64 800)))) .nil)))))))) t214_1) t214_2)
def t214_3 := b214_3
theorem u214_3 : vcK P t214_3 k e w = vcK P b214_3 k e w := rfl
abbrev b214_0 : X := (.seq (.reg [2, 3, 4] (.c (.e (some 3) [] (.box 41 (.t 0))) (.c (.e (some 4) [] (.box 32 (.t 1))) (.c (.q 6 [] (.mv (.c (.slice none 0 0)))) (.c (.q 7 [] (.mv (.c (.bool false)))) .nil))))) t214_3)
def x_itouchRows := b214_0
theorem u214_0 : vcK P x_itouchRows k e w = vcK P b214_0 k e w := rfl
def r_itouchRows : List XO := [(.mv (.t 6)), (.mv (.t 7))]
theorem c_itouchRows : convF Try.prog [169, 170, 207, 208, 210, 227, 232, 233, 255, 259, 268, 269, 270, 280, 281, 296, 299, 306, 307, 309] Try.f214 [([2, 3, 4], []), ([2, 3, 4, 14], []), ([6, 7], []), ([6, 7], [])] = some (x_itouchRows, r_itouchRows) := by kernel_rfl
def us_itouchRows := aI @u214_0 (aI @u214_1 (aI @u214_2 @u214_3))
abbrev b77_1 : X := (.cond (.t 12) (.seq (.reg [6, 7] (.c (.q 6 [] (.mv (.c (.slice none 0 0)))) (.c (.q 7 [] (.mv (.c (.bool false)))) .nil))) .ret) .skip)
def t77_1 := b77_1
theorem u77_1 : vcK P t77_1 k e w = vcK P b77_1 k e w := rfl
abbrev b77_2 : X := (.seq (.reg [6, 7] (.c (.q 13 [] (.lda 3 (.t 3))) (.c (.q 14 [] (.lda 2 (.t 4))) (.c (.q 15 [] (.mv (.t 2))) (.c (.e (some 16) [] (.call false 214 [(.t 13), (.t 14), (.t 15)])) (.c (.q 17 [] (.ext 0 (.t 16))) (.c (.q 18 [] (.ext 1 (.t 16))) (.c (.q 6 [] (.mv (.t 17))) (.c (.q 7 [] (.mv (.t 18))) .nil))))))))) .ret)
def t77_2 := b77_2
theorem u77_2 : vcK P t77_2 k e w = vcK P b77_2 k e w := rfl
abbrev b77_3 : X := (.seq (.seq (.reg [2, 3, 4, 12] (.c (.q 8 [] (.lda 3 (.t 3))) (.c (.q 9 [] (.lda 2 (.t 4))) (.c (.q 10 [] (.mv (.t 2))) (.c (.e (some 11) [] (.call false 161 [(.t 8), (.t 9), (.t 10)])) (.c (.q 12 [] (.not (.t 11))) .nil)))))) t77_1) t77_2)
def t77_3 := b77_3
theorem u77_3 : vcK P t77_3 k e w = vcK P b77_3 k e w := rfl
abbrev b77_0 : X := (.seq (.reg [2, 3, 4] (.c (.e (some 3) [] (.box 41 (.t 0))) (.c (.e (some 4) [] (.box 32 (.t 1))) (.c (.q 6 [] (.mv (.c (.slice none 0 0)))) (.c (.q 7 [] (.mv (.c (.bool false)))) .nil))))) t77_3)
def x_iTouchRows := b77_0
theorem u77_0 : vcK P x_iTouchRows k e w = vcK P b77_0 k e w := rfl
def r_iTouchRows : List XO := [(.mv (.t 6)), (.mv (.t 7))]
theorem c_iTouchRows : convF Try.prog [169, 170, 207, 208, 210, 227, 232, 233, 255, 259, 268, 269, 270, 280, 281, 296, 299, 306, 307, 309] Try.f77 [([2, 3, 4], []), ([2, 3, 4, 12], []), ([6, 7], []), ([6, 7], [])] = some (x_iTouchRows, r_iTouchRows) := by kernel_rfl
def us_iTouchRows := aI @u77_0 (aI @u77_1 (aI @u77_2 @u77_3))
abbrev b215_1 : X := (.reg [3, 7, 18, 19, 20] (.c (.q 31 [] (.mv (.t 7))) (.c (.q 32 [] (.mv (.t 10))) (.c (.e (some 33) [] (.app 27 9 1 16 [(S [])] 27 (.t 31) (.t 32))) (.c (.q 7 [] (.mv (.t 33))) .nil)))))
def t215_1 := b215_1
theorem u215_1 : vcK P t215_1 k e w = vcK P b215_1 k e w := rfl
abbrev b215_2 : X := (.seq (.reg [3, 7, 10, 18, 19, 20] (.c (.q 25 [] (.fa 2 (.t 3))) (.c (.q 26 [] (.ld (.t 25))) (.c (.q 27 [] (.mv (.t 9))) (.c (.e (some 28) [] (.call false 234 [(.t 26), (.t 27)])) (.c (.q 24 [] (.mv (.t 28))) (.c (.q 29 [] (.ext 0 (.t 24))) (.c (.q 30 [] (.ext 1 (.t 24))) (.c (.q 10 [] (.mv (.t 29))) (.c (.q 11 [] (.mv (.t 30))) .nil)))))))))) t215_1)
def t215_2 := b215_2
theorem u215_2 : vcK P t215_2 k e w = vcK P b215_2 k e w := rfl
abbrev b215_3 : X := (.reg [3, 7, 18, 19, 20] (.c (.q 34 [] (.bin .add (.t 20) (.c (.int .i64 1)))) (.c (.q 20 [] (.mv (.t 34))) .nil)))
def t215_3 := b215_3
theorem u215_3 : vcK P t215_3 k e w = vcK P b215_3 k e w := rfl
abbrev b215_4 : X := (.seq (.blk 1 (.seq (.reg [3, 7, 9, 18, 19, 20] (.c (.q 22 [] (.ia 1 (.t 18) (.t 20))) (.c (.q 23 [] (.ld (.t 22))) (.c (.q 9 [] (.mv (.t 23))) .nil)))) t215_2)) t215_3)
def t215_4 := b215_4
theorem u215_4 : vcK P t215_4 k e w = vcK P b215_4 k e w := rfl
abbrev b215_5 : X := (.seq (.cond (.t 21) .skip (.exit 0)) t215_4)
def t215_5 := b215_5
theorem u215_5 : vcK P t215_5 k e w = vcK P b215_5 k e w := rfl
abbrev b215_6 : X := (.seq (.reg [3, 7, 18, 19, 20, 21] (.c (.q 21 [] (.bin .lss (.t 20) (.t 19))) .nil)) t215_5)
def t215_6 := b215_6
theorem u215_6 : vcK P t215_6 k e w = vcK P b215_6 k e w := rfl
abbrev b215_7 : X := (.blk 0 (.loop [7, 20] [3, 18, 19] t215_6))
def t215_7 := b215_7
theorem u215_7 : vcK P t215_7 k e w = vcK P b215_7 k e w := rfl
abbrev b215_8 : X := (.seq (.reg [6] (.c (.q 35 [] (.mv (.t 7))) (.c (.q 6 [] (.mv (.t 35))) .nil))) .ret)
def t215_8 := b215_8
theorem u215_8 : vcK P t215_8 k e w = vcK P b215_8 k e w := rfl
abbrev b215_9 : X := (.seq (.seq (.reg [3, 7, 18, 19, 20] (.c (.q 12 [] (.lda 3 (.t 3))) (.c (.q 13 [] (.lda 2 (.t 4))) (.c (.q 14 [] (.mv (.t 2))) (.c (.e (some 15) [] (.call false 193 [(.t 12), (.t 13), (.t 14)])) (.c (.q 16 [] (.mv (.t 2))) (.c (.q 17 [] (.len (.t 16))) (.c (.q 18 [] (.ssl 1 (.t 15) none (some (.t 17)))) (.c (.q 19 [] (.lens (.t 18))) (.c (.q 20 [] (.mv (.c (.int .i64 0)))) .nil)))))))))) t215_7) t215_8)
def t215_9 := b215_9
theorem u215_9 : vcK P t215_9 k e w = vcK P b215_9 k e w := rfl
abbrev b215_10 : X := (.seq (.reg [2, 3, 4, 7] (.c (.q 7 [] (.mv (.c (.slice none 0 0)))) .nil)) t215_9)
def t215_10 := b215_10
theorem u215_10 : vcK P t215_10 k e w = vcK P b215_10 k e w := rfl
abbrev b215_0 : X := (.seq (.reg [2, 3, 4] (.c (.e (some 3) [] (.box 41 (.t 0))) (.c (.e (some 4) [] (.box 32 (.t 1))) (.c (.q 6 [] (.mv (.c (.slice none 0 0)))) .nil)))) t215_10)
def x_sl9Rows := b215_0
theorem u215_0 : vcK P x_sl9Rows k e w = vcK P b215_0 k e w := rfl
def r_sl9Rows : List XO := [(.mv (.t 6))]
theorem c_sl9Rows : convF Try.prog [169, 170, 207, 208, 210, 227, 232, 233, 255, 259, 268, 269, 270, 280, 281, 296, 299, 306, 307, 309] Try.f215 [([2, 3, 4], []), ([2, 3, 4, 7], []), ([3, 7, 18, 19, 20], []), ([7, 20], [3, 18, 19]), ([3, 7, 18, 19, 20, 21], []), ([3, 7, 9, 18, 19, 20], []), ([3, 7, 10, 18, 19, 20], []), ([3, 7, 18, 19, 20], []), ([3, 7, 18, 19, 20], []), ([6], [])] = some (x_sl9Rows, r_sl9Rows) := by kernel_rfl
def us_sl9Rows := aI @u215_0 (aI @u215_1 (aI @u215_2 (aI @u215_3 (aI @u215_4 (aI @u215_5 (aI @u215_6 (aI @u215_7 (aI @u215_8 (aI @u215_9 @u215_10)))))))))
abbrev b78_1 : X := (.cond (.t 21) (.seq (.reg [6, 7] (.c (.q 6 [] (.mv (.c (.slice none 0 0)))) (.c (.q 7 [] (.mv (.c (.bool false)))) .nil))) .ret) .skip)
def t78_1 := b78_1
theorem u78_1 : vcK P t78_1 k e w = vcK P b78_1 k e w := rfl
abbrev b78_2 : X := (.seq (.reg [6, 7] (.c (.q 22 [] (.lda 3 (.t 3))) (.c (.q 23 [] (.lda 2 (.t 4))) (.c (.q 24 [] (.mv (.t 2))) (.c (.e (some 25) [] (.call false 215 [(.t 22), (.t 23), (.t 24)])) (.c (.q 6 [] (.mv (.t 25))) (.c (.q 7 [] (.mv (.c (.bool true)))) .nil))))))) .ret)
def t78_2 := b78_2
theorem u78_2 : vcK P t78_2 k e w = vcK P b78_2 k e w := rfl
abbrev b78_3 : X := (.seq (.seq (.reg [2, 3, 4, 21] (.c (.q 8 [] (.lda 3 (.t 3))) (.c (.q 9 [] (.lda 2 (.t 4))) (.c (.q 10 [] (.mv (.t 2))) (.c (.e (some 11) [] (.call false 163 [(.t 8), (.t 9), (.t 10)])) (.c (.q 12 [] (.not (.t 11))) (.c (.q 13 [] (.mv (.t 12))) (.c (.q 14 [(13, false)] (.mv (.t 2))) (.c (.q 15 [(13, false)] (.len (.t 14))) (.c (.q 16 [(13, false)] (.fa 2 (.t 3))) (.c (.q 17 [(13, false)] (.ld (.t 16))) (.c (.q 18 [(13, false)] (.lens (.t 17))) (.c (.q 19 [(13, false)] (.bin .mul (.t 15) (.t 18))) (.c (.q 20 [(13, false)] (.bin .gtr (.t 19) (.c (.int .i64 800)))) (.c (.q 21 [] (.pick (.t 13) (.c (.bool true)) (.t 20))) .nil))))))))))))))) t78_1) t78_2)
def t78_3 := b78_3
theorem u78_3 : vcK P t78_3 k e w = vcK P b78_3 k e w := rfl
abbrev b78_0 : X := (.seq (.reg [2, 3, 4] (.c (.e (some 3) [] (.box 41 (.t 0))) (.c (.e (some 4) [] (.box 32 (.t 1))) (.c (.q 6 [] (.mv (.c (.slice none 0 0)))) (.c (.q 7 [] (.mv (.c (.bool false)))) .nil))))) t78_3)
def x_sTouchRows := b78_0
theorem u78_0 : vcK P x_sTouchRows k e w = vcK P b78_0 k e w := rfl
def r_sTouchRows : List XO := [(.mv (.t 6)), (.mv (.t 7))]
theorem c_sTouchRows : convF Try.prog [169, 170, 207, 208, 210, 227, 232, 233, 255, 259, 268, 269, 270, 280, 281, 296, 299, 306, 307, 309] Try.f78 [([2, 3, 4], []), ([2, 3, 4, 21], []), ([6, 7], []), ([6, 7], [])] = some (x_sTouchRows, r_sTouchRows) := by kernel_rfl
def us_sTouchRows := aI @u78_0 (aI @u78_1 (aI @u78_2 @u78_3))
end

/-- Are the rows of a touch asked, and not too many? -/
def RowsOk (nm : List UInt8) (st : Int) (cs : List (List UInt8)) (b s t : List UInt8) : Prop := IsMT nm st cs b s t ∧ t.length * cs.length ≤ 800
instance (nm : List UInt8) (st : Int) (cs : List (List UInt8)) (b s t : List UInt8) : Decidable (RowsOk nm st cs b s t) := by unfold RowsOk; infer_instance
def rowsT (st : Nat) (cs : List (List UInt8)) (b s t : List UInt8) : List (List UInt8) := leadsL cs (headsP st cs b s t t.length)
def rowsV (nm : List UInt8) (st : Int) (cs : List (List UInt8)) (b s t : List UInt8) : List (List UInt8) := if RowsOk nm st cs b s t then rowsT st.toNat cs b s t else []
theorem headsP_take (st : Nat) (cs : List (List UInt8)) (b s t : List UInt8) (k : Nat) : (headsP st cs b s t (k + 1)).take k = headsP st cs b s t k := by
  unfold headsP
  rw [← List.map_take, List.take_range, Nat.min_eq_left (by omega)]
theorem headsP_rows {nm : List UInt8} {st : Nat} {cs : List (List UInt8)} {b s : List UInt8} (h : IsMC nm st cs b s) (t : List UInt8) (k : Nat) : ∀ r ∈ headsP st cs b s t k, IsRow r := fun r hr => by
  obtain ⟨i, _, rfl⟩ := List.mem_map.1 hr
  exact (headP_row h t i).1
theorem itouchRows_ok (nm : List UInt8) (st : Nat) (v : Value) (cs : List (List UInt8)) (b s t : List UInt8) (hM : IsMT nm st cs b s t) (w : World) (h : Sq fS 1 w v cs) : Fn 214 [mV nm st v, kV b s, S t] w (fun r w' => ∃ x, r = .tuple ⟨[x, .bool (decide (RowsOk nm st cs b s t))]⟩ ∧ Own fS 1 9 w.heap.size w' x (rowsV nm st cs b s t)) := by
  have hcl := hM.1.1.2.2.1
  have ht60 := hM.2.1
  have hmul : t.length * cs.length ≤ 2400 := Nat.le_trans (Nat.mul_le_mul ht60.2 hcl.2) (by decide)
  have hmulI : (t.length : Int) * cs.length = ((t.length * cs.length : Nat) : Int) := (Int.natCast_mul _ _).symm
  (refine callsV_of mix Try.func214 c_itouchRows ?_; simp only [↓vsd, vsn, gW, qd, qv, ev, pick, argE, zipE, ne_eq, eq_self, forall_const, implies_true, if_true, if_false, reduceIte, reduceCtorEq, Nat.reduceEqDiff, Nat.reduceAdd, Nat.reduceLT, ↓us_itouchRows, r_itouchRows])
  refine m_al ?_
  rintro b1 w1 hb1 hblk1 hx1 hs1
  have h1 : Blk w1 b1 (fM nm st v) 41 := hblk1
  simp only [↓vsd, vsn, gW, qd, qv, ev, pick, argE, zipE, ne_eq, eq_self, forall_const, implies_true, if_true, if_false, reduceIte, reduceCtorEq, Nat.reduceEqDiff, Nat.reduceAdd, Nat.reduceLT, ↓us_itouchRows, r_itouchRows, h1.facts, fMg]
  refine m_al ?_
  rintro b2 w2 hb2 hblk2 hx2 hs2
  have h2 : Blk w2 b2 (fQ b s) 32 := hblk2
  have h12 := h1.ext hx2
  have hx12 := hx1.trans hx2
  have hq2 := h.ext hx12
  simp only [↓vsd, vsn, gW, qd, qv, ev, pick, argE, zipE, ne_eq, eq_self, forall_const, implies_true, if_true, if_false, reduceIte, reduceCtorEq, Nat.reduceEqDiff, Nat.reduceAdd, Nat.reduceLT, ↓us_itouchRows, r_itouchRows, h12.facts, h2.facts, fMg, fQg, hq2.facts]
  rw [hmulI]
  generalize hp : t.length * cs.length = p at *
  refine ⟨inR_i64 (by omega), fun hbig => ⟨hx12, ?_⟩, fun hsm => ?_⟩
  · have hn : ¬ RowsOk nm st cs b s t := fun hh => by have := hh.2; omega
    exact ⟨_, by rw [decide_eq_false hn], by rw [rowsV, if_neg hn]; exact Own.nil fS_len⟩
  · have hyes : RowsOk nm st cs b s t := ⟨hM, by omega⟩
    try refine m_call (iheads_ok nm st v cs b s t hM.1 ⟨hM.2.1.2, hM.2.2⟩ _ hq2) ?_
    try refine m_call (iheads_ok nm st v cs b s t hM.1 ⟨hM.2.1.2, hM.2.2⟩ _ (h.ext (dr hx12))) ?_
    rintro x w3 hx3 ho3
    have hx3 : Ext w2 w3 := by first | exact hx3 | exact ud hx3
    obtain ⟨hd, hoh, _⟩ := ho3.head .i64 t.length (by rw [headsP_len]; omega)
    rw [headsP_take] at hoh
    simp only [↓vsd, vsn, gW, qd, qv, ev, pick, argE, zipE, ne_eq, eq_self, forall_const, implies_true, if_true, if_false, reduceIte, reduceCtorEq, Nat.reduceEqDiff, Nat.reduceAdd, Nat.reduceLT, ↓us_itouchRows, r_itouchRows, hd]
    refine m_call (ileadsFrom_ok nm st v _ cs _ hM.1.1 (headsP_rows hM.1 t t.length) (by rw [headsP_len]; omega) _ (h.ext (hx12.trans hx3)) hoh.sq) ?_
    rintro y w4 hx4 ho4
    simp only [↓vsd, vsn, gW, qd, qv, ev, pick, argE, zipE, ne_eq, eq_self, forall_const, implies_true, if_true, if_false, reduceIte, reduceCtorEq, Nat.reduceEqDiff, Nat.reduceAdd, Nat.reduceLT, ↓us_itouchRows, r_itouchRows]
    exact ⟨(hx12.trans hx3).trans (by first | exact hx4 | exact ud hx4), y, by rw [decide_eq_true hyes], by rw [rowsV, if_pos hyes]; exact ho4.mono (hx12.trans hx3).size⟩
theorem sl9Rows_ok (nm : List UInt8) (st : Nat) (v : Value) (cs : List (List UInt8)) (b s t : List UInt8) (hM : IsMT nm st cs b s t) (w : World) (h : Sq fS 1 w v cs) : Fn 215 [mV nm st v, kV b s, S t] w (fun r w' => Own fS 1 9 w.heap.size w' r (rowsT st cs b s t)) := by
  have hcl := hM.1.1.2.2.1
  have ht60 := hM.2.1
  (refine callsV_of mix Try.func215 c_sl9Rows ?_; simp only [↓vsd, vsn, gW, qd, qv, ev, pick, argE, zipE, ne_eq, eq_self, forall_const, implies_true, if_true, if_false, reduceIte, reduceCtorEq, Nat.reduceEqDiff, Nat.reduceAdd, Nat.reduceLT, ↓us_sl9Rows, r_sl9Rows])
  refine m_al ?_
  rintro b1 w1 hb1 hblk1 hx1 hs1
  have h1 : Blk w1 b1 (fM nm st v) 41 := hblk1
  simp only [↓vsd, vsn, gW, qd, qv, ev, pick, argE, zipE, ne_eq, eq_self, forall_const, implies_true, if_true, if_false, reduceIte, reduceCtorEq, Nat.reduceEqDiff, Nat.reduceAdd, Nat.reduceLT, ↓us_sl9Rows, r_sl9Rows, h1.facts, fMg]
  refine m_al ?_
  rintro b2 w2 hb2 hblk2 hx2 hs2
  have h2 : Blk w2 b2 (fQ b s) 32 := hblk2
  have h12 := h1.ext hx2
  have hx12 := hx1.trans hx2
  have hq2 := h.ext hx12
  simp only [↓vsd, vsn, gW, qd, qv, ev, pick, argE, zipE, ne_eq, eq_self, forall_const, implies_true, if_true, if_false, reduceIte, reduceCtorEq, Nat.reduceEqDiff, Nat.reduceAdd, Nat.reduceLT, ↓us_sl9Rows, r_sl9Rows, h12.facts, h2.facts, fMg, fQg, hq2.facts]
  try refine m_call (sl9Heads_ok nm st v cs b s t hM.1 hM.2.1.2 _ hq2) ?_
  try refine m_call (sl9Heads_ok nm st v cs b s t hM.1 hM.2.1.2 _ (h.ext (dr hx12))) ?_
  rintro x w3 hx3 ho3
  have hx3 : Ext w2 w3 := by first | exact hx3 | exact ud hx3
  obtain ⟨hd, hoh, _⟩ := ho3.head .i64 t.length (by rw [headsP_len]; omega)
  rw [headsP_take] at hoh
  simp only [↓vsd, vsn, gW, qd, qv, ev, pick, argE, zipE, ne_eq, eq_self, forall_const, implies_true, if_true, if_false, reduceIte, reduceCtorEq, Nat.reduceEqDiff, Nat.reduceAdd, Nat.reduceLT, ↓us_sl9Rows, r_sl9Rows, hd, hoh.sq.facts]
  have hrs := headsP_rows hM.1 t t.length
  have hhl := headsP_len st cs b s t t.length
  unfold rowsT
  generalize headsP st cs b s t t.length = hs at *
  have hx13 := hx12.trans hx3
  have h13 := h12.ext hx3
  refine m_upto hs.length (fun i vs w' => ∃ x, vs = [x, .int .i64 i] ∧ Own fS 1 9 w3.heap.size w' x (leadsL cs (hs.take i)) ∧ Ext w3 w') ⟨_, rfl, (Own.nil fS_len).to rfl, Ext.refl _⟩ ?_
  rintro i vs w4 hi ⟨x, rfl, ho4, hx4⟩
  have h14 := h13.ext hx4
  have hx14 := hx13.trans hx4
  have hq4 := hoh.sq.ext hx4
  by_cases hlt : i < hs.length
  · have hltI : (i : Int) < hs.length := by omega
    have hltJ : ¬ (hs.length : Int) ≤ i := by omega
    simp only [↓vsd, vsn, gW, qd, qv, ev, pick, argE, zipE, ne_eq, eq_self, forall_const, implies_true, if_true, if_false, reduceIte, reduceCtorEq, Nat.reduceEqDiff, Nat.reduceAdd, Nat.reduceLT, ↓us_sl9Rows, r_sl9Rows, hltI, hltJ, hq4.facts, hq4.at1 [] hlt, h14.facts, fMg]
    refine ⟨by omega, m_call (sl4Lead_ok _ v cs st (hrs _ (getD_mem [] hlt)) hM.1.1.2.2.2 hcl.2 _ (h.ext (by first | exact hx14 | exact dr hx14))) ?_⟩
    rintro _ w5 hx5 ⟨y, rfl, ho5⟩
    have hx5 : Ext w4 w5 := by first | exact hx5 | exact ud hx5
    simp only [↓vsd, vsn, gW, qd, qv, ev, pick, argE, zipE, ne_eq, eq_self, forall_const, implies_true, if_true, if_false, reduceIte, reduceCtorEq, Nat.reduceEqDiff, Nat.reduceAdd, Nat.reduceLT, ↓us_sl9Rows, r_sl9Rows]
    have hll := leadsL_len cs (hs.take i)
    rw [List.length_take, Nat.min_eq_left (by omega)] at hll
    have hb1 : i * cs.length ≤ 40000 := Nat.le_trans (Nat.mul_le_mul (show i ≤ 1000 by omega) hcl.2) (by decide)
    refine m_app (ho4.ext hx5) ho5.sq fS_one (by decide) (by rw [hll, rowsU_len]; omega) (by decide) (hx4.trans hx5).size ?_
    rintro z w6 ho6 hg6
    have hx6 := (ho4.ext hx5).grown (hx4.trans hx5) (Nat.le_refl _) hg6
    simp only [↓vsd, vsn, gW, qd, qv, ev, pick, argE, zipE, ne_eq, eq_self, forall_const, implies_true, if_true, if_false, reduceIte, reduceCtorEq, Nat.reduceEqDiff, Nat.reduceAdd, Nat.reduceLT, ↓us_sl9Rows, r_sl9Rows]
    exact ⟨inR_i64 (by omega), UpTo.next hlt ⟨z, rfl, ho6.to (leadsL_succ cs hs i hlt).symm, hx6⟩⟩
  · obtain rfl : i = hs.length := by omega
    have hltI : ¬ (hs.length : Int) < hs.length := by omega
    simp only [↓vsd, vsn, gW, qd, qv, ev, pick, argE, zipE, ne_eq, eq_self, forall_const, implies_true, if_true, if_false, reduceIte, reduceCtorEq, Nat.reduceEqDiff, Nat.reduceAdd, Nat.reduceLT, ↓us_sl9Rows, r_sl9Rows, hltI]
    rw [List.take_length] at ho4
    exact ⟨hx14, ho4.mono hx13.size⟩
section
variable (nm : List UInt8) (st : Int) (v : Value) (cs : List (List UInt8)) (b s t : List UInt8) (hnm : nm.length ≤ 1048576) (hs : ∀ c ∈ cs, c.length ≤ 1048576) (hl : cs.length ≤ 1000000000) (hb : b.length ≤ 1048576 ∧ s.length ≤ 1048576) (ht : t.length ≤ 1000000000)
include hnm hs hl hb ht
theorem iTouchRows_ok (w : World) (h : Sq fS 1 w v cs) : Fn 77 [mV nm st v, kV b s, S t] w (fun r w' => ∃ x, r = .tuple ⟨[x, .bool (decide (RowsOk nm st cs b s t))]⟩ ∧ Own fS 1 9 w.heap.size w' x (rowsV nm st cs b s t)) := by
  (refine callsV_of mix Try.func77 c_iTouchRows ?_; simp only [↓vsd, vsn, gW, qd, qv, ev, pick, argE, zipE, ne_eq, eq_self, forall_const, implies_true, if_true, if_false, reduceIte, reduceCtorEq, Nat.reduceEqDiff, Nat.reduceAdd, Nat.reduceLT, ↓us_iTouchRows, r_iTouchRows])
  refine m_al ?_
  rintro b1 w1 hb1 hblk1 hx1 hs1
  have h1 : Blk w1 b1 (fM nm st v) 41 := hblk1
  simp only [↓vsd, vsn, gW, qd, qv, ev, pick, argE, zipE, ne_eq, eq_self, forall_const, implies_true, if_true, if_false, reduceIte, reduceCtorEq, Nat.reduceEqDiff, Nat.reduceAdd, Nat.reduceLT, ↓us_iTouchRows, r_iTouchRows, h1.facts, fMg]
  refine m_al ?_
  rintro b2 w2 hb2 hblk2 hx2 hs2
  have h2 : Blk w2 b2 (fQ b s) 32 := hblk2
  have h12 := h1.ext hx2
  have hx12 := hx1.trans hx2
  have hq2 := h.ext hx12
  simp only [↓vsd, vsn, gW, qd, qv, ev, pick, argE, zipE, ne_eq, eq_self, forall_const, implies_true, if_true, if_false, reduceIte, reduceCtorEq, Nat.reduceEqDiff, Nat.reduceAdd, Nat.reduceLT, ↓us_iTouchRows, r_iTouchRows, h12.facts, h2.facts, fMg, fQg, hq2.facts]
  refine m_call (igoodFor_ok nm st v cs b s t hnm hs hl hb ht _ (h.ext hx12)) ?_
  rintro _ w3 hx3 rfl
  have hx13 := hx12.trans hx3
  have h13 := h12.ext hx3
  have h23 := h2.ext hx3
  by_cases hM : IsMC nm st cs b s ∧ IsTch t
  · obtain ⟨n, rfl⟩ : ∃ n : Nat, st = n := ⟨st.toNat, by have := hM.1.1.2.1; omega⟩
    simp only [↓vsd, vsn, gW, qd, qv, ev, pick, argE, zipE, ne_eq, eq_self, forall_const, implies_true, if_true, if_false, reduceIte, reduceCtorEq, Nat.reduceEqDiff, Nat.reduceAdd, Nat.reduceLT, ↓us_iTouchRows, r_iTouchRows, hM, h13.facts, h23.facts, fMg, fQg]
    refine m_call (itouchRows_ok nm n v cs b s t hM _ (h.ext hx13)) ?_
    rintro _ w4 hx4 ⟨x, rfl, ho4⟩
    simp only [↓vsd, vsn, gW, qd, qv, ev, pick, argE, zipE, ne_eq, eq_self, forall_const, implies_true, if_true, if_false, reduceIte, reduceCtorEq, Nat.reduceEqDiff, Nat.reduceAdd, Nat.reduceLT, ↓us_iTouchRows, r_iTouchRows]
    exact ⟨hx13.trans hx4, x, rfl, ho4.mono hx13.size⟩
  · have hn : ¬ RowsOk nm st cs b s t := fun hh => hM hh.1
    simp only [↓vsd, vsn, gW, qd, qv, ev, pick, argE, zipE, ne_eq, eq_self, forall_const, implies_true, if_true, if_false, reduceIte, reduceCtorEq, Nat.reduceEqDiff, Nat.reduceAdd, Nat.reduceLT, ↓us_iTouchRows, r_iTouchRows, hM]
    exact ⟨hx13, _, by rw [decide_eq_false hn], by rw [rowsV, if_neg hn]; exact Own.nil fS_len⟩
theorem sTouchRows_ok (w : World) (h : Sq fS 1 w v cs) : Fn 78 [mV nm st v, kV b s, S t] w (fun r w' => ∃ x, r = .tuple ⟨[x, .bool (decide (RowsOk nm st cs b s t))]⟩ ∧ Own fS 1 9 w.heap.size w' x (rowsV nm st cs b s t)) := by
  (refine callsV_of mix Try.func78 c_sTouchRows ?_; simp only [↓vsd, vsn, gW, qd, qv, ev, pick, argE, zipE, ne_eq, eq_self, forall_const, implies_true, if_true, if_false, reduceIte, reduceCtorEq, Nat.reduceEqDiff, Nat.reduceAdd, Nat.reduceLT, ↓us_sTouchRows, r_sTouchRows])
  refine m_al ?_
  rintro b1 w1 hb1 hblk1 hx1 hs1
  have h1 : Blk w1 b1 (fM nm st v) 41 := hblk1
  simp only [↓vsd, vsn, gW, qd, qv, ev, pick, argE, zipE, ne_eq, eq_self, forall_const, implies_true, if_true, if_false, reduceIte, reduceCtorEq, Nat.reduceEqDiff, Nat.reduceAdd, Nat.reduceLT, ↓us_sTouchRows, r_sTouchRows, h1.facts, fMg]
  refine m_al ?_
  rintro b2 w2 hb2 hblk2 hx2 hs2
  have h2 : Blk w2 b2 (fQ b s) 32 := hblk2
  have h12 := h1.ext hx2
  have hx12 := hx1.trans hx2
  have hq2 := h.ext hx12
  simp only [↓vsd, vsn, gW, qd, qv, ev, pick, argE, zipE, ne_eq, eq_self, forall_const, implies_true, if_true, if_false, reduceIte, reduceCtorEq, Nat.reduceEqDiff, Nat.reduceAdd, Nat.reduceLT, ↓us_sTouchRows, r_sTouchRows, h12.facts, h2.facts, fMg, fQg, hq2.facts]
  refine m_call (sl9Asked_ok nm st v cs b s t hnm hs hl hb ht _ (h.ext hx12)) ?_
  rintro _ w3 hx3 rfl
  have hx13 := hx12.trans hx3
  have h13 := h12.ext hx3
  have h23 := h2.ext hx3
  have hq3 := h.ext hx13
  by_cases hM : IsMC nm st cs b s ∧ IsTch t
  · obtain ⟨n, rfl⟩ : ∃ n : Nat, st = n := ⟨st.toNat, by have := hM.1.1.2.1; omega⟩
    have hcl := hM.1.1.2.2.1
    have ht60 := hM.2.1
    have hmul : t.length * cs.length ≤ 2400 := Nat.le_trans (Nat.mul_le_mul ht60.2 hcl.2) (by decide)
    have hmulI : (t.length : Int) * cs.length = ((t.length * cs.length : Nat) : Int) := (Int.natCast_mul _ _).symm
    simp only [↓vsd, vsn, gW, qd, qv, ev, pick, argE, zipE, ne_eq, eq_self, forall_const, implies_true, if_true, if_false, reduceIte, reduceCtorEq, Nat.reduceEqDiff, Nat.reduceAdd, Nat.reduceLT, ↓us_sTouchRows, r_sTouchRows, hM, h13.facts, h23.facts, fMg, fQg, hq3.facts]
    rw [hmulI]
    generalize hp : t.length * cs.length = p at *
    refine ⟨inR_i64 (by omega), fun hbig => ⟨hx13, ?_⟩, fun hsm => ?_⟩
    · have hn : ¬ RowsOk nm n cs b s t := fun hh => by have := hh.2; omega
      exact ⟨_, by rw [decide_eq_false hn], by rw [rowsV, if_neg hn]; exact Own.nil fS_len⟩
    · have hyes : RowsOk nm n cs b s t := ⟨hM, by omega⟩
      refine m_call (sl9Rows_ok nm n v cs b s t hM _ (h.ext hx13)) ?_
      rintro x w4 hx4 ho4
      simp only [↓vsd, vsn, gW, qd, qv, ev, pick, argE, zipE, ne_eq, eq_self, forall_const, implies_true, if_true, if_false, reduceIte, reduceCtorEq, Nat.reduceEqDiff, Nat.reduceAdd, Nat.reduceLT, ↓us_sTouchRows, r_sTouchRows]
      exact ⟨hx13.trans hx4, x, by rw [decide_eq_true hyes], by rw [rowsV, if_pos hyes]; exact ho4.mono hx13.size⟩
  · have hn : ¬ RowsOk nm st cs b s t := fun hh => hM hh.1
    simp only [↓vsd, vsn, gW, qd, qv, ev, pick, argE, zipE, ne_eq, eq_self, forall_const, implies_true, if_true, if_false, reduceIte, reduceCtorEq, Nat.reduceEqDiff, Nat.reduceAdd, Nat.reduceLT, ↓us_sTouchRows, r_sTouchRows, hM]
    exact ⟨hx13, _, by rw [decide_eq_false hn], by rw [rowsV, if_neg hn]; exact Own.nil fS_len⟩
end
end Go.Proofs.Ytpnopboffalfnaa
