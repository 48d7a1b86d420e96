/-
  The drawing of leads and courses.
  Conditions: none.
-/
import Derived.Test.YtpnopboffalfnaaD15
set_option linter.unusedSimpArgs false
set_option linter.unusedVariables false
set_option linter.defProp false
namespace Go.Proofs.Ytpnopboffalfnaa
open Go Go.RowKit
section
variable (P : Program) (k : KT) (e : Env) (w : World)
abbrev b185_1 : X := (.seq (.reg [2] (.c (.q 7 [] (.mv (.t 3))) (.c (.e (some 8) [] (.call true 169 [(.t 7)])) (.c (.e none [] (.st 3 (.t 2) (.t 8))) .nil)))) .ret)
def t185_1 := b185_1
theorem u185_1 : vcK P t185_1 k e w = vcK P b185_1 k e w := rfl
abbrev b185_2 : X := (.seq (.reg [2, 3] (.c (.q 4 [] (.mv (.t 0))) (.c (.q 5 [] (.bld [(.slice none 0 0), (.int .i64 0), (.int .u64 0)] [(0, 0, (.t 4))])) (.c (.e (some 6) [] (.box 132 (.t 5))) (.c (.q 3 [] (.mv (.t 6))) .nil))))) t185_1)
def t185_2 := b185_2
theorem u185_2 : vcK P t185_2 k e w = vcK P b185_2 k e w := rfl
abbrev b185_0 : X := (.seq (.reg [0, 2] (.c (.e (some 2) [] (.al 41 [(S []), (.int .i64 0), (.slice none 0 0)])) .nil)) t185_2)
def x_sDrawGoodMethod := b185_0
theorem u185_0 : vcK P x_sDrawGoodMethod k e w = vcK P b185_0 k e w := rfl
def r_sDrawGoodMethod : List XO := [(.lda 3 (.t 2))]
theorem c_sDrawGoodMethod : convF Try.prog [169, 170, 207, 208, 210, 227, 232, 233, 255, 259, 268, 269, 270, 280, 281, 296, 299, 306, 307, 309] Try.f185 [([0, 2], []), ([2, 3], []), ([2], [])] = some (x_sDrawGoodMethod, r_sDrawGoodMethod) := by kernel_rfl
def us_sDrawGoodMethod := aI @u185_0 (aI @u185_1 @u185_2)
abbrev b116_1 : X := (.seq (.reg [2] (.c (.q 3 [] (.mv (.t 0))) (.c (.e (some 4) [] (.call false 185 [(.t 3)])) (.c (.e none [] (.st 3 (.t 2) (.t 4))) .nil)))) .ret)
def t116_1 := b116_1
theorem u116_1 : vcK P t116_1 k e w = vcK P b116_1 k e w := rfl
abbrev b116_0 : X := (.seq (.reg [0, 2] (.c (.e (some 2) [] (.al 41 [(S []), (.int .i64 0), (.slice none 0 0)])) .nil)) t116_1)
def x_sDrawCourseRows := b116_0
theorem u116_0 : vcK P x_sDrawCourseRows k e w = vcK P b116_0 k e w := rfl
def r_sDrawCourseRows : List XO := [(.lda 3 (.t 2))]
theorem c_sDrawCourseRows : convF Try.prog [169, 170, 207, 208, 210, 227, 232, 233, 255, 259, 268, 269, 270, 280, 281, 296, 299, 306, 307, 309] Try.f116 [([0, 2], []), ([2], [])] = some (x_sDrawCourseRows, r_sDrawCourseRows) := by kernel_rfl
def us_sDrawCourseRows := aI @u116_0 @u116_1
abbrev b111_1 : X := (.cond (.t 18) (.seq (.drw [2, 3] (.c (.q 20 [] (.mv (.t 4))) (.c (.q 21 [] (.fa 1 (.t 5))) (.c (.q 22 [] (.ld (.t 21))) (.alt (.c (.p 19 [] (.lda 3 (.t 5))) (.c (.e (some 23) [] (.call true 232 [(.t 20), (.t 22)])) (.c (.e none [] (.st 3 (.t 2) (.t 19))) (.c (.q 3 [] (.mv (.t 23))) .nil)))) (.c (.e (some 23) [] (.call true 232 [(.t 20), (.t 22)])) (.c (.p 19 [] (.lda 3 (.t 5))) (.c (.e none [] (.st 3 (.t 2) (.t 19))) (.c (.q 3 [] (.mv (.t 23))) .nil))))))))) .ret) .skip)
def t111_1 := b111_1
theorem u111_1 : vcK P t111_1 k e w = vcK P b111_1 k e w := rfl
abbrev b111_2 : X := (.seq (.drw [2, 3] (.c (.q 25 [] (.mv (.t 4))) (.alt (.c (.p 24 [] (.lda 3 (.t 5))) (.c (.e (some 26) [] (.call true 233 [(.t 25)])) (.c (.e none [] (.st 3 (.t 2) (.t 24))) (.c (.q 3 [] (.mv (.t 26))) .nil)))) (.c (.e (some 26) [] (.call true 233 [(.t 25)])) (.c (.p 24 [] (.lda 3 (.t 5))) (.c (.e none [] (.st 3 (.t 2) (.t 24))) (.c (.q 3 [] (.mv (.t 26))) .nil))))))) .ret)
def t111_2 := b111_2
theorem u111_2 : vcK P t111_2 k e w = vcK P b111_2 k e w := rfl
abbrev b111_3 : X := (.seq (.seq (.reg [2, 4, 5, 18] (.c (.q 11 [] (.fa 1 (.t 5))) (.c (.q 12 [] (.ld (.t 11))) (.c (.e (some 13) [] (.call false 173 [(.t 12), (.c (.int .i64 3)), (.c (.int .i64 8))])) (.c (.q 14 [] (.mv (.t 13))) (.c (.q 15 [(14, true)] (.mv (.t 4))) (.c (.e (some 16) [(14, true)] (.call true 207 [(.t 15), (.c (.int .i64 8))])) (.c (.q 17 [(14, true)] (.not (.t 16))) (.c (.q 18 [] (.pick (.t 14) (.t 17) (.c (.bool false)))) .nil))))))))) t111_1) t111_2)
def t111_3 := b111_3
theorem u111_3 : vcK P t111_3 k e w = vcK P b111_3 k e w := rfl
abbrev b111_4 : X := (.seq (.reg [2, 4, 5] (.c (.q 9 [] (.mv (.t 4))) (.c (.e (some 10) [] (.call true 169 [(.t 9)])) (.c (.e (some 5) [] (.al 41 [(S []), (.int .i64 0), (.slice none 0 0)])) (.c (.e none [] (.st 3 (.t 5) (.t 10))) .nil))))) t111_3)
def t111_4 := b111_4
theorem u111_4 : vcK P t111_4 k e w = vcK P b111_4 k e w := rfl
abbrev b111_5 : X := (.seq (.reg [2, 4] (.c (.q 6 [] (.mv (.t 0))) (.c (.q 7 [] (.bld [(.slice none 0 0), (.int .i64 0), (.int .u64 0)] [(0, 0, (.t 6))])) (.c (.e (some 8) [] (.box 132 (.t 7))) (.c (.q 4 [] (.mv (.t 8))) .nil))))) t111_4)
def t111_5 := b111_5
theorem u111_5 : vcK P t111_5 k e w = vcK P b111_5 k e w := rfl
abbrev b111_0 : X := (.seq (.reg [0, 2] (.c (.e (some 2) [] (.al 41 [(S []), (.int .i64 0), (.slice none 0 0)])) (.c (.q 3 [] (.mv (.s []))) .nil))) t111_5)
def x_sDrawLeadRows := b111_0
theorem u111_0 : vcK P x_sDrawLeadRows k e w = vcK P b111_0 k e w := rfl
def r_sDrawLeadRows : List XO := [(.lda 3 (.t 2)), (.mv (.t 3))]
theorem c_sDrawLeadRows : convF Try.prog [169, 170, 207, 208, 210, 227, 232, 233, 255, 259, 268, 269, 270, 280, 281, 296, 299, 306, 307, 309] Try.f111 [([0, 2], []), ([2, 4], []), ([2, 4, 5], []), ([2, 4, 5, 18], []), ([2, 3], []), ([2, 3], [])] = some (x_sDrawLeadRows, r_sDrawLeadRows) := by kernel_rfl
def us_sDrawLeadRows := aI @u111_0 (aI @u111_1 (aI @u111_2 (aI @u111_3 (aI @u111_4 @u111_5))))
end

theorem sDrawGoodMethod_ok (v : Value) (code : List UInt8) (hl : code.length ≤ 1048576) (w : World) (h : Sq fU 1 w v code) : Fn 185 [v] w (fun r w' => AnyM w.heap.size r w') := by
  (refine callsV_of mix Try.func185 c_sDrawGoodMethod ?_; simp only [↓vsd, vsn, gW, qd, qv, ev, pick, argE, zipE, ne_eq, eq_self, forall_const, implies_true, if_true, if_false, reduceIte, reduceCtorEq, Nat.reduceEqDiff, Nat.reduceAdd, Nat.reduceLT, ↓us_sDrawGoodMethod, r_sDrawGoodMethod])
  refine m_al ?_
  rintro b0 w0 hb0 hblk0 hx0 hs0
  have h0 := h.ext hx0
  simp only [↓vsd, vsn, gW, qd, qv, ev, pick, argE, zipE, ne_eq, eq_self, forall_const, implies_true, if_true, if_false, reduceIte, reduceCtorEq, Nat.reduceEqDiff, Nat.reduceAdd, Nat.reduceLT, ↓us_sDrawGoodMethod, r_sDrawGoodMethod, h0.facts]
  refine m_al ?_
  rintro b w1 hb hblk hx1 hs1
  have hc := Cur.new h0 hl hb hblk hx1
  simp only [↓vsd, vsn, gW, qd, qv, ev, pick, argE, zipE, ne_eq, eq_self, forall_const, implies_true, if_true, if_false, reduceIte, reduceCtorEq, Nat.reduceEqDiff, Nat.reduceAdd, Nat.reduceLT, ↓us_sDrawGoodMethod, r_sDrawGoodMethod]
  refine m_callw (.inl rfl) (sl1Cur_anyMethod_ok w0 b _ w1 (by omega) hc) ?_
  rintro _ w3 ⟨hc3, hg3, nm, st, x, cs, rfl, ho, hm⟩
  have hb01 := Blk.ext hblk0 hx1
  have hb03 := hb01.same (hg3.block b0 hb01.lt (fun e => by have := Option.some.inj e; omega))
  simp only [↓vsd, vsn, gW, qd, qv, ev, pick, argE, zipE, ne_eq, eq_self, forall_const, implies_true, if_true, if_false, reduceIte, reduceCtorEq, Nat.reduceEqDiff, Nat.reduceAdd, Nat.reduceLT, ↓us_sDrawGoodMethod, r_sDrawGoodMethod]
  refine m_st hb03 rfl (Nat.le_refl 3) (fM_one nm st _ ho.sq.one') ?_
  rintro w4 hblk4 hu4
  have hb4 : Blk w4 b0 (fM nm st x) 41 := hblk4
  simp only [↓vsd, vsn, gW, qd, qv, ev, pick, argE, zipE, ne_eq, eq_self, forall_const, implies_true, if_true, if_false, reduceIte, reduceCtorEq, Nat.reduceEqDiff, Nat.reduceAdd, Nat.reduceLT, ↓us_sDrawGoodMethod, r_sDrawGoodMethod, hb4.facts, fMg]
  exact ⟨hu4.below (hx0.trans hc3.base) (by omega), nm, st, x, cs, rfl, (ho.upd hu4 (ho.away' (by have := hb01.lt; omega))).mono (hx0.trans hx1).size, hm⟩
theorem sDrawCourseRows_ok (v : Value) (code : List UInt8) (hl : code.length ≤ 1048576) (w : World) (h : Sq fU 1 w v code) : Fn 116 [v] w (fun r w' => AnyM w.heap.size r w') := by
  (refine callsV_of mix Try.func116 c_sDrawCourseRows ?_; simp only [↓vsd, vsn, gW, qd, qv, ev, pick, argE, zipE, ne_eq, eq_self, forall_const, implies_true, if_true, if_false, reduceIte, reduceCtorEq, Nat.reduceEqDiff, Nat.reduceAdd, Nat.reduceLT, ↓us_sDrawCourseRows, r_sDrawCourseRows])
  refine m_al ?_
  rintro b0 w0 hb0 hblk0 hx0 hs0
  simp only [↓vsd, vsn, gW, qd, qv, ev, pick, argE, zipE, ne_eq, eq_self, forall_const, implies_true, if_true, if_false, reduceIte, reduceCtorEq, Nat.reduceEqDiff, Nat.reduceAdd, Nat.reduceLT, ↓us_sDrawCourseRows, r_sDrawCourseRows]
  refine m_call (sDrawGoodMethod_ok v code hl _ (h.ext hx0)) ?_
  rintro _ w1 hx1 ⟨nm, st, x, cs, rfl, ho, hm⟩
  simp only [↓vsd, vsn, gW, qd, qv, ev, pick, argE, zipE, ne_eq, eq_self, forall_const, implies_true, if_true, if_false, reduceIte, reduceCtorEq, Nat.reduceEqDiff, Nat.reduceAdd, Nat.reduceLT, ↓us_sDrawCourseRows, r_sDrawCourseRows]
  refine m_st (Blk.ext hblk0 hx1) rfl (Nat.le_refl 3) (fM_one nm st _ ho.sq.one') ?_
  rintro w4 hblk4 hu4
  have hb4 : Blk w4 b0 (fM nm st x) 41 := hblk4
  simp only [↓vsd, vsn, gW, qd, qv, ev, pick, argE, zipE, ne_eq, eq_self, forall_const, implies_true, if_true, if_false, reduceIte, reduceCtorEq, Nat.reduceEqDiff, Nat.reduceAdd, Nat.reduceLT, ↓us_sDrawCourseRows, r_sDrawCourseRows, hb4.facts, fMg]
  exact ⟨hu4.below (hx0.trans hx1) (by omega), nm, st, x, cs, rfl, (ho.upd hu4 (ho.away' (by omega))).mono hx0.size, hm⟩
/-- The blocks of such a drawing: the result b2; the method in b6. -/
structure MK (w0 : World) (B b2 b6 : Nat) (c2 cm : List Value) (x : Value) (cs : List (List UInt8)) (w : World) : Prop where
  r2 : Blk w b2 c2 41
  m : Blk w b6 cm 41
  own : Own fS 1 9 B w x cs
  ex : Ext w0 w
  lo : w0.heap.size ≤ b2 ∧ b2 < B ∧ B ≤ b6
section
variable {w0 : World} {B b b2 b6 : Nat} {c2 cm c' : List Value} {x : Value} {cs : List (List UInt8)} {w w' : World}
theorem MK.draw (h : MK w0 B b2 b6 c2 cm x cs w) (hg : w.grownBy w' (some b)) (hb : w0.heap.size ≤ b ∧ b ≠ b2 ∧ b ≠ b6) (ha : Away x b) : MK w0 B b2 b6 c2 cm x cs w' := by
  have hl := h.lo
  have key : ∀ c, c ≠ b → c < w.heap.size → w'.heap[c]? = w.heap[c]? := fun c hc hlt => hg.block c hlt (fun e => hc (Option.some.inj e))
  exact ⟨h.r2.same (key _ (by omega) h.r2.lt), h.m.same (key _ (by omega) h.m.lt), h.own.off hg (fun c hc => by obtain rfl := Option.some.inj hc; exact ha), ext_grow' h.ex hg (fun c hc => by have := Option.some.inj hc; omega), hl⟩
theorem MK.ext (h : MK w0 B b2 b6 c2 cm x cs w) (hx : Ext w w') : MK w0 B b2 b6 c2 cm x cs w' := ⟨h.r2.ext hx, h.m.ext hx, h.own.ext hx, h.ex.trans hx, h.lo⟩
theorem MK.st2 (h : MK w0 B b2 b6 c2 cm x cs w) (hu : Upd w w' b2) (hb : Blk w' b2 c' 41) : MK w0 B b2 b6 c' cm x cs w' := by
  have hl := h.lo
  exact ⟨hb, hu.blk h.m (by omega), h.own.upd hu (h.own.away' (by omega)), hu.below h.ex (by omega), hl⟩
end
theorem sDrawLeadRows_ok (v : Value) (code : List UInt8) (hl : code.length ≤ 1048576) (w : World) (h : Sq fU 1 w v code) : Fn 111 [v] w (fun r w' => ∃ nm st x cs l, r = .tuple ⟨[mV nm st x, S l]⟩ ∧ Own fS 1 9 w.heap.size w' x cs ∧ nm.length ≤ 11 ∧ (2 ≤ st ∧ st ≤ 9) ∧ cs.length ≤ 60 ∧ (∀ c ∈ cs, c.length ≤ 8) ∧ l.length ≤ 10) := by
  (refine callsV_of mix Try.func111 c_sDrawLeadRows ?_; simp only [↓vsd, vsn, gW, qd, qv, ev, pick, argE, zipE, ne_eq, eq_self, forall_const, implies_true, if_true, if_false, reduceIte, reduceCtorEq, Nat.reduceEqDiff, Nat.reduceAdd, Nat.reduceLT, ↓us_sDrawLeadRows, r_sDrawLeadRows])
  refine m_al ?_
  rintro b2 w2 hb2 hblk2 hx2 hs2
  have h2 := h.ext hx2
  simp only [↓vsd, vsn, gW, qd, qv, ev, pick, argE, zipE, ne_eq, eq_self, forall_const, implies_true, if_true, if_false, reduceIte, reduceCtorEq, Nat.reduceEqDiff, Nat.reduceAdd, Nat.reduceLT, ↓us_sDrawLeadRows, r_sDrawLeadRows, h2.facts]
  refine m_al ?_
  rintro bc w4 hbc hblk4 hx4 hs4
  have hc := Cur.new h2 hl hbc hblk4 hx4
  have hlt := hc.lt
  simp only [↓vsd, vsn, gW, qd, qv, ev, pick, argE, zipE, ne_eq, eq_self, forall_const, implies_true, if_true, if_false, reduceIte, reduceCtorEq, Nat.reduceEqDiff, Nat.reduceAdd, Nat.reduceLT, ↓us_sDrawLeadRows, r_sDrawLeadRows]
  refine m_callw (.inl rfl) (sl1Cur_anyMethod_ok w2 bc _ w4 (by omega) hc) ?_
  rintro _ w5 ⟨hc5, hg5, nm, st, x, cs, rfl, ho5, hnm, hst, hcs, hc8⟩
  simp only [↓vsd, vsn, gW, qd, qv, ev, pick, argE, zipE, ne_eq, eq_self, forall_const, implies_true, if_true, if_false, reduceIte, reduceCtorEq, Nat.reduceEqDiff, Nat.reduceAdd, Nat.reduceLT, ↓us_sDrawLeadRows, r_sDrawLeadRows]
  refine m_al ?_
  rintro b6 w6 hb6 hblk6 hx6 hs6
  simp only [↓vsd, vsn, gW, qd, qv, ev, pick, argE, zipE, ne_eq, eq_self, forall_const, implies_true, if_true, if_false, reduceIte, reduceCtorEq, Nat.reduceEqDiff, Nat.reduceAdd, Nat.reduceLT, ↓us_sDrawLeadRows, r_sDrawLeadRows]
  refine m_st hblk6 rfl (Nat.le_refl 3) (fM_one nm st x ho5.sq.one') ?_
  rintro w7 hblk7 hu7
  have h7 : Blk w7 b6 (fM nm st x) 41 := hblk7
  simp only [↓vsd, vsn, gW, qd, qv, ev, pick, argE, zipE, ne_eq, eq_self, forall_const, implies_true, if_true, if_false, reduceIte, reduceCtorEq, Nat.reduceEqDiff, Nat.reduceAdd, Nat.reduceLT, ↓us_sDrawLeadRows, r_sDrawLeadRows, h7.facts, fMg]
  have hlt5 := hc5.lt
  have hw24 := hx2.trans hx4
  have hs45 := hg5.size
  have hF : Ext w w5 := ext_grow' (hx2.trans hx4) hg5 (fun c hc => by have := Option.some.inj hc; have := hx2.size; omega)
  have hF7 : Ext w w7 := hu7.below (hF.trans hx6) (by have := hF.size; omega)
  have hb25 := ((Blk.ext hblk2 hx4).same (hg5.block b2 (Blk.ext hblk2 hx4).lt (fun e => by have := Option.some.inj e; omega))).ext hx6
  have es : MK w w4.heap.size b2 b6 (fM [] 0 (.slice none 0 0)) (fM nm st x) x cs w7 := ⟨hu7.blk hb25 (by omega), h7, (ho5.ext hx6).upd hu7 (ho5.away (by omega)), hF7, by have := hx4.size; omega⟩
  have hc := (hc5.ext hx6).keep hu7.grown (fun c hc => by have := Option.some.inj hc; omega)
  have haw : Away x bc := ho5.away' (by omega)
  have hbb : w.heap.size ≤ bc ∧ bc ≠ b2 ∧ bc ≠ b6 := by have := hx2.size; omega
  have hw4 := hw24.size
  clear hc5 h7 hu7 hblk7 hblk6 ho5 hF hF7 hb25
  refine m_call (sl1In_ok st 3 8 _) ?_
  rintro _ w8 hx8 rfl
  replace es := es.ext hx8
  replace hc := hc.ext hx8
  simp only [↓vsd, vsn, gW, qd, qv, ev, pick, argE, zipE, ne_eq, eq_self, forall_const, implies_true, if_true, if_false, reduceIte, reduceCtorEq, Nat.reduceEqDiff, Nat.reduceAdd, Nat.reduceLT, ↓us_sDrawLeadRows, r_sDrawLeadRows]
  refine ⟨fun h38 => ?_, fun h38 => ?_⟩
  · obtain ⟨s, rfl⟩ : ∃ s : Nat, st = s := ⟨st.toNat, by omega⟩
    refine m_callw (.inl rfl) (sl1Cur_one_ok w2 bc _ 8 (by omega) w8 (by omega) hc) ?_
    rintro _ w9 ⟨hc', hg9, y, rfl⟩
    replace es := es.draw hg9 hbb haw
    replace hc := hc'
    clear hc' hg9
    cases y
    · simp only [↓vsd, vsn, gW, qd, qv, ev, pick, argE, zipE, ne_eq, eq_self, forall_const, implies_true, if_true, if_false, reduceIte, reduceCtorEq, Nat.reduceEqDiff, Nat.reduceAdd, Nat.reduceLT, ↓us_sDrawLeadRows, r_sDrawLeadRows, es.m.facts, fMg]
      have es := es.ext (dr (Ext.refl _))
      have hc := hc.ext (dr (Ext.refl _))
      repeat' first
        | exact ⟨es.ex, nm, _, x, cs, l, rfl, es.own.mono (by omega), hnm, hst, hcs, hc8, hll⟩
        | refine ⟨?_, ?_⟩
        | exact fun hh => absurd h38 hh
        | exact fun hh => absurd hh h38
        | refine fun (_ : 3 ≤ _ ∧ _ ≤ 8) => ?_
        | refine fun (_ : ¬ (3 ≤ _ ∧ _ ≤ 8)) => ?_
        | (refine m_callw (.inr rfl) (sl1Cur_anyRow_ok w2 bc _ _ (by omega) hc) ?_; rintro _ _ ⟨_, hg, l, rfl, hll⟩; replace es := es.draw hg hbb haw; clear hc hg; simp only [↓vsd, vsn, gW, qd, qv, ev, pick, argE, zipE, ne_eq, eq_self, forall_const, implies_true, if_true, if_false, reduceIte, reduceCtorEq, Nat.reduceEqDiff, Nat.reduceAdd, Nat.reduceLT, ↓us_sDrawLeadRows, r_sDrawLeadRows, es.m.facts, fMg])
        | (refine m_callw (.inr rfl) (sl1Cur_row_ok w2 bc _ s (by omega) _ (by omega) hc) ?_; rintro _ _ ⟨_, hg, l, rfl, hll'⟩; have hll : l.length ≤ 10 := (by omega); replace es := es.draw hg hbb haw; clear hc hg; simp only [↓vsd, vsn, gW, qd, qv, ev, pick, argE, zipE, ne_eq, eq_self, forall_const, implies_true, if_true, if_false, reduceIte, reduceCtorEq, Nat.reduceEqDiff, Nat.reduceAdd, Nat.reduceLT, ↓us_sDrawLeadRows, r_sDrawLeadRows, es.m.facts, fMg])
        | (refine m_st es.r2 rfl (Nat.le_refl 3) (fM_one nm _ x es.own.sq.one') ?_; rintro _ hb' hu; replace es := es.st2 hu (show Blk _ b2 (fM nm _ x) _ from hb'); clear hb' hu; simp only [↓vsd, vsn, gW, qd, qv, ev, pick, argE, zipE, ne_eq, eq_self, forall_const, implies_true, if_true, if_false, reduceIte, reduceCtorEq, Nat.reduceEqDiff, Nat.reduceAdd, Nat.reduceLT, ↓us_sDrawLeadRows, r_sDrawLeadRows, es.m.facts, es.r2.facts, fMg])
    · simp only [↓vsd, vsn, gW, qd, qv, ev, pick, argE, zipE, ne_eq, eq_self, forall_const, implies_true, if_true, if_false, reduceIte, reduceCtorEq, Nat.reduceEqDiff, Nat.reduceAdd, Nat.reduceLT, ↓us_sDrawLeadRows, r_sDrawLeadRows, es.m.facts, fMg]
      have es := es.ext (dr (Ext.refl _))
      have hc := hc.ext (dr (Ext.refl _))
      repeat' first
        | exact ⟨es.ex, nm, _, x, cs, l, rfl, es.own.mono (by omega), hnm, hst, hcs, hc8, hll⟩
        | refine ⟨?_, ?_⟩
        | exact fun hh => absurd h38 hh
        | exact fun hh => absurd hh h38
        | refine fun (_ : 3 ≤ _ ∧ _ ≤ 8) => ?_
        | refine fun (_ : ¬ (3 ≤ _ ∧ _ ≤ 8)) => ?_
        | (refine m_callw (.inr rfl) (sl1Cur_anyRow_ok w2 bc _ _ (by omega) hc) ?_; rintro _ _ ⟨_, hg, l, rfl, hll⟩; replace es := es.draw hg hbb haw; clear hc hg; simp only [↓vsd, vsn, gW, qd, qv, ev, pick, argE, zipE, ne_eq, eq_self, forall_const, implies_true, if_true, if_false, reduceIte, reduceCtorEq, Nat.reduceEqDiff, Nat.reduceAdd, Nat.reduceLT, ↓us_sDrawLeadRows, r_sDrawLeadRows, es.m.facts, fMg])
        | (refine m_callw (.inr rfl) (sl1Cur_row_ok w2 bc _ s (by omega) _ (by omega) hc) ?_; rintro _ _ ⟨_, hg, l, rfl, hll'⟩; have hll : l.length ≤ 10 := (by omega); replace es := es.draw hg hbb haw; clear hc hg; simp only [↓vsd, vsn, gW, qd, qv, ev, pick, argE, zipE, ne_eq, eq_self, forall_const, implies_true, if_true, if_false, reduceIte, reduceCtorEq, Nat.reduceEqDiff, Nat.reduceAdd, Nat.reduceLT, ↓us_sDrawLeadRows, r_sDrawLeadRows, es.m.facts, fMg])
        | (refine m_st es.r2 rfl (Nat.le_refl 3) (fM_one nm _ x es.own.sq.one') ?_; rintro _ hb' hu; replace es := es.st2 hu (show Blk _ b2 (fM nm _ x) _ from hb'); clear hb' hu; simp only [↓vsd, vsn, gW, qd, qv, ev, pick, argE, zipE, ne_eq, eq_self, forall_const, implies_true, if_true, if_false, reduceIte, reduceCtorEq, Nat.reduceEqDiff, Nat.reduceAdd, Nat.reduceLT, ↓us_sDrawLeadRows, r_sDrawLeadRows, es.m.facts, es.r2.facts, fMg])
  · simp only [↓vsd, vsn, gW, qd, qv, ev, pick, argE, zipE, ne_eq, eq_self, forall_const, implies_true, if_true, if_false, reduceIte, reduceCtorEq, Nat.reduceEqDiff, Nat.reduceAdd, Nat.reduceLT, ↓us_sDrawLeadRows, r_sDrawLeadRows, es.m.facts, fMg]
    have es := es.ext (dr (Ext.refl _))
    have hc := hc.ext (dr (Ext.refl _))
    repeat' first
      | exact ⟨es.ex, nm, _, x, cs, l, rfl, es.own.mono (by omega), hnm, hst, hcs, hc8, hll⟩
      | refine ⟨?_, ?_⟩
      | exact fun hh => absurd h38 hh
      | exact fun hh => absurd hh h38
      | refine fun (_ : 3 ≤ _ ∧ _ ≤ 8) => ?_
      | refine fun (_ : ¬ (3 ≤ _ ∧ _ ≤ 8)) => ?_
      | (refine m_callw (.inr rfl) (sl1Cur_anyRow_ok w2 bc _ _ (by omega) hc) ?_; rintro _ _ ⟨_, hg, l, rfl, hll⟩; replace es := es.draw hg hbb haw; clear hc hg; simp only [↓vsd, vsn, gW, qd, qv, ev, pick, argE, zipE, ne_eq, eq_self, forall_const, implies_true, if_true, if_false, reduceIte, reduceCtorEq, Nat.reduceEqDiff, Nat.reduceAdd, Nat.reduceLT, ↓us_sDrawLeadRows, r_sDrawLeadRows, es.m.facts, fMg])
      | (refine m_callw (.inr rfl) (sl1Cur_row_ok w2 bc _ s (by omega) _ (by omega) hc) ?_; rintro _ _ ⟨_, hg, l, rfl, hll'⟩; have hll : l.length ≤ 10 := (by omega); replace es := es.draw hg hbb haw; clear hc hg; simp only [↓vsd, vsn, gW, qd, qv, ev, pick, argE, zipE, ne_eq, eq_self, forall_const, implies_true, if_true, if_false, reduceIte, reduceCtorEq, Nat.reduceEqDiff, Nat.reduceAdd, Nat.reduceLT, ↓us_sDrawLeadRows, r_sDrawLeadRows, es.m.facts, fMg])
      | (refine m_st es.r2 rfl (Nat.le_refl 3) (fM_one nm _ x es.own.sq.one') ?_; rintro _ hb' hu; replace es := es.st2 hu (show Blk _ b2 (fM nm _ x) _ from hb'); clear hb' hu; simp only [↓vsd, vsn, gW, qd, qv, ev, pick, argE, zipE, ne_eq, eq_self, forall_const, implies_true, if_true, if_false, reduceIte, reduceCtorEq, Nat.reduceEqDiff, Nat.reduceAdd, Nat.reduceLT, ↓us_sDrawLeadRows, r_sDrawLeadRows, es.m.facts, es.r2.facts, fMg])
end Go.Proofs.Ytpnopboffalfnaa
