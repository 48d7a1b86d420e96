/-
  The drawing of conducted lines and of call moves.
  Conditions: none.
-/
import Derived.Test.YtpnopboffalfnaaD16
import Derived.Test.YtpnopboffalfnaaD22
import Derived.Test.YtpnopboffalfnaaD31
set_option linter.unusedSimpArgs false
set_option linter.unusedVariables false
set_option linter.defProp false
namespace Go.Proofs.Ytpnopboffalfnaa
open Go Go.RowKit
section
variable (P : Program) (k : KT) (e : Env) (w : World)
abbrev b143_1 : X := (.seq (.drw [2, 3, 4] (.c (.q 13 [] (.mv (.t 5))) (.c (.q 14 [] (.lda 3 (.t 6))) (.c (.q 16 [] (.mv (.t 5))) (.alt (.c (.p 12 [] (.lda 3 (.t 6))) (.alt (.c (.e (some 15) [] (.call true 259 [(.t 13), (.t 14)])) (.c (.e (some 17) [] (.bsl 9 1 [(.s [112]), (.s [98]), (.s [115]), (.s [120])])) (.c (.e (some 18) [] (.call true 255 [(.t 16), (.t 17)])) (.c (.e none [] (.st 3 (.t 2) (.t 12))) (.c (.e none [] (.st 2 (.t 3) (.t 15))) (.c (.q 4 [] (.mv (.t 18))) .nil)))))) (.c (.e (some 17) [] (.bsl 9 1 [(.s [112]), (.s [98]), (.s [115]), (.s [120])])) (.c (.e (some 15) [] (.call true 259 [(.t 13), (.t 14)])) (.c (.e (some 18) [] (.call true 255 [(.t 16), (.t 17)])) (.c (.e none [] (.st 3 (.t 2) (.t 12))) (.c (.e none [] (.st 2 (.t 3) (.t 15))) (.c (.q 4 [] (.mv (.t 18))) .nil)))))))) (.alt (.c (.e (some 15) [] (.call true 259 [(.t 13), (.t 14)])) (.alt (.c (.p 12 [] (.lda 3 (.t 6))) (.c (.e (some 17) [] (.bsl 9 1 [(.s [112]), (.s [98]), (.s [115]), (.s [120])])) (.c (.e (some 18) [] (.call true 255 [(.t 16), (.t 17)])) (.c (.e none [] (.st 3 (.t 2) (.t 12))) (.c (.e none [] (.st 2 (.t 3) (.t 15))) (.c (.q 4 [] (.mv (.t 18))) .nil)))))) (.c (.e (some 17) [] (.bsl 9 1 [(.s [112]), (.s [98]), (.s [115]), (.s [120])])) (.alt (.c (.p 12 [] (.lda 3 (.t 6))) (.c (.e (some 18) [] (.call true 255 [(.t 16), (.t 17)])) (.c (.e none [] (.st 3 (.t 2) (.t 12))) (.c (.e none [] (.st 2 (.t 3) (.t 15))) (.c (.q 4 [] (.mv (.t 18))) .nil))))) (.c (.e (some 18) [] (.call true 255 [(.t 16), (.t 17)])) (.c (.p 12 [] (.lda 3 (.t 6))) (.c (.e none [] (.st 3 (.t 2) (.t 12))) (.c (.e none [] (.st 2 (.t 3) (.t 15))) (.c (.q 4 [] (.mv (.t 18))) .nil))))))))) (.c (.e (some 17) [] (.bsl 9 1 [(.s [112]), (.s [98]), (.s [115]), (.s [120])])) (.alt (.c (.p 12 [] (.lda 3 (.t 6))) (.c (.e (some 15) [] (.call true 259 [(.t 13), (.t 14)])) (.c (.e (some 18) [] (.call true 255 [(.t 16), (.t 17)])) (.c (.e none [] (.st 3 (.t 2) (.t 12))) (.c (.e none [] (.st 2 (.t 3) (.t 15))) (.c (.q 4 [] (.mv (.t 18))) .nil)))))) (.c (.e (some 15) [] (.call true 259 [(.t 13), (.t 14)])) (.alt (.c (.p 12 [] (.lda 3 (.t 6))) (.c (.e (some 18) [] (.call true 255 [(.t 16), (.t 17)])) (.c (.e none [] (.st 3 (.t 2) (.t 12))) (.c (.e none [] (.st 2 (.t 3) (.t 15))) (.c (.q 4 [] (.mv (.t 18))) .nil))))) (.c (.e (some 18) [] (.call true 255 [(.t 16), (.t 17)])) (.c (.p 12 [] (.lda 3 (.t 6))) (.c (.e none [] (.st 3 (.t 2) (.t 12))) (.c (.e none [] (.st 2 (.t 3) (.t 15))) (.c (.q 4 [] (.mv (.t 18))) .nil))))))))))))))) .ret)
def t143_1 := b143_1
theorem u143_1 : vcK P t143_1 k e w = vcK P b143_1 k e w := rfl
abbrev b143_2 : X := (.seq (.reg [2, 3, 5, 6] (.c (.q 10 [] (.mv (.t 0))) (.c (.e (some 11) [] (.call false 258 [(.t 10)])) (.c (.e (some 6) [] (.al 41 [(S []), (.int .i64 0), (.slice none 0 0)])) (.c (.e none [] (.st 3 (.t 6) (.t 11))) .nil))))) t143_1)
def t143_2 := b143_2
theorem u143_2 : vcK P t143_2 k e w = vcK P b143_2 k e w := rfl
abbrev b143_3 : X := (.seq (.reg [0, 2, 3, 5] (.c (.q 7 [] (.mv (.t 0))) (.c (.q 8 [] (.bld [(.slice none 0 0), (.int .i64 0), (.int .u64 0)] [(0, 0, (.t 7))])) (.c (.e (some 9) [] (.box 132 (.t 8))) (.c (.q 5 [] (.mv (.t 9))) .nil))))) t143_2)
def t143_3 := b143_3
theorem u143_3 : vcK P t143_3 k e w = vcK P b143_3 k e w := rfl
abbrev b143_0 : X := (.seq (.reg [0, 2, 3] (.c (.e (some 2) [] (.al 41 [(S []), (.int .i64 0), (.slice none 0 0)])) (.c (.e (some 3) [] (.al 32 [(S []), (S [])])) (.c (.q 4 [] (.mv (.s []))) .nil)))) t143_3)
def x_sDrawCallMoves := b143_0
theorem u143_0 : vcK P x_sDrawCallMoves k e w = vcK P b143_0 k e w := rfl
def r_sDrawCallMoves : List XO := [(.lda 3 (.t 2)), (.lda 2 (.t 3)), (.mv (.t 4))]
theorem c_sDrawCallMoves : convF Try.prog [169, 170, 207, 208, 210, 227, 232, 233, 255, 259, 268, 269, 270, 280, 281, 296, 299, 306, 307, 309] Try.f143 [([0, 2, 3], []), ([0, 2, 3, 5], []), ([2, 3, 5, 6], []), ([2, 3, 4], [])] = some (x_sDrawCallMoves, r_sDrawCallMoves) := by kernel_rfl
def us_sDrawCallMoves := aI @u143_0 (aI @u143_1 (aI @u143_2 @u143_3))
abbrev b140_1 : X := (.seq (.drw [2, 3, 4] (.c (.q 13 [] (.mv (.t 5))) (.c (.q 14 [] (.lda 3 (.t 6))) (.c (.q 16 [] (.mv (.t 5))) (.alt (.c (.p 12 [] (.lda 3 (.t 6))) (.c (.e (some 15) [] (.call true 259 [(.t 13), (.t 14)])) (.c (.e (some 17) [] (.call true 227 [(.t 16)])) (.c (.e none [] (.st 3 (.t 2) (.t 12))) (.c (.e none [] (.st 2 (.t 3) (.t 15))) (.c (.q 4 [] (.mv (.t 17))) .nil)))))) (.c (.e (some 15) [] (.call true 259 [(.t 13), (.t 14)])) (.alt (.c (.p 12 [] (.lda 3 (.t 6))) (.c (.e (some 17) [] (.call true 227 [(.t 16)])) (.c (.e none [] (.st 3 (.t 2) (.t 12))) (.c (.e none [] (.st 2 (.t 3) (.t 15))) (.c (.q 4 [] (.mv (.t 17))) .nil))))) (.c (.e (some 17) [] (.call true 227 [(.t 16)])) (.c (.p 12 [] (.lda 3 (.t 6))) (.c (.e none [] (.st 3 (.t 2) (.t 12))) (.c (.e none [] (.st 2 (.t 3) (.t 15))) (.c (.q 4 [] (.mv (.t 17))) .nil)))))))))))) .ret)
def t140_1 := b140_1
theorem u140_1 : vcK P t140_1 k e w = vcK P b140_1 k e w := rfl
abbrev b140_2 : X := (.seq (.reg [2, 3, 5, 6] (.c (.q 10 [] (.mv (.t 0))) (.c (.e (some 11) [] (.call false 258 [(.t 10)])) (.c (.e (some 6) [] (.al 41 [(S []), (.int .i64 0), (.slice none 0 0)])) (.c (.e none [] (.st 3 (.t 6) (.t 11))) .nil))))) t140_1)
def t140_2 := b140_2
theorem u140_2 : vcK P t140_2 k e w = vcK P b140_2 k e w := rfl
abbrev b140_3 : X := (.seq (.reg [0, 2, 3, 5] (.c (.q 7 [] (.mv (.t 0))) (.c (.q 8 [] (.bld [(.slice none 0 0), (.int .i64 0), (.int .u64 0)] [(0, 0, (.t 7))])) (.c (.e (some 9) [] (.box 132 (.t 8))) (.c (.q 5 [] (.mv (.t 9))) .nil))))) t140_2)
def t140_3 := b140_3
theorem u140_3 : vcK P t140_3 k e w = vcK P b140_3 k e w := rfl
abbrev b140_0 : X := (.seq (.reg [0, 2, 3] (.c (.e (some 2) [] (.al 41 [(S []), (.int .i64 0), (.slice none 0 0)])) (.c (.e (some 3) [] (.al 32 [(S []), (S [])])) (.c (.q 4 [] (.mv (.s []))) .nil)))) t140_3)
def x_sDrawConductLine := b140_0
theorem u140_0 : vcK P x_sDrawConductLine k e w = vcK P b140_0 k e w := rfl
def r_sDrawConductLine : List XO := [(.lda 3 (.t 2)), (.lda 2 (.t 3)), (.mv (.t 4))]
theorem c_sDrawConductLine : convF Try.prog [169, 170, 207, 208, 210, 227, 232, 233, 255, 259, 268, 269, 270, 280, 281, 296, 299, 306, 307, 309] Try.f140 [([0, 2, 3], []), ([0, 2, 3, 5], []), ([2, 3, 5, 6], []), ([2, 3, 4], [])] = some (x_sDrawConductLine, r_sDrawConductLine) := by kernel_rfl
def us_sDrawConductLine := aI @u140_0 (aI @u140_1 (aI @u140_2 @u140_3))
end

/-- The blocks of such a drawing: results b2 and b3; the method in b6. -/
structure CK (w0 : World) (B b2 b3 b6 : Nat) (c2 c3 cm : List Value) (x : Value) (cs : List (List UInt8)) (w : World) : Prop where
  r2 : Blk w b2 c2 41
  r3 : Blk w b3 c3 32
  m : Blk w b6 cm 41
  own : Own fS 1 9 B w x cs
  ex : Ext w0 w
  lo : w0.heap.size ≤ b2 ∧ b2 < b3 ∧ b3 < B ∧ B ≤ b6
section
variable {w0 : World} {B b b2 b3 b6 : Nat} {c2 c3 cm c' : List Value} {x : Value} {cs : List (List UInt8)} {w w' : World}
theorem CK.draw (h : CK w0 B b2 b3 b6 c2 c3 cm x cs w) (hg : w.grownBy w' (some b)) (hb : w0.heap.size ≤ b ∧ b ≠ b2 ∧ b ≠ b3 ∧ b ≠ b6) (ha : Away x b) : CK w0 B b2 b3 b6 c2 c3 cm x cs w' := by
  have hl := h.lo
  have key : ∀ c, c ≠ b → c < w.heap.size → w'.heap[c]? = w.heap[c]? := fun c hc hlt => hg.block c hlt (fun e => hc (Option.some.inj e))
  exact ⟨h.r2.same (key _ (by omega) h.r2.lt), h.r3.same (key _ (by omega) h.r3.lt), h.m.same (key _ (by omega) h.m.lt), h.own.off hg (fun c hc => by obtain rfl := Option.some.inj hc; exact ha), ext_grow' h.ex hg (fun c hc => by have := Option.some.inj hc; omega), hl⟩
theorem CK.ext (h : CK w0 B b2 b3 b6 c2 c3 cm x cs w) (hx : Ext w w') : CK w0 B b2 b3 b6 c2 c3 cm x cs w' := ⟨h.r2.ext hx, h.r3.ext hx, h.m.ext hx, h.own.ext hx, h.ex.trans hx, h.lo⟩
theorem CK.st2 (h : CK w0 B b2 b3 b6 c2 c3 cm x cs w) (hu : Upd w w' b2) (hb : Blk w' b2 c' 41) : CK w0 B b2 b3 b6 c' c3 cm x cs w' := by
  have hl := h.lo
  exact ⟨hb, hu.blk h.r3 (by omega), hu.blk h.m (by omega), h.own.upd hu (h.own.away' (by omega)), hu.below h.ex (by omega), hl⟩
theorem CK.st3 (h : CK w0 B b2 b3 b6 c2 c3 cm x cs w) (hu : Upd w w' b3) (hb : Blk w' b3 c' 32) : CK w0 B b2 b3 b6 c2 c' cm x cs w' := by
  have hl := h.lo
  exact ⟨hu.blk h.r2 (by omega), hb, hu.blk h.m (by omega), h.own.upd hu (h.own.away' (by omega)), hu.below h.ex (by omega), hl⟩
end
theorem sDrawConductLine_ok (v : Value) (code : List UInt8) (hl : code.length ≤ 1048576) (w : World) (h : Sq fU 1 w v code) : Fn 140 [v] w (fun r w' => ∃ nm st x cs p q t, r = .tuple ⟨[mV nm st x, kV p q, S t]⟩ ∧ AnyK w.heap.size nm st x cs p q w' ∧ t.length ≤ 61) := by
  (refine callsV_of mix Try.func140 c_sDrawConductLine ?_; simp only [↓vsd, vsn, gW, qd, qv, ev, pick, argE, zipE, ne_eq, eq_self, forall_const, implies_true, if_true, if_false, reduceIte, reduceCtorEq, Nat.reduceEqDiff, Nat.reduceAdd, Nat.reduceLT, ↓us_sDrawConductLine, r_sDrawConductLine])
  refine m_al ?_
  rintro b2 w2 hb2 hblk2 hx2 hs2
  simp only [↓vsd, vsn, gW, qd, qv, ev, pick, argE, zipE, ne_eq, eq_self, forall_const, implies_true, if_true, if_false, reduceIte, reduceCtorEq, Nat.reduceEqDiff, Nat.reduceAdd, Nat.reduceLT, ↓us_sDrawConductLine, r_sDrawConductLine]
  refine m_al ?_
  rintro b3 w3 hb3 hblk3 hx3 hs3
  have hx13 := hx2.trans hx3
  have h3 := h.ext hx13
  simp only [↓vsd, vsn, gW, qd, qv, ev, pick, argE, zipE, ne_eq, eq_self, forall_const, implies_true, if_true, if_false, reduceIte, reduceCtorEq, Nat.reduceEqDiff, Nat.reduceAdd, Nat.reduceLT, ↓us_sDrawConductLine, r_sDrawConductLine, h3.facts]
  refine m_al ?_
  rintro bc w4 hbc hblk4 hx4 hs4
  have hc := Cur.new h3 hl hbc hblk4 hx4
  have hx14 := hx13.trans hx4
  simp only [↓vsd, vsn, gW, qd, qv, ev, pick, argE, zipE, ne_eq, eq_self, forall_const, implies_true, if_true, if_false, reduceIte, reduceCtorEq, Nat.reduceEqDiff, Nat.reduceAdd, Nat.reduceLT, ↓us_sDrawConductLine, r_sDrawConductLine]
  refine m_call (sDrawIsRegular_ok v code hl _ (h.ext hx14)) ?_
  rintro _ w5 hx5 ⟨nm, st, x, cs, rfl, ho5, hnm, hst, hcs, hc8⟩
  have hc5 := hc.ext hx5
  simp only [↓vsd, vsn, gW, qd, qv, ev, pick, argE, zipE, ne_eq, eq_self, forall_const, implies_true, if_true, if_false, reduceIte, reduceCtorEq, Nat.reduceEqDiff, Nat.reduceAdd, Nat.reduceLT, ↓us_sDrawConductLine, r_sDrawConductLine]
  refine m_al ?_
  rintro b6 w6 hb6 hblk6 hx6 hs6
  simp only [↓vsd, vsn, gW, qd, qv, ev, pick, argE, zipE, ne_eq, eq_self, forall_const, implies_true, if_true, if_false, reduceIte, reduceCtorEq, Nat.reduceEqDiff, Nat.reduceAdd, Nat.reduceLT, ↓us_sDrawConductLine, r_sDrawConductLine]
  refine m_st hblk6 rfl (Nat.le_refl 3) (fM_one nm st x ho5.sq.one') ?_
  rintro w7 hblk7 hu7
  have h7 : Blk w7 b6 (fM nm st x) 41 := hblk7
  have hlt5 := hc5.lt
  have ho7 := (ho5.ext hx6).upd hu7 (ho5.away (by omega))
  have hc7 := (hc5.ext hx6).keep hu7.grown (fun c hc => by have := Option.some.inj hc; omega)
  have h5s := hx5.size
  have hb23 := hblk2.lt
  have hF : Ext w3 w7 := hu7.below ((hx4.trans hx5).trans hx6) (by have := hx4.size; omega)
  have es : CK w w4.heap.size b2 b3 b6 (fM [] 0 (.slice none 0 0)) (fQ [] []) (fM nm st x) x cs w7 := ⟨(Blk.ext hblk2 hx3).ext hF, Blk.ext hblk3 hF, h7, ho7, hx13.trans hF, by omega⟩
  have haw : Away x bc := ho5.away' (by omega)
  have hw3 := hx14.size
  have hbb : w.heap.size ≤ bc ∧ bc ≠ b2 ∧ bc ≠ b3 ∧ bc ≠ b6 := by have := hx13.size; omega
  simp only [↓vsd, vsn, gW, qd, qv, ev, pick, argE, zipE, ne_eq, eq_self, forall_const, implies_true, if_true, if_false, reduceIte, reduceCtorEq, Nat.reduceEqDiff, Nat.reduceAdd, Nat.reduceLT, ↓us_sDrawConductLine, r_sDrawConductLine, es.m.facts, fMg]
  have es := es.ext (dr (Ext.refl _))
  have hc := hc7.ext (dr (Ext.refl _))
  clear hc5 hc7 h7 hu7 hblk7 hblk6 ho5 ho7 hF
  repeat' first
    | exact ⟨es.ex, nm, st, x, cs, p, q, t, rfl, ⟨es.own.mono (by omega), hnm, hst, hcs, hc8, ⟨hp8, hq8⟩⟩, ht⟩
    | refine ⟨?_, ?_⟩
    | (refine m_callw (.inr rfl) (sl1Cur_anyCalls_ok w3 bc _ nm st x cs hnm hcs hc8 _ (by omega) hc (fun w' hg => (es.draw hg hbb haw).own.sq)) ?_; rintro _ _ ⟨hc', hg, p, q, rfl, hp8, hq8⟩; replace es := es.draw hg hbb haw; replace hc := hc'; clear hg hc'; simp only [↓vsd, vsn, gW, qd, qv, ev, pick, argE, zipE, ne_eq, eq_self, forall_const, implies_true, if_true, if_false, reduceIte, reduceCtorEq, Nat.reduceEqDiff, Nat.reduceAdd, Nat.reduceLT, ↓us_sDrawConductLine, r_sDrawConductLine, es.m.facts, fMg])
    | (refine m_callw (.inr rfl) (sl1Cur_anyTouch_ok w3 bc _ _ (by omega) hc) ?_; rintro _ _ ⟨_, hg, t, rfl, ht⟩; replace es := es.draw hg hbb haw; clear hc hg; simp only [↓vsd, vsn, gW, qd, qv, ev, pick, argE, zipE, ne_eq, eq_self, forall_const, implies_true, if_true, if_false, reduceIte, reduceCtorEq, Nat.reduceEqDiff, Nat.reduceAdd, Nat.reduceLT, ↓us_sDrawConductLine, r_sDrawConductLine, es.m.facts, fMg])
    | (refine m_st es.r2 rfl (Nat.le_refl 3) (fM_one nm st x es.own.sq.one') ?_; rintro _ hb' hu; replace es := es.st2 hu (show Blk _ b2 (fM nm st x) _ from hb'); clear hb' hu; simp only [↓vsd, vsn, gW, qd, qv, ev, pick, argE, zipE, ne_eq, eq_self, forall_const, implies_true, if_true, if_false, reduceIte, reduceCtorEq, Nat.reduceEqDiff, Nat.reduceAdd, Nat.reduceLT, ↓us_sDrawConductLine, r_sDrawConductLine, es.m.facts, fMg])
    | (refine m_st es.r3 rfl (Nat.le_refl 2) (fQ_one p q) ?_; rintro _ hb' hu; replace es := es.st3 hu (show Blk _ b3 (fQ p q) _ from hb'); clear hb' hu; simp only [↓vsd, vsn, gW, qd, qv, ev, pick, argE, zipE, ne_eq, eq_self, forall_const, implies_true, if_true, if_false, reduceIte, reduceCtorEq, Nat.reduceEqDiff, Nat.reduceAdd, Nat.reduceLT, ↓us_sDrawConductLine, r_sDrawConductLine, es.m.facts, es.r2.facts, es.r3.facts, fMg, fQg])
theorem sDrawCallMoves_ok (v : Value) (code : List UInt8) (hl : code.length ≤ 1048576) (w : World) (h : Sq fU 1 w v code) : Fn 143 [v] w (fun r w' => ∃ nm st x cs p q t, r = .tuple ⟨[mV nm st x, kV p q, S t]⟩ ∧ AnyK w.heap.size nm st x cs p q w' ∧ t.length ≤ 2) := by
  (refine callsV_of mix Try.func143 c_sDrawCallMoves ?_; simp only [↓vsd, vsn, gW, qd, qv, ev, pick, argE, zipE, ne_eq, eq_self, forall_const, implies_true, if_true, if_false, reduceIte, reduceCtorEq, Nat.reduceEqDiff, Nat.reduceAdd, Nat.reduceLT, ↓us_sDrawCallMoves, r_sDrawCallMoves])
  refine m_al ?_
  rintro b2 w2 hb2 hblk2 hx2 hs2
  simp only [↓vsd, vsn, gW, qd, qv, ev, pick, argE, zipE, ne_eq, eq_self, forall_const, implies_true, if_true, if_false, reduceIte, reduceCtorEq, Nat.reduceEqDiff, Nat.reduceAdd, Nat.reduceLT, ↓us_sDrawCallMoves, r_sDrawCallMoves]
  refine m_al ?_
  rintro b3 w3 hb3 hblk3 hx3 hs3
  have hx13 := hx2.trans hx3
  have h3 := h.ext hx13
  simp only [↓vsd, vsn, gW, qd, qv, ev, pick, argE, zipE, ne_eq, eq_self, forall_const, implies_true, if_true, if_false, reduceIte, reduceCtorEq, Nat.reduceEqDiff, Nat.reduceAdd, Nat.reduceLT, ↓us_sDrawCallMoves, r_sDrawCallMoves, h3.facts]
  refine m_al ?_
  rintro bc w4 hbc hblk4 hx4 hs4
  have hc := Cur.new h3 hl hbc hblk4 hx4
  have hx14 := hx13.trans hx4
  simp only [↓vsd, vsn, gW, qd, qv, ev, pick, argE, zipE, ne_eq, eq_self, forall_const, implies_true, if_true, if_false, reduceIte, reduceCtorEq, Nat.reduceEqDiff, Nat.reduceAdd, Nat.reduceLT, ↓us_sDrawCallMoves, r_sDrawCallMoves]
  refine m_call (sDrawIsRegular_ok v code hl _ (h.ext hx14)) ?_
  rintro _ w5 hx5 ⟨nm, st, x, cs, rfl, ho5, hnm, hst, hcs, hc8⟩
  have hc5 := hc.ext hx5
  simp only [↓vsd, vsn, gW, qd, qv, ev, pick, argE, zipE, ne_eq, eq_self, forall_const, implies_true, if_true, if_false, reduceIte, reduceCtorEq, Nat.reduceEqDiff, Nat.reduceAdd, Nat.reduceLT, ↓us_sDrawCallMoves, r_sDrawCallMoves]
  refine m_al ?_
  rintro b6 w6 hb6 hblk6 hx6 hs6
  simp only [↓vsd, vsn, gW, qd, qv, ev, pick, argE, zipE, ne_eq, eq_self, forall_const, implies_true, if_true, if_false, reduceIte, reduceCtorEq, Nat.reduceEqDiff, Nat.reduceAdd, Nat.reduceLT, ↓us_sDrawCallMoves, r_sDrawCallMoves]
  refine m_st hblk6 rfl (Nat.le_refl 3) (fM_one nm st x ho5.sq.one') ?_
  rintro w7 hblk7 hu7
  have h7 : Blk w7 b6 (fM nm st x) 41 := hblk7
  have hlt5 := hc5.lt
  have ho7 := (ho5.ext hx6).upd hu7 (ho5.away (by omega))
  have hc7 := (hc5.ext hx6).keep hu7.grown (fun c hc => by have := Option.some.inj hc; omega)
  have h5s := hx5.size
  have hb23 := hblk2.lt
  have hF : Ext w3 w7 := hu7.below ((hx4.trans hx5).trans hx6) (by have := hx4.size; omega)
  have es : CK w w4.heap.size b2 b3 b6 (fM [] 0 (.slice none 0 0)) (fQ [] []) (fM nm st x) x cs w7 := ⟨(Blk.ext hblk2 hx3).ext hF, Blk.ext hblk3 hF, h7, ho7, hx13.trans hF, by omega⟩
  have haw : Away x bc := ho5.away' (by omega)
  have hw3 := hx14.size
  have hbb : w.heap.size ≤ bc ∧ bc ≠ b2 ∧ bc ≠ b3 ∧ bc ≠ b6 := by have := hx13.size; omega
  simp only [↓vsd, vsn, gW, qd, qv, ev, pick, argE, zipE, ne_eq, eq_self, forall_const, implies_true, if_true, if_false, reduceIte, reduceCtorEq, Nat.reduceEqDiff, Nat.reduceAdd, Nat.reduceLT, ↓us_sDrawCallMoves, r_sDrawCallMoves, es.m.facts, fMg]
  have es := es.ext (dr (Ext.refl _))
  have hc := hc7.ext (dr (Ext.refl _))
  clear hc5 hc7 h7 hu7 hblk7 hblk6 ho5 ho7 hF
  repeat' first
    | exact ⟨es.ex, nm, st, x, cs, p, q, t, rfl, ⟨es.own.mono (by omega), hnm, hst, hcs, hc8, ⟨hp8, hq8⟩⟩, ht⟩
    | refine ⟨?_, ?_⟩
    | (refine m_callw (.inr rfl) (sl1Cur_anyCalls_ok w3 bc _ nm st x cs hnm hcs hc8 _ (by omega) hc (fun w' hg => (es.draw hg hbb haw).own.sq)) ?_; rintro _ _ ⟨hc', hg, p, q, rfl, hp8, hq8⟩; replace es := es.draw hg hbb haw; replace hc := hc'; replace hblk8 := hblk8.same (hg.block b8 hblk8.lt (fun e => by have := Option.some.inj e; omega)); clear hg hc'; simp only [↓vsd, vsn, gW, qd, qv, ev, pick, argE, zipE, ne_eq, eq_self, forall_const, implies_true, if_true, if_false, reduceIte, reduceCtorEq, Nat.reduceEqDiff, Nat.reduceAdd, Nat.reduceLT, ↓us_sDrawCallMoves, r_sDrawCallMoves, es.m.facts, fMg])
    | (refine m_callw (.inr rfl) (sl1Cur_anyCalls_ok w3 bc _ nm st x cs hnm hcs hc8 _ (by omega) hc (fun w' hg => (es.draw hg hbb haw).own.sq)) ?_; rintro _ _ ⟨hc', hg, p, q, rfl, hp8, hq8⟩; replace es := es.draw hg hbb haw; replace hc := hc'; clear hg hc'; simp only [↓vsd, vsn, gW, qd, qv, ev, pick, argE, zipE, ne_eq, eq_self, forall_const, implies_true, if_true, if_false, reduceIte, reduceCtorEq, Nat.reduceEqDiff, Nat.reduceAdd, Nat.reduceLT, ↓us_sDrawCallMoves, r_sDrawCallMoves, es.m.facts, fMg])
    | (refine m_bsl (by simp [S]; repeat' constructor) ?_; rintro b8 _ hb8 hblk8 hx8 hs8; have hcl := hc.lt; have hb8c : bc < b8 := (by omega); replace es := es.ext hx8; replace hc := hc.ext hx8; clear hx8 hs8 hb8 hcl; simp only [↓vsd, vsn, gW, qd, qv, ev, pick, argE, zipE, ne_eq, eq_self, forall_const, implies_true, if_true, if_false, reduceIte, reduceCtorEq, Nat.reduceEqDiff, Nat.reduceAdd, Nat.reduceLT, ↓us_sDrawCallMoves, r_sDrawCallMoves, es.m.facts, fMg])
    | (refine m_callw (.inr rfl) (sl1Cur_of_ok w3 bc _ _ [[112], [98], [115], [120]] _ (by omega) (by decide) hc (Sq.litC _ _ fS_len hblk8 rfl rfl hb8c)) ?_; rintro _ _ ⟨_, hg, t, rfl, hcc'⟩; have ht : t.length ≤ 2 := (by simp only [List.mem_cons, List.not_mem_nil, or_false] at hcc'; rcases hcc' with rfl | rfl | rfl | rfl <;> decide); replace es := es.draw hg hbb haw; clear hc hg hcc' hblk8; simp only [↓vsd, vsn, gW, qd, qv, ev, pick, argE, zipE, ne_eq, eq_self, forall_const, implies_true, if_true, if_false, reduceIte, reduceCtorEq, Nat.reduceEqDiff, Nat.reduceAdd, Nat.reduceLT, ↓us_sDrawCallMoves, r_sDrawCallMoves, es.m.facts, fMg])
    | (refine m_st es.r2 rfl (Nat.le_refl 3) (fM_one nm st x es.own.sq.one') ?_; rintro _ hb' hu; replace es := es.st2 hu (show Blk _ b2 (fM nm st x) _ from hb'); clear hb' hu; simp only [↓vsd, vsn, gW, qd, qv, ev, pick, argE, zipE, ne_eq, eq_self, forall_const, implies_true, if_true, if_false, reduceIte, reduceCtorEq, Nat.reduceEqDiff, Nat.reduceAdd, Nat.reduceLT, ↓us_sDrawCallMoves, r_sDrawCallMoves, es.m.facts, fMg])
    | (refine m_st es.r3 rfl (Nat.le_refl 2) (fQ_one p q) ?_; rintro _ hb' hu; replace es := es.st3 hu (show Blk _ b3 (fQ p q) _ from hb'); clear hb' hu; simp only [↓vsd, vsn, gW, qd, qv, ev, pick, argE, zipE, ne_eq, eq_self, forall_const, implies_true, if_true, if_false, reduceIte, reduceCtorEq, Nat.reduceEqDiff, Nat.reduceAdd, Nat.reduceLT, ↓us_sDrawCallMoves, r_sDrawCallMoves, es.m.facts, es.r2.facts, es.r3.facts, fMg, fQg])
end Go.Proofs.Ytpnopboffalfnaa
