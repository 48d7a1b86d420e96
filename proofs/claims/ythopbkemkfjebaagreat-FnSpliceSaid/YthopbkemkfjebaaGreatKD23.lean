/-
  The drawing of a touch with its method and calls.
  Conditions: none.
-/
import Derived.Test.YthopbkemkfjebaaGreatKD22
set_option linter.unusedSimpArgs false
set_option linter.unusedVariables false
set_option linter.defProp false
namespace Go.Proofs.YthopbkemkfjebaaGreat
open Go Go.RowKit
section
variable (P : Program) (k : KT) (e : Env) (w : World)
abbrev b19_1 : X := (.seq (.drw [2, 3, 4] (.c (.q 18 [] (.mv (.t 5))) (.alt (.c (.p 16 [] (.lda 3 (.t 6))) (.alt (.c (.p 17 [] (.lda 2 (.t 7))) (.c (.e (some 19) [] (.call true 73 [(.t 18)])) (.c (.e none [] (.st 3 (.t 2) (.t 16))) (.c (.e none [] (.st 2 (.t 3) (.t 17))) (.c (.q 4 [] (.mv (.t 19))) .nil))))) (.c (.e (some 19) [] (.call true 73 [(.t 18)])) (.alt (.c (.p 17 [] (.lda 2 (.t 7))) (.c (.e none [] (.st 3 (.t 2) (.t 16))) (.c (.e none [] (.st 2 (.t 3) (.t 17))) (.c (.q 4 [] (.mv (.t 19))) .nil)))) (.c (.e none [] (.st 3 (.t 2) (.t 16))) (.c (.p 17 [] (.lda 2 (.t 7))) (.c (.e none [] (.st 2 (.t 3) (.t 17))) (.c (.q 4 [] (.mv (.t 19))) .nil)))))))) (.alt (.c (.p 17 [] (.lda 2 (.t 7))) (.alt (.c (.p 16 [] (.lda 3 (.t 6))) (.c (.e (some 19) [] (.call true 73 [(.t 18)])) (.c (.e none [] (.st 3 (.t 2) (.t 16))) (.c (.e none [] (.st 2 (.t 3) (.t 17))) (.c (.q 4 [] (.mv (.t 19))) .nil))))) (.c (.e (some 19) [] (.call true 73 [(.t 18)])) (.c (.p 16 [] (.lda 3 (.t 6))) (.c (.e none [] (.st 3 (.t 2) (.t 16))) (.c (.e none [] (.st 2 (.t 3) (.t 17))) (.c (.q 4 [] (.mv (.t 19))) .nil))))))) (.c (.e (some 19) [] (.call true 73 [(.t 18)])) (.alt (.c (.p 16 [] (.lda 3 (.t 6))) (.alt (.c (.p 17 [] (.lda 2 (.t 7))) (.c (.e none [] (.st 3 (.t 2) (.t 16))) (.c (.e none [] (.st 2 (.t 3) (.t 17))) (.c (.q 4 [] (.mv (.t 19))) .nil)))) (.c (.e none [] (.st 3 (.t 2) (.t 16))) (.c (.p 17 [] (.lda 2 (.t 7))) (.c (.e none [] (.st 2 (.t 3) (.t 17))) (.c (.q 4 [] (.mv (.t 19))) .nil)))))) (.c (.p 17 [] (.lda 2 (.t 7))) (.c (.p 16 [] (.lda 3 (.t 6))) (.c (.e none [] (.st 3 (.t 2) (.t 16))) (.c (.e none [] (.st 2 (.t 3) (.t 17))) (.c (.q 4 [] (.mv (.t 19))) .nil))))))))))) .ret)
def t19_1 := b19_1
theorem u19_1 : vcK P t19_1 k e w = vcK P b19_1 k e w := rfl
abbrev b19_2 : X := (.seq (.reg [2, 3, 5, 6, 7] (.c (.q 13 [] (.mv (.t 5))) (.c (.q 14 [] (.lda 3 (.t 6))) (.c (.e (some 15) [] (.call true 72 [(.t 13), (.t 14)])) (.c (.e (some 7) [] (.al 27 [(S []), (S [])])) (.c (.e none [] (.st 2 (.t 7) (.t 15))) .nil)))))) t19_1)
def t19_2 := b19_2
theorem u19_2 : vcK P t19_2 k e w = vcK P b19_2 k e w := rfl
abbrev b19_3 : X := (.seq (.reg [2, 3, 5, 6] (.c (.q 11 [] (.mv (.t 5))) (.c (.e (some 12) [] (.call true 56 [(.t 11)])) (.c (.e (some 6) [] (.al 25 [(S []), (.int .i64 0), (.slice none 0 0)])) (.c (.e none [] (.st 3 (.t 6) (.t 12))) .nil))))) t19_2)
def t19_3 := b19_3
theorem u19_3 : vcK P t19_3 k e w = vcK P b19_3 k e w := rfl
abbrev b19_4 : X := (.seq (.reg [2, 3, 5] (.c (.q 8 [] (.mv (.t 0))) (.c (.q 9 [] (.bld [(.slice none 0 0), (.int .i64 0), (.int .u64 0)] [(0, 0, (.t 8))])) (.c (.e (some 10) [] (.box 78 (.t 9))) (.c (.q 5 [] (.mv (.t 10))) .nil))))) t19_3)
def t19_4 := b19_4
theorem u19_4 : vcK P t19_4 k e w = vcK P b19_4 k e w := rfl
abbrev b19_0 : X := (.seq (.reg [0, 2, 3] (.c (.e (some 2) [] (.al 25 [(S []), (.int .i64 0), (.slice none 0 0)])) (.c (.e (some 3) [] (.al 27 [(S []), (S [])])) (.c (.q 4 [] (.mv (.s []))) .nil)))) t19_4)
def x_sDrawTouchHeads := b19_0
theorem u19_0 : vcK P x_sDrawTouchHeads k e w = vcK P b19_0 k e w := rfl
def r_sDrawTouchHeads : List XO := [(.lda 3 (.t 2)), (.lda 2 (.t 3)), (.mv (.t 4))]
theorem c_sDrawTouchHeads : convF Tryz.prog [56, 58, 59, 60, 61, 62, 72, 73, 77, 97, 98, 109, 110, 111, 112, 115, 128, 136] Tryz.f19 [([0, 2, 3], []), ([2, 3, 5], []), ([2, 3, 5, 6], []), ([2, 3, 5, 6, 7], []), ([2, 3, 4], [])] = some (x_sDrawTouchHeads, r_sDrawTouchHeads) := by kernel_rfl
def us_sDrawTouchHeads :=  (aI (aI @u19_0 @u19_1) (aI @u19_2 (aI @u19_3 @u19_4)))
end
/-- A method, calls and a touch that may be spoilt. -/
def AnyT (B : Nat) (r : Value) (w' : World) : Prop := ∃ nm st x cs p q t, r = .tuple ⟨[mV nm st x, kV p q, S t]⟩ ∧ Own fS 1 9 B w' x cs ∧ nm.length ≤ 11 ∧ (2 ≤ st ∧ st ≤ 9) ∧ cs.length ≤ 60 ∧ (∀ c ∈ cs, c.length ≤ 8) ∧ (p.length ≤ 8 ∧ q.length ≤ 8) ∧ t.length ≤ 61
/-- The blocks of such a drawing. -/
structure DT (w0 : World) (b b2 b3 b6 b7 : Nat) (c2 c3 cm cq : List Value) (x : Value) (cs : List (List UInt8)) (w : World) : Prop where
  r2 : Blk w b2 c2 25
  r3 : Blk w b3 c3 27
  m : Blk w b6 cm 25
  k : Blk w b7 cq 27
  own : Own fS 1 9 (b + 1) w x cs
  ex : Ext w0 w
  lo : w0.heap.size ≤ b2 ∧ b2 < b3 ∧ b3 < b ∧ b < b6 ∧ b < b7
section
variable {w0 : World} {b b2 b3 b6 b7 : Nat} {c2 c3 cm cq c' : List Value} {x : Value} {cs : List (List UInt8)} {w w' : World}
theorem DT.draw (h : DT w0 b b2 b3 b6 b7 c2 c3 cm cq x cs w) (hg : w.grownBy w' (some b)) : DT w0 b b2 b3 b6 b7 c2 c3 cm cq x cs w' := by
  have hl := h.lo
  have key : ∀ c, c ≠ b → c < w.heap.size → w'.heap[c]? = w.heap[c]? := fun c hc hlt => hg.block c hlt (fun e => hc (Option.some.inj e))
  exact ⟨h.r2.same (key _ (by omega) h.r2.lt), h.r3.same (key _ (by omega) h.r3.lt), h.m.same (key _ (by omega) h.m.lt), h.k.same (key _ (by omega) h.k.lt), h.own.keep hg (fun c hc => by have := Option.some.inj hc; omega), ext_grow' h.ex hg (fun c hc => by have := Option.some.inj hc; omega), hl⟩
theorem DT.ext (h : DT w0 b b2 b3 b6 b7 c2 c3 cm cq x cs w) (hx : Ext w w') : DT w0 b b2 b3 b6 b7 c2 c3 cm cq x cs w' := h.draw (grown_ext _ hx)
theorem DT.st2 (h : DT w0 b b2 b3 b6 b7 c2 c3 cm cq x cs w) (hu : Upd w w' b2) (hb : Blk w' b2 c' 25) : DT w0 b b2 b3 b6 b7 c' c3 cm cq x cs w' := by
  have hl := h.lo
  exact ⟨hb, hu.blk h.r3 (by omega), hu.blk h.m (by omega), hu.blk h.k (by omega), h.own.upd hu (h.own.away' (by omega)), hu.below h.ex (by omega), hl⟩
theorem DT.st3 (h : DT w0 b b2 b3 b6 b7 c2 c3 cm cq x cs w) (hu : Upd w w' b3) (hb : Blk w' b3 c' 27) : DT w0 b b2 b3 b6 b7 c2 c' cm cq x cs w' := by
  have hl := h.lo
  exact ⟨hu.blk h.r2 (by omega), hb, hu.blk h.m (by omega), hu.blk h.k (by omega), h.own.upd hu (h.own.away' (by omega)), hu.below h.ex (by omega), hl⟩
end
theorem sDrawTouchHeads_ok (v : Value) (code : List UInt8) (hl : code.length ≤ 1048576) (w : World) (h : Sq fU 1 w v code) : Fn 19 [v] w (fun r w' => AnyT w.heap.size r w') := by
  (refine callsV_of mix Tryz.func19 c_sDrawTouchHeads ?_; simp only [↓vsd, vsn, gW, qd, qv, ev, pick, argE, zipE, ne_eq, eq_self, forall_const, implies_true, if_true, if_false, reduceIte, reduceCtorEq, Nat.reduceEqDiff, Nat.reduceAdd, Nat.reduceLT, ↓us_sDrawTouchHeads, r_sDrawTouchHeads])
  refine m_al ?_
  rintro b2 w2 hb2 hblk2 hx2 hs2
  simp only [↓vsd, vsn, gW, qd, qv, ev, pick, argE, zipE, ne_eq, eq_self, forall_const, implies_true, if_true, if_false, reduceIte, reduceCtorEq, Nat.reduceEqDiff, Nat.reduceAdd, Nat.reduceLT, ↓us_sDrawTouchHeads, r_sDrawTouchHeads]
  refine m_al ?_
  rintro b3 w3 hb3 hblk3 hx3 hs3
  have hx13 := hx2.trans hx3
  have h3 := h.ext hx13
  simp only [↓vsd, vsn, gW, qd, qv, ev, pick, argE, zipE, ne_eq, eq_self, forall_const, implies_true, if_true, if_false, reduceIte, reduceCtorEq, Nat.reduceEqDiff, Nat.reduceAdd, Nat.reduceLT, ↓us_sDrawTouchHeads, r_sDrawTouchHeads, h3.facts]
  refine m_al ?_
  rintro b w4 hb hblk4 hx4 hs4
  have hc := Cur.new h3 hl hb hblk4 hx4
  simp only [↓vsd, vsn, gW, qd, qv, ev, pick, argE, zipE, ne_eq, eq_self, forall_const, implies_true, if_true, if_false, reduceIte, reduceCtorEq, Nat.reduceEqDiff, Nat.reduceAdd, Nat.reduceLT, ↓us_sDrawTouchHeads, r_sDrawTouchHeads]
  refine m_callw (.inl rfl) (sl1Cur_anyMethod_ok w3 b _ w4 (by omega) hc) ?_
  rintro _ w5 ⟨hc5, hg5, nm, st, x, cs, rfl, ho5, hnm, hst, hcs, hc8⟩
  simp only [↓vsd, vsn, gW, qd, qv, ev, pick, argE, zipE, ne_eq, eq_self, forall_const, implies_true, if_true, if_false, reduceIte, reduceCtorEq, Nat.reduceEqDiff, Nat.reduceAdd, Nat.reduceLT, ↓us_sDrawTouchHeads, r_sDrawTouchHeads]
  refine m_al ?_
  rintro b6 w6 hb6 hblk6 hx6 hs6
  simp only [↓vsd, vsn, gW, qd, qv, ev, pick, argE, zipE, ne_eq, eq_self, forall_const, implies_true, if_true, if_false, reduceIte, reduceCtorEq, Nat.reduceEqDiff, Nat.reduceAdd, Nat.reduceLT, ↓us_sDrawTouchHeads, r_sDrawTouchHeads]
  refine m_st hblk6 rfl (Nat.le_refl 3) (fM_one nm st x ho5.sq.one') ?_
  rintro w7 hblk7 hu7
  have h7 : Blk w7 b6 (fM nm st x) 25 := hblk7
  have hlt5 := hc5.lt
  have ho7 := (ho5.ext hx6).upd hu7 (ho5.away (by omega))
  have hc7 := (hc5.ext hx6).keep hu7.grown (fun c hc => by have := Option.some.inj hc; omega)
  simp only [↓vsd, vsn, gW, qd, qv, ev, pick, argE, zipE, ne_eq, eq_self, forall_const, implies_true, if_true, if_false, reduceIte, reduceCtorEq, Nat.reduceEqDiff, Nat.reduceAdd, Nat.reduceLT, ↓us_sDrawTouchHeads, r_sDrawTouchHeads, h7.facts, fMg]
  refine m_callw (.inl rfl) (sl1Cur_anyCalls_ok w3 b _ nm st x cs hnm hcs hc8 w7 (by omega) hc7 (fun w' hg => (ho7.keep hg (fun c hc => by have := Option.some.inj hc; omega)).sq)) ?_
  rintro _ w8 ⟨hc8', hg8, p, q, rfl, hp8, hq8⟩
  simp only [↓vsd, vsn, gW, qd, qv, ev, pick, argE, zipE, ne_eq, eq_self, forall_const, implies_true, if_true, if_false, reduceIte, reduceCtorEq, Nat.reduceEqDiff, Nat.reduceAdd, Nat.reduceLT, ↓us_sDrawTouchHeads, r_sDrawTouchHeads]
  refine m_al ?_
  rintro b7 w9 hb7 hblk9 hx9 hs9
  simp only [↓vsd, vsn, gW, qd, qv, ev, pick, argE, zipE, ne_eq, eq_self, forall_const, implies_true, if_true, if_false, reduceIte, reduceCtorEq, Nat.reduceEqDiff, Nat.reduceAdd, Nat.reduceLT, ↓us_sDrawTouchHeads, r_sDrawTouchHeads]
  refine m_st hblk9 rfl (Nat.le_refl 2) (fQ_one p q) ?_
  rintro w10 hblk10 hu10
  have h10 : Blk w10 b7 (fQ p q) 27 := hblk10
  have hlt8 := hc8'.lt
  have h5s := hg5.size
  have h8s := hg8.size
  have hbb : w3.heap.size ≤ b := by omega
  have hF : Ext w3 w10 := by
    have e5 := ext_grow' hx4 hg5 (fun c hc => by have := Option.some.inj hc; omega)
    have e7 : Ext w3 w7 := hu7.below (e5.trans hx6) (by have := e5.size; omega)
    have e8 := ext_grow' e7 hg8 (fun c hc => by have := Option.some.inj hc; omega)
    exact hu10.below (e8.trans hx9) (by have := e8.size; omega)
  have ho10 : Own fS 1 9 (b + 1) w10 x cs := ((((ho7.keep hg8 (fun c hc => by have := Option.some.inj hc; omega)).ext hx9).upd hu10 (ho7.away (by have := hx9.size; omega))).mono (by omega))
  have h7lt := h7.lt
  have ds : DT w b b2 b3 b6 b7 (fM [] 0 (.slice none 0 0)) (fQ [] []) (fM nm st x) (fQ p q) x cs w10 := ⟨(Blk.ext hblk2 hx3).ext hF, Blk.ext hblk3 hF, hu10.blk ((h7.same (hg8.block b6 h7.lt (fun e => by have := Option.some.inj e; omega))).ext hx9) (by omega), h10, ho10, hx13.trans hF, by omega⟩
  have hc10 : Cur w3 b (1000) w10 := ((hc8'.ext hx9).keep hu10.grown (fun c hc => by have := Option.some.inj hc; omega)).mono (by omega)
  simp only [↓vsd, vsn, gW, qd, qv, ev, pick, argE, zipE, ne_eq, eq_self, forall_const, implies_true, if_true, if_false, reduceIte, reduceCtorEq, Nat.reduceEqDiff, Nat.reduceAdd, Nat.reduceLT, ↓us_sDrawTouchHeads, r_sDrawTouchHeads, ds.m.facts, ds.k.facts, fMg, fQg]
  have ds := ds.ext (dr (Ext.refl _))
  have hc10 := hc10.ext (dr (Ext.refl _))
  repeat' first
    | exact ⟨ds.ex, nm, st, x, cs, p, q, t, rfl, ds.own.mono (by omega), hnm, hst, hcs, hc8, ⟨hp8, hq8⟩, ht⟩
    | refine ⟨?_, ?_⟩
    | (refine m_callw (.inr rfl) (sl1Cur_anyTouch_ok w3 b _ _ (by omega) hc10) ?_; rintro _ _ ⟨_, hg, t, rfl, ht⟩; replace ds := ds.draw hg; clear hc10 hg; simp only [↓vsd, vsn, gW, qd, qv, ev, pick, argE, zipE, ne_eq, eq_self, forall_const, implies_true, if_true, if_false, reduceIte, reduceCtorEq, Nat.reduceEqDiff, Nat.reduceAdd, Nat.reduceLT, ↓us_sDrawTouchHeads, r_sDrawTouchHeads, ds.m.facts, ds.k.facts, fMg, fQg])
    | (refine m_st ds.r2 rfl (Nat.le_refl 3) (fM_one nm st x ho5.sq.one') ?_; rintro _ hb' hu; replace ds := ds.st2 hu (show Blk _ b2 (fM nm st x) _ from hb'); clear hb' hu; simp only [↓vsd, vsn, gW, qd, qv, ev, pick, argE, zipE, ne_eq, eq_self, forall_const, implies_true, if_true, if_false, reduceIte, reduceCtorEq, Nat.reduceEqDiff, Nat.reduceAdd, Nat.reduceLT, ↓us_sDrawTouchHeads, r_sDrawTouchHeads, ds.m.facts, ds.k.facts, fMg, fQg])
    | (refine m_st ds.r3 rfl (Nat.le_refl 2) (fQ_one p q) ?_; rintro _ hb' hu; replace ds := ds.st3 hu (show Blk _ b3 (fQ p q) _ from hb'); clear hb' hu; simp only [↓vsd, vsn, gW, qd, qv, ev, pick, argE, zipE, ne_eq, eq_self, forall_const, implies_true, if_true, if_false, reduceIte, reduceCtorEq, Nat.reduceEqDiff, Nat.reduceAdd, Nat.reduceLT, ↓us_sDrawTouchHeads, r_sDrawTouchHeads, ds.m.facts, ds.k.facts, ds.r2.facts, ds.r3.facts, fMg, fQg])
end Go.Proofs.YthopbkemkfjebaaGreat
