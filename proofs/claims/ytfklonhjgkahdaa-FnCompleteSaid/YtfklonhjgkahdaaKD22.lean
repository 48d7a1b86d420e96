/-
  The drawing of calls and touches.
  Conditions: none.
-/
import Derived.Test.YtfklonhjgkahdaaKA17
import Derived.Test.YtfklonhjgkahdaaKD15
set_option linter.unusedSimpArgs false
set_option linter.unusedVariables false
set_option linter.defProp false
namespace Go.Proofs.Ytfklonhjgkahdaa
open Go Go.RowKit
section
variable (P : Program) (k : KT) (e : Env) (w : World)
abbrev b87_1 : X := (.reg [0, 4, 5, 6] (.c (.q 33 [] (.fa 0 (.t 6))) (.c (.e none [] (.st 1 (.t 33) (.s [49, 52]))) .nil)))
def t87_1 := b87_1
theorem u87_1 : vcK P t87_1 k e w = vcK P b87_1 k e w := rfl
abbrev b87_2 : X := (.cond (.t 31) (.seq (.reg [0, 4, 5, 6] (.c (.q 32 [] (.fa 1 (.t 6))) (.c (.e none [] (.st 1 (.t 32) (.s [49, 50]))) .nil))) t87_1) .skip)
def t87_2 := b87_2
theorem u87_2 : vcK P t87_2 k e w = vcK P b87_2 k e w := rfl
abbrev b87_3 : X := (.seq (.reg [0, 4, 5, 6, 31] (.c (.q 30 [] (.mv (.t 5))) (.c (.q 31 [] (.bin .eql (.t 30) (.c (.int .i64 4)))) .nil))) t87_2)
def t87_3 := b87_3
theorem u87_3 : vcK P t87_3 k e w = vcK P b87_3 k e w := rfl
abbrev b87_4 : X := (.seq (.reg [0, 4, 5, 6] (.c (.q 29 [] (.fa 1 (.t 6))) (.c (.e none [] (.st 1 (.t 29) (.s [49, 50, 51, 52]))) .nil))) t87_3)
def t87_4 := b87_4
theorem u87_4 : vcK P t87_4 k e w = vcK P b87_4 k e w := rfl
abbrev b87_5 : X := (.cond (.t 27) (.seq (.reg [0, 4, 5, 6] (.c (.q 28 [] (.fa 0 (.t 6))) (.c (.e none [] (.st 1 (.t 28) (.s [49, 52]))) .nil))) t87_4) .skip)
def t87_5 := b87_5
theorem u87_5 : vcK P t87_5 k e w = vcK P b87_5 k e w := rfl
abbrev b87_6 : X := (.reg [4, 6] (.c (.q 42 [] (.fa 1 (.t 6))) (.c (.e none [] (.st 1 (.t 42) (.s [49, 50, 51]))) .nil)))
def t87_6 := b87_6
theorem u87_6 : vcK P t87_6 k e w = vcK P b87_6 k e w := rfl
abbrev b87_7 : X := (.cond (.t 40) (.seq (.reg [4, 6] (.c (.q 41 [] (.fa 0 (.t 6))) (.c (.e none [] (.st 1 (.t 41) (.s [49, 52, 53]))) .nil))) t87_6) .skip)
def t87_7 := b87_7
theorem u87_7 : vcK P t87_7 k e w = vcK P b87_7 k e w := rfl
abbrev b87_8 : X := (.seq (.reg [4] (.c (.q 43 [] (.lda 2 (.t 6))) (.c (.e none [] (.st 2 (.t 4) (.t 43))) .nil))) .ret)
def t87_8 := b87_8
theorem u87_8 : vcK P t87_8 k e w = vcK P b87_8 k e w := rfl
abbrev b87_9 : X := (.seq (.seq (.reg [4, 6, 40] (.c (.q 34 [] (.mv (.t 5))) (.c (.q 35 [] (.bin .eql (.t 34) (.c (.int .i64 5)))) (.c (.q 36 [] (.mv (.t 35))) (.c (.q 37 [(36, true)] (.mv (.t 0))) (.c (.e (some 38) [(36, true)] (.call true 38 [(.t 37), (.c (.int .i64 4))])) (.c (.q 39 [(36, true)] (.not (.t 38))) (.c (.q 40 [] (.pick (.t 36) (.t 39) (.c (.bool false)))) .nil)))))))) t87_7) t87_8)
def t87_9 := b87_9
theorem u87_9 : vcK P t87_9 k e w = vcK P b87_9 k e w := rfl
abbrev b87_10 : X := (.seq (.seq (.reg [0, 4, 5, 6, 27] (.c (.q 16 [] (.mv (.t 5))) (.c (.q 17 [] (.bin .geq (.t 16) (.c (.int .i64 4)))) (.c (.q 18 [] (.mv (.t 17))) (.c (.q 19 [(18, true)] (.mv (.t 5))) (.c (.q 20 [(18, true)] (.bin .rem (.t 19) (.c (.int .i64 2)))) (.c (.q 21 [(18, true)] (.bin .eql (.t 20) (.c (.int .i64 0)))) (.c (.q 22 [] (.pick (.t 18) (.t 21) (.c (.bool false)))) (.c (.q 23 [] (.mv (.t 22))) (.c (.q 24 [(23, true)] (.mv (.t 0))) (.c (.e (some 25) [(23, true)] (.call true 38 [(.t 24), (.c (.int .i64 4))])) (.c (.q 26 [(23, true)] (.not (.t 25))) (.c (.q 27 [] (.pick (.t 23) (.t 26) (.c (.bool false)))) .nil))))))))))))) t87_5) t87_9)
def t87_10 := b87_10
theorem u87_10 : vcK P t87_10 k e w = vcK P b87_10 k e w := rfl
abbrev b87_11 : X := (.seq (.reg [0, 4, 5, 6] (.c (.q 9 [] (.mv (.t 0))) (.c (.q 10 [] (.mv (.t 5))) (.c (.e (some 11) [] (.call true 81 [(.t 9), (.t 10)])) (.c (.q 12 [] (.mv (.t 0))) (.c (.q 13 [] (.mv (.t 5))) (.c (.e (some 14) [] (.call true 81 [(.t 12), (.t 13)])) (.c (.q 15 [] (.bld [(S []), (S [])] [(0, 0, (.t 11)), (1, 0, (.t 14))])) (.c (.e (some 6) [] (.al 46 [(S []), (S [])])) (.c (.e none [] (.st 2 (.t 6) (.t 15))) .nil)))))))))) t87_10)
def t87_11 := b87_11
theorem u87_11 : vcK P t87_11 k e w = vcK P b87_11 k e w := rfl
abbrev b87_12 : X := (.seq (.reg [0, 4, 5] (.c (.q 7 [] (.fa 1 (.t 3))) (.c (.q 8 [] (.ld (.t 7))) (.c (.q 5 [] (.mv (.t 8))) .nil)))) t87_11)
def t87_12 := b87_12
theorem u87_12 : vcK P t87_12 k e w = vcK P b87_12 k e w := rfl
abbrev b87_0 : X := (.seq (.reg [0, 3, 4] (.c (.e (some 3) [] (.box 44 (.t 1))) (.c (.e (some 4) [] (.al 46 [(S []), (S [])])) .nil))) t87_12)
def x_sl1Cur_calls := b87_0
theorem u87_0 : vcK P x_sl1Cur_calls k e w = vcK P b87_0 k e w := rfl
def r_sl1Cur_calls : List XO := [(.lda 2 (.t 4))]
theorem c_sl1Cur_calls : convF Try.prog [38, 39, 41, 42, 49, 54, 55, 57, 58, 59, 73, 79, 81, 84, 87, 139] Try.f87 [([0, 3, 4], []), ([0, 4, 5], []), ([0, 4, 5, 6], []), ([0, 4, 5, 6, 27], []), ([0, 4, 5, 6], []), ([0, 4, 5, 6], []), ([0, 4, 5, 6, 31], []), ([0, 4, 5, 6], []), ([0, 4, 5, 6], []), ([4, 6, 40], []), ([4, 6], []), ([4, 6], []), ([4], [])] = some (x_sl1Cur_calls, r_sl1Cur_calls) := by kernel_rfl
def us_sl1Cur_calls :=  (aI (aI (aI @u87_0 (aI @u87_1 @u87_2)) (aI @u87_3 (aI @u87_4 @u87_5))) (aI (aI @u87_6 (aI @u87_7 @u87_8)) (aI (aI @u87_9 @u87_10) (aI @u87_11 @u87_12))))
abbrev b59_1 : X := (.cond (.t 8) (.seq (.reg [4] (.c (.q 9 [] (.bld [(S []), (S [])] [(0, 0, (.s [49, 52])), (1, 0, (.s [49, 50, 51, 52]))])) (.c (.e none [] (.st 2 (.t 4) (.t 9))) .nil))) .ret) .skip)
def t59_1 := b59_1
theorem u59_1 : vcK P t59_1 k e w = vcK P b59_1 k e w := rfl
abbrev b59_2 : X := (.cond (.t 14) (.reg [4, 5] (.c (.q 15 [] (.mv (.t 0))) (.c (.e (some 16) [] (.bsl 9 1 [(.s []), (.s [120]), (.s [49]), (.s [49, 51]), (.s [57, 57])])) (.c (.e (some 17) [] (.call true 42 [(.t 15), (.t 16)])) (.c (.q 18 [] (.fa 0 (.t 5))) (.c (.e none [] (.st 1 (.t 18) (.t 17))) .nil)))))) .skip)
def t59_2 := b59_2
theorem u59_2 : vcK P t59_2 k e w = vcK P b59_2 k e w := rfl
abbrev b59_3 : X := (.seq (.reg [4] (.c (.q 19 [] (.lda 2 (.t 5))) (.c (.e none [] (.st 2 (.t 4) (.t 19))) .nil))) .ret)
def t59_3 := b59_3
theorem u59_3 : vcK P t59_3 k e w = vcK P b59_3 k e w := rfl
abbrev b59_4 : X := (.seq (.seq (.reg [0, 4, 5, 14] (.c (.q 13 [] (.mv (.t 0))) (.c (.e (some 14) [] (.call true 38 [(.t 13), (.c (.int .i64 16))])) .nil))) t59_2) t59_3)
def t59_4 := b59_4
theorem u59_4 : vcK P t59_4 k e w = vcK P b59_4 k e w := rfl
abbrev b59_5 : X := (.seq (.reg [0, 4, 5] (.c (.q 10 [] (.mv (.t 0))) (.c (.q 11 [] (.lda 3 (.t 3))) (.c (.e (some 12) [] (.call true 87 [(.t 10), (.t 11)])) (.c (.e (some 5) [] (.al 46 [(S []), (S [])])) (.c (.e none [] (.st 2 (.t 5) (.t 12))) .nil)))))) t59_4)
def t59_5 := b59_5
theorem u59_5 : vcK P t59_5 k e w = vcK P b59_5 k e w := rfl
abbrev b59_6 : X := (.seq (.seq (.reg [0, 3, 4, 8] (.c (.q 6 [] (.lda 3 (.t 3))) (.c (.e (some 7) [] (.call false 86 [(.t 6)])) (.c (.q 8 [] (.not (.t 7))) .nil)))) t59_1) t59_5)
def t59_6 := b59_6
theorem u59_6 : vcK P t59_6 k e w = vcK P b59_6 k e w := rfl
abbrev b59_0 : X := (.seq (.reg [0, 3, 4] (.c (.e (some 3) [] (.box 44 (.t 1))) (.c (.e (some 4) [] (.al 46 [(S []), (S [])])) .nil))) t59_6)
def x_sl1Cur_anyCalls := b59_0
theorem u59_0 : vcK P x_sl1Cur_anyCalls k e w = vcK P b59_0 k e w := rfl
def r_sl1Cur_anyCalls : List XO := [(.lda 2 (.t 4))]
theorem c_sl1Cur_anyCalls : convF Try.prog [38, 39, 41, 42, 49, 54, 55, 57, 58, 59, 73, 79, 81, 84, 87, 139] Try.f59 [([0, 3, 4], []), ([0, 3, 4, 8], []), ([4], []), ([0, 4, 5], []), ([0, 4, 5, 14], []), ([4, 5], []), ([4], [])] = some (x_sl1Cur_anyCalls, r_sl1Cur_anyCalls) := by kernel_rfl
def us_sl1Cur_anyCalls :=  (aI (aI @u59_0 (aI @u59_1 @u59_2)) (aI (aI @u59_3 @u59_4) (aI @u59_5 @u59_6)))
end
/-- Calls in block b6, a result in block b4, a method in block b3. -/
structure QT (W : World) (b N : Nat) (w0 : World) (b3 b4 b6 : Nat) (cm : List Value) (p q : List UInt8) (w : World) : Prop where
  cur : Cur W b N w
  m : Blk w b3 cm 44
  res : Blk w b4 (fQ [] []) 46
  k : Blk w b6 (fQ p q) 46
  gr : w0.grownBy w (some b)
  lo : b < w0.heap.size ∧ w0.heap.size ≤ b3 ∧ b3 < b4 ∧ b4 < b6
section
variable {W : World} {b N M : Nat} {w0 : World} {b3 b4 b6 : Nat} {cm : List Value} {p q p' q' : List UInt8} {w w' : World}
theorem QT.draw (h : QT W b N w0 b3 b4 b6 cm p q w) (hc : Cur W b M w') (hg : w.grownBy w' (some b)) : QT W b M w0 b3 b4 b6 cm p q w' := by
  have hl := h.lo
  have key : ∀ c, c ≠ b → c < w.heap.size → w'.heap[c]? = w.heap[c]? := fun c hc hlt => hg.block c hlt (fun e => hc (Option.some.inj e))
  exact ⟨hc, h.m.same (key _ (by omega) h.m.lt), h.res.same (key _ (by omega) h.res.lt), h.k.same (key _ (by omega) h.k.lt), grown_trans h.gr hg, hl⟩
theorem QT.ext (h : QT W b N w0 b3 b4 b6 cm p q w) (hx : Ext w w') : QT W b N w0 b3 b4 b6 cm p q w' := h.draw (h.cur.ext hx) (grown_ext _ hx)
theorem QT.mono (h : QT W b N w0 b3 b4 b6 cm p q w) (hm : N ≤ M) : QT W b M w0 b3 b4 b6 cm p q w := ⟨h.cur.mono hm, h.m, h.res, h.k, h.gr, h.lo⟩
theorem QT.put (h : QT W b N w0 b3 b4 b6 cm p q w) (hu : Upd w w' b6) (hb : Blk w' b6 (fQ p' q') 46) : QT W b N w0 b3 b4 b6 cm p' q' w' := by
  have hl := h.lo
  exact ⟨h.cur.keep hu.grown (fun c hc => by have := Option.some.inj hc; omega), hu.blk h.m (by omega), hu.blk h.res (by omega), hb, grown_new h.gr hu.grown (fun c hc => by have := Option.some.inj hc; omega), hl⟩
end
theorem sl1Cur_calls_okc (W : World) (b n : Nat) (nm : List UInt8) (s : Nat) (v : Value) (hs : 3 ≤ s ∧ s ≤ 8) (w : World) (hn : n ≤ 700000000) (hc : Cur W b n w) : CurFn 87 [cV b, mV nm s v] W b n 10 w (fun r _ => ∃ p q, r = kV p q ∧ IsChange s p ∧ IsChange s q) := by
  (refine callsV_of mix Try.func87 c_sl1Cur_calls ?_; simp only [↓vsd, vsn, gW, qd, qv, ev, pick, argE, zipE, ne_eq, eq_self, forall_const, implies_true, if_true, if_false, reduceIte, reduceCtorEq, Nat.reduceEqDiff, Nat.reduceAdd, Nat.reduceLT, ↓us_sl1Cur_calls, r_sl1Cur_calls])
  refine m_al ?_
  rintro b3 w1 hb3 hblk3 hx1 hs1
  have h3 : Blk w1 b3 (fM nm s v) 44 := hblk3
  simp only [↓vsd, vsn, gW, qd, qv, ev, pick, argE, zipE, ne_eq, eq_self, forall_const, implies_true, if_true, if_false, reduceIte, reduceCtorEq, Nat.reduceEqDiff, Nat.reduceAdd, Nat.reduceLT, ↓us_sl1Cur_calls, r_sl1Cur_calls]
  refine m_al ?_
  rintro b4 w2 hb4 hblk4 hx2 hs2
  have h4 : Blk w2 b4 (fQ [] []) 46 := hblk4
  have h3 := h3.ext hx2
  have hx12 := hx1.trans hx2
  have hlt := hc.lt
  simp only [↓vsd, vsn, gW, qd, qv, ev, pick, argE, zipE, ne_eq, eq_self, forall_const, implies_true, if_true, if_false, reduceIte, reduceCtorEq, Nat.reduceEqDiff, Nat.reduceAdd, Nat.reduceLT, ↓us_sl1Cur_calls, r_sl1Cur_calls, h3.facts, fMg]
  refine m_callw (.inl rfl) (sl1Cur_change_ok W b _ s hs _ (by omega) (hc.ext hx12)) ?_
  rintro _ w3 ⟨hc3, hg3, p, rfl, hp⟩
  simp only [↓vsd, vsn, gW, qd, qv, ev, pick, argE, zipE, ne_eq, eq_self, forall_const, implies_true, if_true, if_false, reduceIte, reduceCtorEq, Nat.reduceEqDiff, Nat.reduceAdd, Nat.reduceLT, ↓us_sl1Cur_calls, r_sl1Cur_calls]
  refine m_callw (.inl rfl) (sl1Cur_change_ok W b _ s hs _ (by omega) hc3) ?_
  rintro _ w4 ⟨hc4, hg4, q, rfl, hq⟩
  simp only [↓vsd, vsn, gW, qd, qv, ev, pick, argE, zipE, ne_eq, eq_self, forall_const, implies_true, if_true, if_false, reduceIte, reduceCtorEq, Nat.reduceEqDiff, Nat.reduceAdd, Nat.reduceLT, ↓us_sl1Cur_calls, r_sl1Cur_calls]
  refine m_al ?_
  rintro b6 w5 hb6 hblk6 hx5 hs5
  simp only [↓vsd, vsn, gW, qd, qv, ev, pick, argE, zipE, ne_eq, eq_self, forall_const, implies_true, if_true, if_false, reduceIte, reduceCtorEq, Nat.reduceEqDiff, Nat.reduceAdd, Nat.reduceLT, ↓us_sl1Cur_calls, r_sl1Cur_calls]
  refine m_st hblk6 rfl (Nat.le_refl 2) (fQ_one _ _) ?_
  rintro w6 hblk6' hu6
  have hg34 := grown_trans hg3 hg4
  have hsz := hg34.size
  have h3' := (h3.same (hg34.block b3 h3.lt (fun e => by have := Option.some.inj e; omega))).ext hx5
  have h4' := (h4.same (hg34.block b4 h4.lt (fun e => by have := Option.some.inj e; have := hx1.size; omega))).ext hx5
  have hl2 := h4.lt
  have qs : QT W b (n + 4) w b3 b4 b6 (fM nm s v) p q w6 := ⟨((hc4.ext hx5).keep hu6.grown (fun c hc => by have := Option.some.inj hc; have := hx1.size; omega)).mono (by omega), hu6.blk h3' (by omega), hu6.blk h4' (by omega), hblk6', grown_new (grown_trans (grown_trans (grown_ext _ hx12) hg34) (grown_ext _ hx5)) hu6.grown (fun c hc => by have := Option.some.inj hc; have := hx12.size; omega), by omega⟩
  have hp8 : p.length ≤ 8 := by have := hp.len; omega
  have hq8 : q.length ≤ 8 := by have := hq.len; omega
  by_cases hA : 4 ≤ s ∧ s % 2 = 0
  · have hA1 : (4 : Int) ≤ s := by omega
    have hA2 : ((s % 2 : Nat) : Int) = 0 := by omega
    have hs5 : ¬ (s : Int) = 5 := by omega
    simp only [↓vsd, vsn, gW, qd, qv, ev, pick, argE, zipE, ne_eq, eq_self, forall_const, implies_true, if_true, if_false, reduceIte, reduceCtorEq, Nat.reduceEqDiff, Nat.reduceAdd, Nat.reduceLT, ↓us_sl1Cur_calls, r_sl1Cur_calls, hA1, hA2]
    refine ⟨by decide, m_callw (.inl rfl) (sl1Cur_one_ok W b _ 4 (by omega) _ (by omega) qs.cur) ?_⟩
    rintro _ w7 ⟨hc7, hg7, x, rfl⟩
    have qs := qs.draw hc7 hg7
    cases x
    · simp only [↓vsd, vsn, gW, qd, qv, ev, pick, argE, zipE, ne_eq, eq_self, forall_const, implies_true, if_true, if_false, reduceIte, reduceCtorEq, Nat.reduceEqDiff, Nat.reduceAdd, Nat.reduceLT, ↓us_sl1Cur_calls, r_sl1Cur_calls]
      refine m_st qs.k rfl (by decide : 0 + 1 ≤ 2) (fS_one _) ?_
      rintro w8 hblk8 hu8
      have qs := qs.put hu8 (show Blk w8 b6 (fQ [49, 52] q) _ from hblk8)
      simp only [↓vsd, vsn, gW, qd, qv, ev, pick, argE, zipE, ne_eq, eq_self, forall_const, implies_true, if_true, if_false, reduceIte, reduceCtorEq, Nat.reduceEqDiff, Nat.reduceAdd, Nat.reduceLT, ↓us_sl1Cur_calls, r_sl1Cur_calls]
      refine m_st qs.k rfl (by decide : 1 + 1 ≤ 2) (fS_one _) ?_
      rintro w9 hblk9 hu9
      have qs := qs.put hu9 (show Blk w9 b6 (fQ [49, 52] [49, 50, 51, 52]) _ from hblk9)
      by_cases h4 : (s : Int) = 4
      · simp only [↓vsd, vsn, gW, qd, qv, ev, pick, argE, zipE, ne_eq, eq_self, forall_const, implies_true, if_true, if_false, reduceIte, reduceCtorEq, Nat.reduceEqDiff, Nat.reduceAdd, Nat.reduceLT, ↓us_sl1Cur_calls, r_sl1Cur_calls, h4]
        refine m_st qs.k rfl (by decide : 1 + 1 ≤ 2) (fS_one _) ?_
        rintro w10 hblk10 hu10
        have qs := qs.put hu10 (show Blk w10 b6 (fQ [49, 52] [49, 50]) _ from hblk10)
        simp only [↓vsd, vsn, gW, qd, qv, ev, pick, argE, zipE, ne_eq, eq_self, forall_const, implies_true, if_true, if_false, reduceIte, reduceCtorEq, Nat.reduceEqDiff, Nat.reduceAdd, Nat.reduceLT, ↓us_sl1Cur_calls, r_sl1Cur_calls]
        refine m_st qs.k rfl (by decide : 0 + 1 ≤ 2) (fS_one _) ?_
        rintro w11 hblk11 hu11
        have qs := qs.put hu11 (show Blk w11 b6 (fQ [49, 52] [49, 50]) _ from hblk11)
        have h45 : ¬ (4 : Int) = 5 := by decide
        simp only [↓vsd, vsn, gW, qd, qv, ev, pick, argE, zipE, ne_eq, eq_self, forall_const, implies_true, if_true, if_false, reduceIte, reduceCtorEq, Nat.reduceEqDiff, Nat.reduceAdd, Nat.reduceLT, ↓us_sl1Cur_calls, r_sl1Cur_calls, h4, h45]
        have qs := qs.mono (M := n + 10) (by omega)
        simp only [↓vsd, vsn, gW, qd, qv, ev, pick, argE, zipE, ne_eq, eq_self, forall_const, implies_true, if_true, if_false, reduceIte, reduceCtorEq, Nat.reduceEqDiff, Nat.reduceAdd, Nat.reduceLT, ↓us_sl1Cur_calls, r_sl1Cur_calls, qs.k.facts, fQg]
        refine m_st qs.res rfl (Nat.le_refl 2) (fQ_one _ _) ?_
        rintro wr hbr hur
        have hbr' : Blk wr b4 (fQ _ _) 46 := hbr
        have hlo := qs.lo
        simp only [↓vsd, vsn, gW, qd, qv, ev, pick, argE, zipE, ne_eq, eq_self, forall_const, implies_true, if_true, if_false, reduceIte, reduceCtorEq, Nat.reduceEqDiff, Nat.reduceAdd, Nat.reduceLT, ↓us_sl1Cur_calls, r_sl1Cur_calls, hbr'.facts, fQg]
        exact ⟨qs.cur.keep hur.grown (fun c hc => by have := Option.some.inj hc; omega), grown_new qs.gr hur.grown (fun c hc => by have := Option.some.inj hc; omega), _, _, rfl, by first | exact hp | exact hq | (obtain rfl | rfl | rfl | rfl : s = 4 ∨ s = 5 ∨ s = 6 ∨ s = 8 := by omega) <;> first | omega | decide, by first | exact hp | exact hq | (obtain rfl | rfl | rfl | rfl : s = 4 ∨ s = 5 ∨ s = 6 ∨ s = 8 := by omega) <;> first | omega | decide⟩
      · simp only [↓vsd, vsn, gW, qd, qv, ev, pick, argE, zipE, ne_eq, eq_self, forall_const, implies_true, if_true, if_false, reduceIte, reduceCtorEq, Nat.reduceEqDiff, Nat.reduceAdd, Nat.reduceLT, ↓us_sl1Cur_calls, r_sl1Cur_calls, h4, hs5]
        have qs := qs.mono (M := n + 10) (by omega)
        simp only [↓vsd, vsn, gW, qd, qv, ev, pick, argE, zipE, ne_eq, eq_self, forall_const, implies_true, if_true, if_false, reduceIte, reduceCtorEq, Nat.reduceEqDiff, Nat.reduceAdd, Nat.reduceLT, ↓us_sl1Cur_calls, r_sl1Cur_calls, qs.k.facts, fQg]
        refine m_st qs.res rfl (Nat.le_refl 2) (fQ_one _ _) ?_
        rintro wr hbr hur
        have hbr' : Blk wr b4 (fQ _ _) 46 := hbr
        have hlo := qs.lo
        simp only [↓vsd, vsn, gW, qd, qv, ev, pick, argE, zipE, ne_eq, eq_self, forall_const, implies_true, if_true, if_false, reduceIte, reduceCtorEq, Nat.reduceEqDiff, Nat.reduceAdd, Nat.reduceLT, ↓us_sl1Cur_calls, r_sl1Cur_calls, hbr'.facts, fQg]
        exact ⟨qs.cur.keep hur.grown (fun c hc => by have := Option.some.inj hc; omega), grown_new qs.gr hur.grown (fun c hc => by have := Option.some.inj hc; omega), _, _, rfl, by first | exact hp | exact hq | (obtain rfl | rfl | rfl | rfl : s = 4 ∨ s = 5 ∨ s = 6 ∨ s = 8 := by omega) <;> first | omega | decide, by first | exact hp | exact hq | (obtain rfl | rfl | rfl | rfl : s = 4 ∨ s = 5 ∨ s = 6 ∨ s = 8 := by omega) <;> first | omega | decide⟩
    · simp only [↓vsd, vsn, gW, qd, qv, ev, pick, argE, zipE, ne_eq, eq_self, forall_const, implies_true, if_true, if_false, reduceIte, reduceCtorEq, Nat.reduceEqDiff, Nat.reduceAdd, Nat.reduceLT, ↓us_sl1Cur_calls, r_sl1Cur_calls, hs5]
      have qs := qs.mono (M := n + 10) (by omega)
      simp only [↓vsd, vsn, gW, qd, qv, ev, pick, argE, zipE, ne_eq, eq_self, forall_const, implies_true, if_true, if_false, reduceIte, reduceCtorEq, Nat.reduceEqDiff, Nat.reduceAdd, Nat.reduceLT, ↓us_sl1Cur_calls, r_sl1Cur_calls, qs.k.facts, fQg]
      refine m_st qs.res rfl (Nat.le_refl 2) (fQ_one _ _) ?_
      rintro wr hbr hur
      have hbr' : Blk wr b4 (fQ _ _) 46 := hbr
      have hlo := qs.lo
      simp only [↓vsd, vsn, gW, qd, qv, ev, pick, argE, zipE, ne_eq, eq_self, forall_const, implies_true, if_true, if_false, reduceIte, reduceCtorEq, Nat.reduceEqDiff, Nat.reduceAdd, Nat.reduceLT, ↓us_sl1Cur_calls, r_sl1Cur_calls, hbr'.facts, fQg]
      exact ⟨qs.cur.keep hur.grown (fun c hc => by have := Option.some.inj hc; omega), grown_new qs.gr hur.grown (fun c hc => by have := Option.some.inj hc; omega), _, _, rfl, by first | exact hp | exact hq | (obtain rfl | rfl | rfl | rfl : s = 4 ∨ s = 5 ∨ s = 6 ∨ s = 8 := by omega) <;> first | omega | decide, by first | exact hp | exact hq | (obtain rfl | rfl | rfl | rfl : s = 4 ∨ s = 5 ∨ s = 6 ∨ s = 8 := by omega) <;> first | omega | decide⟩
  · by_cases h5 : s = 5
    · have h5I : (s : Int) = 5 := by omega
      have h43 : (4 : Int) ≤ s := by omega
      have h2 : ¬ ((s % 2 : Nat) : Int) = 0 := by omega
      simp only [↓vsd, vsn, gW, qd, qv, ev, pick, argE, zipE, ne_eq, eq_self, forall_const, implies_true, if_true, if_false, reduceIte, reduceCtorEq, Nat.reduceEqDiff, Nat.reduceAdd, Nat.reduceLT, ↓us_sl1Cur_calls, r_sl1Cur_calls, h43, h2]
      refine ⟨by decide, ?_⟩
      simp only [↓vsd, vsn, gW, qd, qv, ev, pick, argE, zipE, ne_eq, eq_self, forall_const, implies_true, if_true, if_false, reduceIte, reduceCtorEq, Nat.reduceEqDiff, Nat.reduceAdd, Nat.reduceLT, ↓us_sl1Cur_calls, r_sl1Cur_calls, h5I]
      refine m_callw (.inl rfl) (sl1Cur_one_ok W b _ 4 (by omega) _ (by omega) qs.cur) ?_
      rintro _ w7 ⟨hc7, hg7, x, rfl⟩
      have qs := qs.draw hc7 hg7
      cases x
      · simp only [↓vsd, vsn, gW, qd, qv, ev, pick, argE, zipE, ne_eq, eq_self, forall_const, implies_true, if_true, if_false, reduceIte, reduceCtorEq, Nat.reduceEqDiff, Nat.reduceAdd, Nat.reduceLT, ↓us_sl1Cur_calls, r_sl1Cur_calls]
        refine m_st qs.k rfl (by decide : 0 + 1 ≤ 2) (fS_one _) ?_
        rintro w8 hblk8 hu8
        have qs := qs.put hu8 (show Blk w8 b6 (fQ [49, 52, 53] q) _ from hblk8)
        simp only [↓vsd, vsn, gW, qd, qv, ev, pick, argE, zipE, ne_eq, eq_self, forall_const, implies_true, if_true, if_false, reduceIte, reduceCtorEq, Nat.reduceEqDiff, Nat.reduceAdd, Nat.reduceLT, ↓us_sl1Cur_calls, r_sl1Cur_calls]
        refine m_st qs.k rfl (by decide : 1 + 1 ≤ 2) (fS_one _) ?_
        rintro w9 hblk9 hu9
        have qs := qs.put hu9 (show Blk w9 b6 (fQ [49, 52, 53] [49, 50, 51]) _ from hblk9)
        simp only [↓vsd, vsn, gW, qd, qv, ev, pick, argE, zipE, ne_eq, eq_self, forall_const, implies_true, if_true, if_false, reduceIte, reduceCtorEq, Nat.reduceEqDiff, Nat.reduceAdd, Nat.reduceLT, ↓us_sl1Cur_calls, r_sl1Cur_calls]
        have qs := qs.mono (M := n + 10) (by omega)
        simp only [↓vsd, vsn, gW, qd, qv, ev, pick, argE, zipE, ne_eq, eq_self, forall_const, implies_true, if_true, if_false, reduceIte, reduceCtorEq, Nat.reduceEqDiff, Nat.reduceAdd, Nat.reduceLT, ↓us_sl1Cur_calls, r_sl1Cur_calls, qs.k.facts, fQg]
        refine m_st qs.res rfl (Nat.le_refl 2) (fQ_one _ _) ?_
        rintro wr hbr hur
        have hbr' : Blk wr b4 (fQ _ _) 46 := hbr
        have hlo := qs.lo
        simp only [↓vsd, vsn, gW, qd, qv, ev, pick, argE, zipE, ne_eq, eq_self, forall_const, implies_true, if_true, if_false, reduceIte, reduceCtorEq, Nat.reduceEqDiff, Nat.reduceAdd, Nat.reduceLT, ↓us_sl1Cur_calls, r_sl1Cur_calls, hbr'.facts, fQg]
        exact ⟨qs.cur.keep hur.grown (fun c hc => by have := Option.some.inj hc; omega), grown_new qs.gr hur.grown (fun c hc => by have := Option.some.inj hc; omega), _, _, rfl, by first | exact hp | exact hq | (obtain rfl | rfl | rfl | rfl : s = 4 ∨ s = 5 ∨ s = 6 ∨ s = 8 := by omega) <;> first | omega | decide, by first | exact hp | exact hq | (obtain rfl | rfl | rfl | rfl : s = 4 ∨ s = 5 ∨ s = 6 ∨ s = 8 := by omega) <;> first | omega | decide⟩
      · simp only [↓vsd, vsn, gW, qd, qv, ev, pick, argE, zipE, ne_eq, eq_self, forall_const, implies_true, if_true, if_false, reduceIte, reduceCtorEq, Nat.reduceEqDiff, Nat.reduceAdd, Nat.reduceLT, ↓us_sl1Cur_calls, r_sl1Cur_calls]
        have qs := qs.mono (M := n + 10) (by omega)
        simp only [↓vsd, vsn, gW, qd, qv, ev, pick, argE, zipE, ne_eq, eq_self, forall_const, implies_true, if_true, if_false, reduceIte, reduceCtorEq, Nat.reduceEqDiff, Nat.reduceAdd, Nat.reduceLT, ↓us_sl1Cur_calls, r_sl1Cur_calls, qs.k.facts, fQg]
        refine m_st qs.res rfl (Nat.le_refl 2) (fQ_one _ _) ?_
        rintro wr hbr hur
        have hbr' : Blk wr b4 (fQ _ _) 46 := hbr
        have hlo := qs.lo
        simp only [↓vsd, vsn, gW, qd, qv, ev, pick, argE, zipE, ne_eq, eq_self, forall_const, implies_true, if_true, if_false, reduceIte, reduceCtorEq, Nat.reduceEqDiff, Nat.reduceAdd, Nat.reduceLT, ↓us_sl1Cur_calls, r_sl1Cur_calls, hbr'.facts, fQg]
        exact ⟨qs.cur.keep hur.grown (fun c hc => by have := Option.some.inj hc; omega), grown_new qs.gr hur.grown (fun c hc => by have := Option.some.inj hc; omega), _, _, rfl, by first | exact hp | exact hq | (obtain rfl | rfl | rfl | rfl : s = 4 ∨ s = 5 ∨ s = 6 ∨ s = 8 := by omega) <;> first | omega | decide, by first | exact hp | exact hq | (obtain rfl | rfl | rfl | rfl : s = 4 ∨ s = 5 ∨ s = 6 ∨ s = 8 := by omega) <;> first | omega | decide⟩
    · have hs5 : ¬ (s : Int) = 5 := by omega
      have hAd : (decide ((4 : Int) ≤ s) && decide (((s % 2 : Nat) : Int) = 0)) = false := by rw [← Bool.decide_and]; exact decide_eq_false (fun hh => hA ⟨by omega, by omega⟩)
      by_cases h43 : (4 : Int) ≤ s
      · have h2 : ¬ ((s % 2 : Nat) : Int) = 0 := fun hh => hA ⟨by omega, by omega⟩
        simp only [↓vsd, vsn, gW, qd, qv, ev, pick, argE, zipE, ne_eq, eq_self, forall_const, implies_true, if_true, if_false, reduceIte, reduceCtorEq, Nat.reduceEqDiff, Nat.reduceAdd, Nat.reduceLT, ↓us_sl1Cur_calls, r_sl1Cur_calls, h43, h2, hs5]
        refine ⟨by decide, ?_⟩
        have qs := qs.mono (M := n + 10) (by omega)
        simp only [↓vsd, vsn, gW, qd, qv, ev, pick, argE, zipE, ne_eq, eq_self, forall_const, implies_true, if_true, if_false, reduceIte, reduceCtorEq, Nat.reduceEqDiff, Nat.reduceAdd, Nat.reduceLT, ↓us_sl1Cur_calls, r_sl1Cur_calls, qs.k.facts, fQg]
        refine m_st qs.res rfl (Nat.le_refl 2) (fQ_one _ _) ?_
        rintro wr hbr hur
        have hbr' : Blk wr b4 (fQ _ _) 46 := hbr
        have hlo := qs.lo
        simp only [↓vsd, vsn, gW, qd, qv, ev, pick, argE, zipE, ne_eq, eq_self, forall_const, implies_true, if_true, if_false, reduceIte, reduceCtorEq, Nat.reduceEqDiff, Nat.reduceAdd, Nat.reduceLT, ↓us_sl1Cur_calls, r_sl1Cur_calls, hbr'.facts, fQg]
        exact ⟨qs.cur.keep hur.grown (fun c hc => by have := Option.some.inj hc; omega), grown_new qs.gr hur.grown (fun c hc => by have := Option.some.inj hc; omega), _, _, rfl, by first | exact hp | exact hq | (obtain rfl | rfl | rfl | rfl : s = 4 ∨ s = 5 ∨ s = 6 ∨ s = 8 := by omega) <;> first | omega | decide, by first | exact hp | exact hq | (obtain rfl | rfl | rfl | rfl : s = 4 ∨ s = 5 ∨ s = 6 ∨ s = 8 := by omega) <;> first | omega | decide⟩
      · simp only [↓vsd, vsn, gW, qd, qv, ev, pick, argE, zipE, ne_eq, eq_self, forall_const, implies_true, if_true, if_false, reduceIte, reduceCtorEq, Nat.reduceEqDiff, Nat.reduceAdd, Nat.reduceLT, ↓us_sl1Cur_calls, r_sl1Cur_calls, h43, hs5]
        have qs := qs.mono (M := n + 10) (by omega)
        simp only [↓vsd, vsn, gW, qd, qv, ev, pick, argE, zipE, ne_eq, eq_self, forall_const, implies_true, if_true, if_false, reduceIte, reduceCtorEq, Nat.reduceEqDiff, Nat.reduceAdd, Nat.reduceLT, ↓us_sl1Cur_calls, r_sl1Cur_calls, qs.k.facts, fQg]
        refine m_st qs.res rfl (Nat.le_refl 2) (fQ_one _ _) ?_
        rintro wr hbr hur
        have hbr' : Blk wr b4 (fQ _ _) 46 := hbr
        have hlo := qs.lo
        simp only [↓vsd, vsn, gW, qd, qv, ev, pick, argE, zipE, ne_eq, eq_self, forall_const, implies_true, if_true, if_false, reduceIte, reduceCtorEq, Nat.reduceEqDiff, Nat.reduceAdd, Nat.reduceLT, ↓us_sl1Cur_calls, r_sl1Cur_calls, hbr'.facts, fQg]
        exact ⟨qs.cur.keep hur.grown (fun c hc => by have := Option.some.inj hc; omega), grown_new qs.gr hur.grown (fun c hc => by have := Option.some.inj hc; omega), _, _, rfl, by first | exact hp | exact hq | (obtain rfl | rfl | rfl | rfl : s = 4 ∨ s = 5 ∨ s = 6 ∨ s = 8 := by omega) <;> first | omega | decide, by first | exact hp | exact hq | (obtain rfl | rfl | rfl | rfl : s = 4 ∨ s = 5 ∨ s = 6 ∨ s = 8 := by omega) <;> first | omega | decide⟩
theorem sl1Cur_calls_ok (W : World) (b n : Nat) (nm : List UInt8) (s : Nat) (v : Value) (hs : 3 ≤ s ∧ s ≤ 8) (w : World) (hn : n ≤ 700000000) (hc : Cur W b n w) : CurFn 87 [cV b, mV nm s v] W b n 10 w (fun r _ => ∃ p q, r = kV p q ∧ p.length ≤ 8 ∧ q.length ≤ 8) := by
  refine (sl1Cur_calls_okc W b n nm s v hs w hn hc).mono fun r w' ⟨h1, h2, p, q, e, hp, hq⟩ => ⟨h1, h2, p, q, e, ?_, ?_⟩
  · have := hp.len; omega
  · have := hq.len; omega
/-- The calls for a method that may be spoilt. -/
theorem sl1Cur_anyCalls_ok (W : World) (b n : Nat) (nm : List UInt8) (st : Int) (v : Value) (cs : List (List UInt8)) (hnm : nm.length ≤ 11) (hcs : cs.length ≤ 60) (hs : ∀ c ∈ cs, c.length ≤ 8) (w : World) (hn : n ≤ 700000000) (hc : Cur W b n w)
    (h : ∀ w', w.grownBy w' (some b) → Sq fS 1 w' v cs) : CurFn 59 [cV b, mV nm st v] W b n 20 w (fun r _ => ∃ p q, r = kV p q ∧ p.length ≤ 8 ∧ q.length ≤ 8) := by
  have hlt := hc.lt
  (refine callsV_of mix Try.func59 c_sl1Cur_anyCalls ?_; simp only [↓vsd, vsn, gW, qd, qv, ev, pick, argE, zipE, ne_eq, eq_self, forall_const, implies_true, if_true, if_false, reduceIte, reduceCtorEq, Nat.reduceEqDiff, Nat.reduceAdd, Nat.reduceLT, ↓us_sl1Cur_anyCalls, r_sl1Cur_anyCalls])
  refine m_al ?_
  rintro b3 w1 hb3 hblk3 hx1 hs1
  have h3 : Blk w1 b3 (fM nm st v) 44 := hblk3
  simp only [↓vsd, vsn, gW, qd, qv, ev, pick, argE, zipE, ne_eq, eq_self, forall_const, implies_true, if_true, if_false, reduceIte, reduceCtorEq, Nat.reduceEqDiff, Nat.reduceAdd, Nat.reduceLT, ↓us_sl1Cur_anyCalls, r_sl1Cur_anyCalls]
  refine m_al ?_
  rintro b4 w2 hb4 hblk4 hx2 hs2
  have h4 : Blk w2 b4 (fQ [] []) 46 := hblk4
  have h3 := h3.ext hx2
  have hx12 := hx1.trans hx2
  simp only [↓vsd, vsn, gW, qd, qv, ev, pick, argE, zipE, ne_eq, eq_self, forall_const, implies_true, if_true, if_false, reduceIte, reduceCtorEq, Nat.reduceEqDiff, Nat.reduceAdd, Nat.reduceLT, ↓us_sl1Cur_anyCalls, r_sl1Cur_anyCalls, h3.facts, fMg]
  refine m_call (sl4Good_ok nm st v cs (by omega) (fun c hc => by have := hs c hc; omega) (by omega) _ (h _ (grown_ext _ hx12))) ?_
  rintro _ w3 hx3 rfl
  have hx13 := hx12.trans hx3
  have h3 := h3.ext hx3
  have h4 := h4.ext hx3
  have hc3 := hc.ext hx13
  by_cases hm : IsMethod nm st cs
  · obtain ⟨s, rfl⟩ : ∃ s : Nat, st = s := ⟨st.toNat, by have := hm.2.1; omega⟩
    simp only [↓vsd, vsn, gW, qd, qv, ev, pick, argE, zipE, ne_eq, eq_self, forall_const, implies_true, if_true, if_false, reduceIte, reduceCtorEq, Nat.reduceEqDiff, Nat.reduceAdd, Nat.reduceLT, ↓us_sl1Cur_anyCalls, r_sl1Cur_anyCalls, hm, h3.facts, fMg]
    refine m_callw (.inl rfl) (sl1Cur_calls_ok W b _ nm s v (by have := hm.2.1; omega) _ (by omega) hc3) ?_
    rintro _ w4 ⟨hc4, hg4, p, q, rfl, hp8, hq8⟩
    simp only [↓vsd, vsn, gW, qd, qv, ev, pick, argE, zipE, ne_eq, eq_self, forall_const, implies_true, if_true, if_false, reduceIte, reduceCtorEq, Nat.reduceEqDiff, Nat.reduceAdd, Nat.reduceLT, ↓us_sl1Cur_anyCalls, r_sl1Cur_anyCalls]
    refine m_al ?_
    rintro b6 w5 hb6 hblk6 hx5 hs5
    simp only [↓vsd, vsn, gW, qd, qv, ev, pick, argE, zipE, ne_eq, eq_self, forall_const, implies_true, if_true, if_false, reduceIte, reduceCtorEq, Nat.reduceEqDiff, Nat.reduceAdd, Nat.reduceLT, ↓us_sl1Cur_anyCalls, r_sl1Cur_anyCalls]
    refine m_st hblk6 rfl (Nat.le_refl 2) (fQ_one _ _) ?_
    rintro w6 hblk6' hu6
    have hsz := hg4.size
    have hl3 := h3.lt
    have hl4 := h4.lt
    have h3' := (h3.same (hg4.block b3 h3.lt (fun e => by have := Option.some.inj e; omega))).ext hx5
    have h4' := (h4.same (hg4.block b4 h4.lt (fun e => by have := Option.some.inj e; have := hx1.size; omega))).ext hx5
    have qs : QT W b (n + 10) w b3 b4 b6 (fM nm s v) p q w6 := ⟨((hc4.ext hx5).keep hu6.grown (fun c hc => by have := Option.some.inj hc; have := hx13.size; omega)).mono (by omega), hu6.blk h3' (by omega), hu6.blk h4' (by omega), hblk6', grown_new (grown_trans (grown_trans (grown_ext _ hx13) hg4) (grown_ext _ hx5)) hu6.grown (fun c hc => by have := Option.some.inj hc; have := hx13.size; omega), by omega⟩
    simp only [↓vsd, vsn, gW, qd, qv, ev, pick, argE, zipE, ne_eq, eq_self, forall_const, implies_true, if_true, if_false, reduceIte, reduceCtorEq, Nat.reduceEqDiff, Nat.reduceAdd, Nat.reduceLT, ↓us_sl1Cur_anyCalls, r_sl1Cur_anyCalls]
    refine m_callw (.inl rfl) (sl1Cur_one_ok W b _ 16 (by omega) _ (by omega) qs.cur) ?_
    rintro _ w7 ⟨hc7, hg7, x, rfl⟩
    have qs := qs.draw hc7 hg7
    cases x
    · simp only [↓vsd, vsn, gW, qd, qv, ev, pick, argE, zipE, ne_eq, eq_self, forall_const, implies_true, if_true, if_false, reduceIte, reduceCtorEq, Nat.reduceEqDiff, Nat.reduceAdd, Nat.reduceLT, ↓us_sl1Cur_anyCalls, r_sl1Cur_anyCalls, qs.k.facts, fQg]
      refine m_st qs.res rfl (Nat.le_refl 2) (fQ_one _ _) ?_
      rintro wr hbr hur
      have hbr' : Blk wr b4 (fQ _ _) 46 := hbr
      simp only [↓vsd, vsn, gW, qd, qv, ev, pick, argE, zipE, ne_eq, eq_self, forall_const, implies_true, if_true, if_false, reduceIte, reduceCtorEq, Nat.reduceEqDiff, Nat.reduceAdd, Nat.reduceLT, ↓us_sl1Cur_anyCalls, r_sl1Cur_anyCalls, hbr'.facts, fQg]
      have hlo := qs.lo
      exact ⟨(qs.cur.keep hur.grown (fun c hc => by have := Option.some.inj hc; omega)).mono (by omega), grown_new qs.gr hur.grown (fun c hc => by have := Option.some.inj hc; omega), _, _, rfl, hp8, hq8⟩
    · simp only [↓vsd, vsn, gW, qd, qv, ev, pick, argE, zipE, ne_eq, eq_self, forall_const, implies_true, if_true, if_false, reduceIte, reduceCtorEq, Nat.reduceEqDiff, Nat.reduceAdd, Nat.reduceLT, ↓us_sl1Cur_anyCalls, r_sl1Cur_anyCalls]
      refine m_bsl (by simp [S]; repeat' constructor) ?_
      rintro b8 w8 hb8 hblk8 hx8 hs8
      have qs := qs.ext hx8
      simp only [↓vsd, vsn, gW, qd, qv, ev, pick, argE, zipE, ne_eq, eq_self, forall_const, implies_true, if_true, if_false, reduceIte, reduceCtorEq, Nat.reduceEqDiff, Nat.reduceAdd, Nat.reduceLT, ↓us_sl1Cur_anyCalls, r_sl1Cur_anyCalls]
      have hcl := qs.cur.lt
      refine m_callw (by first | exact .inl rfl | exact .inr rfl) (sl1Cur_of_ok W b _ _ [[], [120], [49], [49, 51], [57, 57]] w8 (by omega) (by decide) qs.cur (Sq.litC _ _ fS_len hblk8 rfl rfl (by have := hg7.size; have := hx5.size; have := hu6.size; have := hx13.size; omega))) ?_
      rintro _ w9 ⟨hc9, hg9, x, rfl, hx⟩
      have hx8' : x.length ≤ 8 := by simp only [List.mem_cons, List.not_mem_nil, or_false] at hx; rcases hx with rfl | rfl | rfl | rfl | rfl <;> decide
      have qs := qs.draw hc9 hg9
      simp only [↓vsd, vsn, gW, qd, qv, ev, pick, argE, zipE, ne_eq, eq_self, forall_const, implies_true, if_true, if_false, reduceIte, reduceCtorEq, Nat.reduceEqDiff, Nat.reduceAdd, Nat.reduceLT, ↓us_sl1Cur_anyCalls, r_sl1Cur_anyCalls]
      refine m_st qs.k rfl (by decide : 0 + 1 ≤ 2) (fS_one _) ?_
      rintro w10 hblk10 hu10
      have qs := qs.put hu10 (show Blk w10 b6 (fQ x q) _ from hblk10)
      simp only [↓vsd, vsn, gW, qd, qv, ev, pick, argE, zipE, ne_eq, eq_self, forall_const, implies_true, if_true, if_false, reduceIte, reduceCtorEq, Nat.reduceEqDiff, Nat.reduceAdd, Nat.reduceLT, ↓us_sl1Cur_anyCalls, r_sl1Cur_anyCalls, qs.k.facts, fQg]
      refine m_st qs.res rfl (Nat.le_refl 2) (fQ_one _ _) ?_
      rintro wr hbr hur
      have hbr' : Blk wr b4 (fQ _ _) 46 := hbr
      simp only [↓vsd, vsn, gW, qd, qv, ev, pick, argE, zipE, ne_eq, eq_self, forall_const, implies_true, if_true, if_false, reduceIte, reduceCtorEq, Nat.reduceEqDiff, Nat.reduceAdd, Nat.reduceLT, ↓us_sl1Cur_anyCalls, r_sl1Cur_anyCalls, hbr'.facts, fQg]
      have hlo := qs.lo
      exact ⟨(qs.cur.keep hur.grown (fun c hc => by have := Option.some.inj hc; omega)).mono (by omega), grown_new qs.gr hur.grown (fun c hc => by have := Option.some.inj hc; omega), _, _, rfl, hx8', hq8⟩
  · simp only [↓vsd, vsn, gW, qd, qv, ev, pick, argE, zipE, ne_eq, eq_self, forall_const, implies_true, if_true, if_false, reduceIte, reduceCtorEq, Nat.reduceEqDiff, Nat.reduceAdd, Nat.reduceLT, ↓us_sl1Cur_anyCalls, r_sl1Cur_anyCalls, hm]
    refine m_st h4 rfl (Nat.le_refl 2) (fQ_one [49, 52] [49, 50, 51, 52]) ?_
    rintro wr hbr hur
    have hbr' : Blk wr b4 (fQ _ _) 46 := hbr
    simp only [↓vsd, vsn, gW, qd, qv, ev, pick, argE, zipE, ne_eq, eq_self, forall_const, implies_true, if_true, if_false, reduceIte, reduceCtorEq, Nat.reduceEqDiff, Nat.reduceAdd, Nat.reduceLT, ↓us_sl1Cur_anyCalls, r_sl1Cur_anyCalls, hbr'.facts, fQg]
    exact ⟨(hc3.keep hur.grown (fun c hc => by have := Option.some.inj hc; have := hx1.size; omega)).mono (by omega), grown_new (grown_ext _ hx13) hur.grown (fun c hc => by have := Option.some.inj hc; have := hx1.size; omega), _, _, rfl, by decide, by decide⟩
end Go.Proofs.Ytfklonhjgkahdaa
