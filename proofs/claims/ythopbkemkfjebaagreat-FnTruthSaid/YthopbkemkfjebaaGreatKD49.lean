/-
  The draws for truth by lead heads.
  Conditions: none.
-/
import Derived.Test.YthopbkemkfjebaaGreatKA86
import Derived.Test.YthopbkemkfjebaaGreatKD15
import Derived.Test.YthopbkemkfjebaaGreatKD23
set_option linter.unusedSimpArgs false
set_option linter.unusedVariables false
set_option linter.defProp false
namespace Go.Proofs.YthopbkemkfjebaaGreat
open Go Go.RowKit
section
variable (P : Program) (k : KT) (e : Env) (w : World)
abbrev b6_1 : X := (.seq (.reg [2, 3, 4] (.c (.q 5 [] (.mv (.t 0))) (.c (.e (some 6) [] (.call false 19 [(.t 5)])) (.c (.q 7 [] (.ext 0 (.t 6))) (.c (.q 8 [] (.ext 1 (.t 6))) (.c (.q 9 [] (.ext 2 (.t 6))) (.c (.e none [] (.st 3 (.t 2) (.t 7))) (.c (.e none [] (.st 2 (.t 3) (.t 8))) (.c (.q 4 [] (.mv (.t 9))) .nil))))))))) .ret)
def t6_1 := b6_1
theorem u6_1 : vcK P t6_1 k e w = vcK P b6_1 k e w := rfl
abbrev b6_0 : X := (.seq (.reg [0, 2, 3] (.c (.e (some 2) [] (.al 25 [(S []), (.int .i64 0), (.slice none 0 0)])) (.c (.e (some 3) [] (.al 27 [(S []), (S [])])) (.c (.q 4 [] (.mv (.s []))) .nil)))) t6_1)
def x_sDrawTrueByHeads := b6_0
theorem u6_0 : vcK P x_sDrawTrueByHeads k e w = vcK P b6_0 k e w := rfl
def r_sDrawTrueByHeads : List XO := [(.lda 3 (.t 2)), (.lda 2 (.t 3)), (.mv (.t 4))]
theorem c_sDrawTrueByHeads : convF Tryz.prog [56, 58, 59, 60, 61, 62, 72, 73, 77, 97, 98, 109, 110, 111, 112, 115, 128, 136] Tryz.f6 [([0, 2, 3], []), ([2, 3, 4], [])] = some (x_sDrawTrueByHeads, r_sDrawTrueByHeads) := by kernel_rfl
def us_sDrawTrueByHeads :=  (aI @u6_0 @u6_1)
abbrev b11_1 : X := (.cond (.t 15) (.seq (.reg [2, 3] (.c (.q 16 [] (.lda 3 (.t 5))) (.c (.e (some 17) [] (.bsl 9 1 [(.s [49, 50, 51, 52])])) (.c (.e none [] (.st 3 (.t 2) (.t 16))) (.c (.q 3 [] (.mv (.t 17))) .nil))))) .ret) .skip)
def t11_1 := b11_1
theorem u11_1 : vcK P t11_1 k e w = vcK P b11_1 k e w := rfl
abbrev b11_2 : X := (.cond (.t 19) (.seq (.drw [2, 3] (.c (.q 22 [] (.mv (.t 4))) (.c (.q 23 [] (.lda 3 (.t 5))) (.c (.q 25 [] (.mv (.t 4))) (.alt (.c (.p 20 [] (.lda 3 (.t 5))) (.alt (.c (.p 21 [] (.lda 3 (.t 5))) (.c (.e (some 24) [] (.call true 59 [(.t 22), (.t 23)])) (.c (.e (some 26) [] (.call true 60 [(.t 25), (.c (.int .i64 9))])) (.c (.e (some 27) [] (.call false 55 [(.t 21), (.t 24), (.t 26)])) (.c (.e none [] (.st 3 (.t 2) (.t 20))) (.c (.q 3 [] (.mv (.t 27))) .nil)))))) (.c (.e (some 24) [] (.call true 59 [(.t 22), (.t 23)])) (.alt (.c (.p 21 [] (.lda 3 (.t 5))) (.c (.e (some 26) [] (.call true 60 [(.t 25), (.c (.int .i64 9))])) (.c (.e (some 27) [] (.call false 55 [(.t 21), (.t 24), (.t 26)])) (.c (.e none [] (.st 3 (.t 2) (.t 20))) (.c (.q 3 [] (.mv (.t 27))) .nil))))) (.c (.e (some 26) [] (.call true 60 [(.t 25), (.c (.int .i64 9))])) (.c (.p 21 [] (.lda 3 (.t 5))) (.c (.e (some 27) [] (.call false 55 [(.t 21), (.t 24), (.t 26)])) (.c (.e none [] (.st 3 (.t 2) (.t 20))) (.c (.q 3 [] (.mv (.t 27))) .nil))))))))) (.alt (.c (.p 21 [] (.lda 3 (.t 5))) (.alt (.c (.p 20 [] (.lda 3 (.t 5))) (.c (.e (some 24) [] (.call true 59 [(.t 22), (.t 23)])) (.c (.e (some 26) [] (.call true 60 [(.t 25), (.c (.int .i64 9))])) (.c (.e (some 27) [] (.call false 55 [(.t 21), (.t 24), (.t 26)])) (.c (.e none [] (.st 3 (.t 2) (.t 20))) (.c (.q 3 [] (.mv (.t 27))) .nil)))))) (.c (.e (some 24) [] (.call true 59 [(.t 22), (.t 23)])) (.alt (.c (.p 20 [] (.lda 3 (.t 5))) (.c (.e (some 26) [] (.call true 60 [(.t 25), (.c (.int .i64 9))])) (.c (.e (some 27) [] (.call false 55 [(.t 21), (.t 24), (.t 26)])) (.c (.e none [] (.st 3 (.t 2) (.t 20))) (.c (.q 3 [] (.mv (.t 27))) .nil))))) (.c (.e (some 26) [] (.call true 60 [(.t 25), (.c (.int .i64 9))])) (.alt (.c (.p 20 [] (.lda 3 (.t 5))) (.c (.e (some 27) [] (.call false 55 [(.t 21), (.t 24), (.t 26)])) (.c (.e none [] (.st 3 (.t 2) (.t 20))) (.c (.q 3 [] (.mv (.t 27))) .nil)))) (.c (.e (some 27) [] (.call false 55 [(.t 21), (.t 24), (.t 26)])) (.c (.p 20 [] (.lda 3 (.t 5))) (.c (.e none [] (.st 3 (.t 2) (.t 20))) (.c (.q 3 [] (.mv (.t 27))) .nil)))))))))) (.c (.e (some 24) [] (.call true 59 [(.t 22), (.t 23)])) (.alt (.c (.p 20 [] (.lda 3 (.t 5))) (.alt (.c (.p 21 [] (.lda 3 (.t 5))) (.c (.e (some 26) [] (.call true 60 [(.t 25), (.c (.int .i64 9))])) (.c (.e (some 27) [] (.call false 55 [(.t 21), (.t 24), (.t 26)])) (.c (.e none [] (.st 3 (.t 2) (.t 20))) (.c (.q 3 [] (.mv (.t 27))) .nil))))) (.c (.e (some 26) [] (.call true 60 [(.t 25), (.c (.int .i64 9))])) (.c (.p 21 [] (.lda 3 (.t 5))) (.c (.e (some 27) [] (.call false 55 [(.t 21), (.t 24), (.t 26)])) (.c (.e none [] (.st 3 (.t 2) (.t 20))) (.c (.q 3 [] (.mv (.t 27))) .nil))))))) (.alt (.c (.p 21 [] (.lda 3 (.t 5))) (.alt (.c (.p 20 [] (.lda 3 (.t 5))) (.c (.e (some 26) [] (.call true 60 [(.t 25), (.c (.int .i64 9))])) (.c (.e (some 27) [] (.call false 55 [(.t 21), (.t 24), (.t 26)])) (.c (.e none [] (.st 3 (.t 2) (.t 20))) (.c (.q 3 [] (.mv (.t 27))) .nil))))) (.c (.e (some 26) [] (.call true 60 [(.t 25), (.c (.int .i64 9))])) (.alt (.c (.p 20 [] (.lda 3 (.t 5))) (.c (.e (some 27) [] (.call false 55 [(.t 21), (.t 24), (.t 26)])) (.c (.e none [] (.st 3 (.t 2) (.t 20))) (.c (.q 3 [] (.mv (.t 27))) .nil)))) (.c (.e (some 27) [] (.call false 55 [(.t 21), (.t 24), (.t 26)])) (.c (.p 20 [] (.lda 3 (.t 5))) (.c (.e none [] (.st 3 (.t 2) (.t 20))) (.c (.q 3 [] (.mv (.t 27))) .nil)))))))) (.c (.e (some 26) [] (.call true 60 [(.t 25), (.c (.int .i64 9))])) (.alt (.c (.p 20 [] (.lda 3 (.t 5))) (.c (.p 21 [] (.lda 3 (.t 5))) (.c (.e (some 27) [] (.call false 55 [(.t 21), (.t 24), (.t 26)])) (.c (.e none [] (.st 3 (.t 2) (.t 20))) (.c (.q 3 [] (.mv (.t 27))) .nil))))) (.c (.p 21 [] (.lda 3 (.t 5))) (.alt (.c (.p 20 [] (.lda 3 (.t 5))) (.c (.e (some 27) [] (.call false 55 [(.t 21), (.t 24), (.t 26)])) (.c (.e none [] (.st 3 (.t 2) (.t 20))) (.c (.q 3 [] (.mv (.t 27))) .nil)))) (.c (.e (some 27) [] (.call false 55 [(.t 21), (.t 24), (.t 26)])) (.c (.p 20 [] (.lda 3 (.t 5))) (.c (.e none [] (.st 3 (.t 2) (.t 20))) (.c (.q 3 [] (.mv (.t 27))) .nil))))))))))))))))) .ret) .skip)
def t11_2 := b11_2
theorem u11_2 : vcK P t11_2 k e w = vcK P b11_2 k e w := rfl
abbrev b11_3 : X := (.cond (.t 31) .skip (.exit 0))
def t11_3 := b11_3
theorem u11_3 : vcK P t11_3 k e w = vcK P b11_3 k e w := rfl
abbrev b11_4 : X := (.reg [2, 4, 5, 6, 7] (.c (.q 32 [] (.mv (.t 7))) (.c (.q 33 [] (.bin .sub (.t 32) (.c (.int .i64 1)))) (.c (.q 7 [] (.mv (.t 33))) .nil))))
def t11_4 := b11_4
theorem u11_4 : vcK P t11_4 k e w = vcK P b11_4 k e w := rfl
abbrev b11_5 : X := (.seq (.blk 1 (.reg [2, 4, 5, 6, 7] (.c (.q 34 [] (.mv (.t 6))) (.c (.q 35 [] (.mv (.t 4))) (.c (.q 36 [] (.fa 1 (.t 5))) (.c (.q 37 [] (.ld (.t 36))) (.c (.e (some 38) [] (.call true 62 [(.t 35), (.t 37)])) (.c (.e (some 39) [] (.bsl 9 1 [(.t 38)])) (.c (.e (some 40) [] (.app 23 9 1 16 [(S [])] 23 (.t 34) (.t 39))) (.c (.q 6 [] (.mv (.t 40))) .nil)))))))))) t11_4)
def t11_5 := b11_5
theorem u11_5 : vcK P t11_5 k e w = vcK P b11_5 k e w := rfl
abbrev b11_6 : X := (.seq (.seq (.reg [2, 4, 5, 6, 7, 31] (.c (.q 30 [] (.mv (.t 7))) (.c (.q 31 [] (.bin .gtr (.t 30) (.c (.int .i64 0)))) .nil))) t11_3) t11_5)
def t11_6 := b11_6
theorem u11_6 : vcK P t11_6 k e w = vcK P b11_6 k e w := rfl
abbrev b11_7 : X := (.blk 0 (.loop [6, 7] [2, 4, 5] t11_6))
def t11_7 := b11_7
theorem u11_7 : vcK P t11_7 k e w = vcK P b11_7 k e w := rfl
abbrev b11_8 : X := (.seq (.reg [2, 3] (.c (.q 41 [] (.lda 3 (.t 5))) (.c (.q 42 [] (.mv (.t 6))) (.c (.e none [] (.st 3 (.t 2) (.t 41))) (.c (.q 3 [] (.mv (.t 42))) .nil))))) .ret)
def t11_8 := b11_8
theorem u11_8 : vcK P t11_8 k e w = vcK P b11_8 k e w := rfl
abbrev b11_9 : X := (.seq (.seq (.reg [2, 4, 5, 6, 7] (.c (.q 28 [] (.mv (.t 4))) (.c (.e (some 29) [] (.call true 61 [(.t 28), (.c (.int .i64 7))])) (.c (.q 7 [] (.mv (.t 29))) .nil)))) t11_7) t11_8)
def t11_9 := b11_9
theorem u11_9 : vcK P t11_9 k e w = vcK P b11_9 k e w := rfl
abbrev b11_10 : X := (.seq (.reg [2, 4, 5, 6] (.c (.q 6 [] (.mv (.c (.slice none 0 0)))) .nil)) t11_9)
def t11_10 := b11_10
theorem u11_10 : vcK P t11_10 k e w = vcK P b11_10 k e w := rfl
abbrev b11_11 : X := (.seq (.seq (.reg [2, 4, 5, 19] (.c (.q 18 [] (.mv (.t 4))) (.c (.e (some 19) [] (.call true 58 [(.t 18), (.c (.int .i64 2))])) .nil))) t11_2) t11_10)
def t11_11 := b11_11
theorem u11_11 : vcK P t11_11 k e w = vcK P b11_11 k e w := rfl
abbrev b11_12 : X := (.seq (.seq (.reg [2, 4, 5, 15] (.c (.q 13 [] (.lda 3 (.t 5))) (.c (.e (some 14) [] (.call false 57 [(.t 13)])) (.c (.q 15 [] (.not (.t 14))) .nil)))) t11_1) t11_11)
def t11_12 := b11_12
theorem u11_12 : vcK P t11_12 k e w = vcK P b11_12 k e w := rfl
abbrev b11_13 : X := (.seq (.reg [2, 4, 5] (.c (.q 11 [] (.mv (.t 4))) (.c (.e (some 12) [] (.call true 56 [(.t 11)])) (.c (.e (some 5) [] (.al 25 [(S []), (.int .i64 0), (.slice none 0 0)])) (.c (.e none [] (.st 3 (.t 5) (.t 12))) .nil))))) t11_12)
def t11_13 := b11_13
theorem u11_13 : vcK P t11_13 k e w = vcK P b11_13 k e w := rfl
abbrev b11_14 : X := (.seq (.reg [2, 4] (.c (.q 8 [] (.mv (.t 0))) (.c (.q 9 [] (.bld [(.slice none 0 0), (.int .i64 0), (.int .u64 0)] [(0, 0, (.t 8))])) (.c (.e (some 10) [] (.box 78 (.t 9))) (.c (.q 4 [] (.mv (.t 10))) .nil))))) t11_13)
def t11_14 := b11_14
theorem u11_14 : vcK P t11_14 k e w = vcK P b11_14 k e w := rfl
abbrev b11_0 : X := (.seq (.reg [0, 2] (.c (.e (some 2) [] (.al 25 [(S []), (.int .i64 0), (.slice none 0 0)])) (.c (.q 3 [] (.mv (.c (.slice none 0 0)))) .nil))) t11_14)
def x_sDrawClashesIn := b11_0
theorem u11_0 : vcK P x_sDrawClashesIn k e w = vcK P b11_0 k e w := rfl
def r_sDrawClashesIn : List XO := [(.lda 3 (.t 2)), (.mv (.t 3))]
theorem c_sDrawClashesIn : convF Tryz.prog [56, 58, 59, 60, 61, 62, 72, 73, 77, 97, 98, 109, 110, 111, 112, 115, 128, 136] Tryz.f11 [([0, 2], []), ([2, 4], []), ([2, 4, 5], []), ([2, 4, 5, 15], []), ([2, 3], []), ([2, 4, 5, 19], []), ([2, 3], []), ([2, 4, 5, 6], []), ([2, 4, 5, 6, 7], []), ([6, 7], [2, 4, 5]), ([2, 4, 5, 6, 7, 31], []), ([2, 4, 5, 6, 7], []), ([2, 4, 5, 6, 7], []), ([2, 3], [])] = some (x_sDrawClashesIn, r_sDrawClashesIn) := by kernel_rfl
def us_sDrawClashesIn :=  (aI (aI (aI @u11_0 (aI @u11_1 @u11_2)) (aI (aI @u11_3 @u11_4) (aI @u11_5 @u11_6))) (aI (aI (aI @u11_7 @u11_8) (aI @u11_9 @u11_10)) (aI (aI @u11_11 @u11_12) (aI @u11_13 @u11_14))))
end
theorem sDrawTrueByHeads_ok (v : Value) (code : List UInt8) (hl : code.length ≤ 1048576) (w : World) (h : Sq fU 1 w v code) : Fn 6 [v] w (fun r w' => AnyT w.heap.size r w') := by
  (refine callsV_of mix Tryz.func6 c_sDrawTrueByHeads ?_; simp only [↓vsd, vsn, gW, qd, qv, ev, pick, argE, zipE, ne_eq, eq_self, forall_const, implies_true, if_true, if_false, reduceIte, reduceCtorEq, Nat.reduceEqDiff, Nat.reduceAdd, Nat.reduceLT, ↓us_sDrawTrueByHeads, r_sDrawTrueByHeads])
  refine m_al ?_
  rintro b2 w2 hb2 hblk2 hx2 hs2
  simp only [↓vsd, vsn, gW, qd, qv, ev, pick, argE, zipE, ne_eq, eq_self, forall_const, implies_true, if_true, if_false, reduceIte, reduceCtorEq, Nat.reduceEqDiff, Nat.reduceAdd, Nat.reduceLT, ↓us_sDrawTrueByHeads, r_sDrawTrueByHeads]
  refine m_al ?_
  rintro b3 w3 hb3 hblk3 hx3 hs3
  have hx13 := hx2.trans hx3
  simp only [↓vsd, vsn, gW, qd, qv, ev, pick, argE, zipE, ne_eq, eq_self, forall_const, implies_true, if_true, if_false, reduceIte, reduceCtorEq, Nat.reduceEqDiff, Nat.reduceAdd, Nat.reduceLT, ↓us_sDrawTrueByHeads, r_sDrawTrueByHeads]
  refine m_call (sDrawTouchHeads_ok v code hl _ (h.ext hx13)) ?_
  rintro _ w4 hx4 ⟨nm, st, x, cs, p, q, t, rfl, ho, hr⟩
  simp only [↓vsd, vsn, gW, qd, qv, ev, pick, argE, zipE, ne_eq, eq_self, forall_const, implies_true, if_true, if_false, reduceIte, reduceCtorEq, Nat.reduceEqDiff, Nat.reduceAdd, Nat.reduceLT, ↓us_sDrawTrueByHeads, r_sDrawTrueByHeads]
  refine m_st (Blk.ext (Blk.ext hblk2 hx3) hx4) rfl (Nat.le_refl 3) (fM_one nm st x ho.sq.one') ?_
  rintro w5 hblk5 hu5
  have hb5 : Blk w5 b2 (fM nm st x) 25 := hblk5
  simp only [↓vsd, vsn, gW, qd, qv, ev, pick, argE, zipE, ne_eq, eq_self, forall_const, implies_true, if_true, if_false, reduceIte, reduceCtorEq, Nat.reduceEqDiff, Nat.reduceAdd, Nat.reduceLT, ↓us_sDrawTrueByHeads, r_sDrawTrueByHeads]
  refine m_st (hu5.blk (Blk.ext hblk3 hx4) (by omega)) rfl (Nat.le_refl 2) (fQ_one p q) ?_
  rintro w6 hblk6 hu6
  have hb6 : Blk w6 b3 (fQ p q) 27 := hblk6
  have hb56 := hu6.blk hb5 (by omega)
  simp only [↓vsd, vsn, gW, qd, qv, ev, pick, argE, zipE, ne_eq, eq_self, forall_const, implies_true, if_true, if_false, reduceIte, reduceCtorEq, Nat.reduceEqDiff, Nat.reduceAdd, Nat.reduceLT, ↓us_sDrawTrueByHeads, r_sDrawTrueByHeads, hb56.facts, hb6.facts, fMg, fQg]
  have hsz := hx4.size
  exact ⟨hu6.below (hu5.below (hx13.trans hx4) (by omega)) (by omega), nm, st, x, cs, p, q, t, rfl, ((ho.upd hu5 (ho.away' (by omega))).upd hu6 (ho.away' (by omega))).mono hx13.size, hr⟩
/-- A method, perhaps spoilt, and some heads. -/
def AnyH (r : Value) (w' : World) : Prop := ∃ nm st x cs y l, r = .tuple ⟨[mV nm st x, y]⟩ ∧ Sq fS 1 w' x cs ∧ Sq fS 1 w' y l ∧ nm.length ≤ 11 ∧ cs.length ≤ 60 ∧ (∀ c ∈ cs, c.length ≤ 8) ∧ l.length ≤ 1000
/-- The blocks of such a drawing. -/
structure HT (w w0 : World) (b0 b b3 B N : Nat) (c0 cm : List Value) (x : Value) (cs : List Bs) (u : World) : Prop where
  cur : Cur w0 b N u
  r0 : Blk u b0 c0 25
  m : Blk u b3 cm 25
  own : Own fS 1 9 B u x cs
  ex : Ext w u
  lo : w.heap.size ≤ b0 ∧ b0 < b ∧ b < B ∧ B ≤ b3
section
variable {w w0 : World} {b0 b b3 B N : Nat} {c0 cm c' : List Value} {x : Value} {cs : List Bs} {u u' : World}
theorem HT.draw {M : Nat} (h : HT w w0 b0 b b3 B N c0 cm x cs u) (hc : Cur w0 b M u') (hg : u.grownBy u' (some b)) : HT w w0 b0 b b3 B M c0 cm x cs u' := by
  have hl := h.lo
  have key : ∀ c, c ≠ b → c < u.heap.size → u'.heap[c]? = u.heap[c]? := fun c hc hlt => hg.block c hlt (fun e => hc (Option.some.inj e))
  exact ⟨hc, h.r0.same (key _ (by omega) h.r0.lt), h.m.same (key _ (by omega) h.m.lt), h.own.keep hg (fun c hc => by have := Option.some.inj hc; omega), ext_grow' h.ex hg (fun c hc => by have := Option.some.inj hc; omega), hl⟩
theorem HT.ext (h : HT w w0 b0 b b3 B N c0 cm x cs u) (hx : Ext u u') : HT w w0 b0 b b3 B N c0 cm x cs u' := by
  exact ⟨h.cur.ext hx, h.r0.ext hx, h.m.ext hx, h.own.ext hx, h.ex.trans hx, h.lo⟩
end
set_option maxHeartbeats 1000000 in
theorem sDrawClashesIn_ok (v : Value) (code : List UInt8) (hl : code.length ≤ 1048576) (w : World) (h : Sq fU 1 w v code) : Fn 11 [v] w (fun r w' => AnyH r w') := by
  (refine callsV_of mix Tryz.func11 c_sDrawClashesIn ?_; simp only [↓vsd, vsn, gW, qd, qv, ev, pick, argE, zipE, ne_eq, eq_self, forall_const, implies_true, if_true, if_false, reduceIte, reduceCtorEq, Nat.reduceEqDiff, Nat.reduceAdd, Nat.reduceLT, ↓us_sDrawClashesIn, r_sDrawClashesIn])
  refine m_al ?_
  rintro b0 w0 hb0 hblk0 hx0 hs0
  have h0 := h.ext hx0
  simp only [↓vsd, vsn, gW, qd, qv, ev, pick, argE, zipE, ne_eq, eq_self, forall_const, implies_true, if_true, if_false, reduceIte, reduceCtorEq, Nat.reduceEqDiff, Nat.reduceAdd, Nat.reduceLT, ↓us_sDrawClashesIn, r_sDrawClashesIn, h0.facts]
  refine m_al ?_
  rintro b w1 hb hblk hx1 hs1
  have hc := Cur.new h0 hl hb hblk hx1
  simp only [↓vsd, vsn, gW, qd, qv, ev, pick, argE, zipE, ne_eq, eq_self, forall_const, implies_true, if_true, if_false, reduceIte, reduceCtorEq, Nat.reduceEqDiff, Nat.reduceAdd, Nat.reduceLT, ↓us_sDrawClashesIn, r_sDrawClashesIn]
  refine m_callw (.inl rfl) (sl1Cur_anyMethod_ok w0 b _ w1 (by omega) hc) ?_
  rintro _ w2 ⟨hc2, hg2, nm, st, x, cs, rfl, ho2, hnm, hst, hcs, hc8⟩
  have hb02 := (hblk0.ext hx1).same (hg2.block b0 (hblk0.ext hx1).lt (fun e => by have := Option.some.inj e; omega))
  simp only [↓vsd, vsn, gW, qd, qv, ev, pick, argE, zipE, ne_eq, eq_self, forall_const, implies_true, if_true, if_false, reduceIte, reduceCtorEq, Nat.reduceEqDiff, Nat.reduceAdd, Nat.reduceLT, ↓us_sDrawClashesIn, r_sDrawClashesIn]
  refine m_al ?_
  rintro b3 w3 hb3 hblk3 hx3 hs3
  simp only [↓vsd, vsn, gW, qd, qv, ev, pick, argE, zipE, ne_eq, eq_self, forall_const, implies_true, if_true, if_false, reduceIte, reduceCtorEq, Nat.reduceEqDiff, Nat.reduceAdd, Nat.reduceLT, ↓us_sDrawClashesIn, r_sDrawClashesIn]
  refine m_st hblk3 rfl (Nat.le_refl 3) (fM_one nm st x ho2.sq.one') ?_
  rintro w4 hblk4 hu4
  have h4 : Blk w4 b3 (fM nm st x) 25 := hblk4
  have hlt2 := hc2.lt
  have hb04 := hu4.blk (hb02.ext hx3) (by have := hb02.lt; omega)
  have ho4 := (ho2.ext hx3).upd hu4 (ho2.away (by omega))
  have hg24 : w2.grownBy w4 (some b3) := grown_trans (grown_ext _ hx3) hu4.grown
  have hc4 := hc2.keep hg24 (fun c hc => by have := Option.some.inj hc; omega)
  simp only [↓vsd, vsn, gW, qd, qv, ev, pick, argE, zipE, ne_eq, eq_self, forall_const, implies_true, if_true, if_false, reduceIte, reduceCtorEq, Nat.reduceEqDiff, Nat.reduceAdd, Nat.reduceLT, ↓us_sDrawClashesIn, r_sDrawClashesIn, h4.facts, fMg]
  refine m_call (sl4Good_ok nm st x cs (by omega) (fun c hc => by have := hc8 c hc; omega) (by omega) _ ho4.sq) ?_
  rintro _ w5 hx5 rfl
  have h5 := h4.ext hx5
  have hb05 := hb04.ext hx5
  have ho5 := ho4.ext hx5
  have hc5 := hc4.ext hx5
  by_cases hm : IsMethod nm st cs
  · have h38 : 3 ≤ st ∧ st ≤ 8 := by have := hm.2.1; omega
    obtain ⟨n, rfl⟩ : ∃ n : Nat, st = n := ⟨st.toNat, by omega⟩
    have h38 : 3 ≤ n ∧ n ≤ 8 := by omega
    simp only [↓vsd, vsn, gW, qd, qv, ev, pick, argE, zipE, ne_eq, eq_self, forall_const, implies_true, if_true, if_false, reduceIte, reduceCtorEq, Nat.reduceEqDiff, Nat.reduceAdd, Nat.reduceLT, ↓us_sDrawClashesIn, r_sDrawClashesIn, hm]
    refine m_callw (.inl rfl) (sl1Cur_one_ok w0 b (0 + 200) 2 (by omega) _ (by omega) hc5) ?_
    rintro _ w6 ⟨hc6, hg6, z, rfl⟩
    have h6 := h5.same (hg6.block b3 h5.lt (fun e => by have := Option.some.inj e; omega))
    have hb06 := hb05.same (hg6.block b0 hb05.lt (fun e => by have := Option.some.inj e; omega))
    have ho6 := ho5.keep hg6 (fun c hc => by have := Option.some.inj hc; omega)
    cases z
    · simp only [↓vsd, vsn, gW, qd, qv, ev, pick, argE, zipE, ne_eq, eq_self, forall_const, implies_true, if_true, if_false, reduceIte, reduceCtorEq, Nat.reduceEqDiff, Nat.reduceAdd, Nat.reduceLT, ↓us_sDrawClashesIn, r_sDrawClashesIn, h6.facts, fMg]
      refine m_callw (.inl rfl) (sl1Cur_pick_ok w0 b _ 7 (by omega) _ (by omega) hc6) ?_
      rintro _ w7 ⟨hc7, hg7, k, rfl, hk⟩
      have h7 := h6.same (hg7.block b3 h6.lt (fun e => by have := Option.some.inj e; omega))
      have hb07 := hb06.same (hg7.block b0 hb06.lt (fun e => by have := Option.some.inj e; omega))
      have ho7 := ho6.keep hg7 (fun c hc => by have := Option.some.inj hc; omega)
      simp only [↓vsd, vsn, gW, qd, qv, ev, pick, argE, zipE, ne_eq, eq_self, forall_const, implies_true, if_true, if_false, reduceIte, reduceCtorEq, Nat.reduceEqDiff, Nat.reduceAdd, Nat.reduceLT, ↓us_sDrawClashesIn, r_sDrawClashesIn]
      refine m_upto k (fun j vs w' => ∃ y l, vs = [y, .int .i64 ((k : Int) - j)] ∧ Own fS 1 9 w7.heap.size w' y l ∧ l.length = j ∧ Cur w0 b (1000 + 10 * j) w' ∧ Blk w' b0 (fM [] 0 (.slice none 0 0)) 25 ∧ Blk w' b3 (fM nm n x) 25 ∧ Own fS 1 9 w1.heap.size w' x cs ∧ w7.heap.size ≤ w'.heap.size) ⟨_, [], by simp, Own.nil fS_len, rfl, hc7.mono (by omega), hb07, h7, ho7, Nat.le_refl _⟩ ?_
      rintro j vs w8 hj ⟨y, l, rfl, ho8, hl8, hc8', hb08, h8, hx8, hsz78⟩
      by_cases hlt : j < k
      · have hltI : (0 : Int) < (k : Int) - j := by omega
        have hltJ : ¬ (k : Int) - j ≤ 0 := by omega
        simp only [↓vsd, vsn, gW, qd, qv, ev, pick, argE, zipE, ne_eq, eq_self, forall_const, implies_true, if_true, if_false, reduceIte, reduceCtorEq, Nat.reduceEqDiff, Nat.reduceAdd, Nat.reduceLT, ↓us_sDrawClashesIn, r_sDrawClashesIn, hltI, hltJ, h8.facts, fMg]
        refine m_callw (by first | exact .inl rfl | exact .inr rfl) (sl1Cur_row_ok w0 b (1000 + 10 * j) n h38 _ (by omega) (by first | exact hc8' | exact hc8'.ext (dr (Ext.refl _)))) ?_
        rintro _ w9 ⟨hc9, hg9, z, rfl, hz⟩
        have hg9 : w8.grownBy w9 (some b) := by first | exact hg9 | exact gud hg9
        have h9 := h8.same (hg9.block b3 h8.lt (fun e => by have := Option.some.inj e; omega))
        have hb09 := hb08.same (hg9.block b0 hb08.lt (fun e => by have := Option.some.inj e; omega))
        have hx9 := hx8.keep hg9 (fun c hc => by have := Option.some.inj hc; omega)
        have hsz7 : w1.heap.size ≤ w7.heap.size := Nat.le_trans hg2.size (Nat.le_trans hx3.size (Nat.le_trans (Nat.le_of_eq hu4.size.symm) (Nat.le_trans hx5.size (Nat.le_trans hg6.size hg7.size))))
        have ho9 := ho8.keep hg9 (fun c hc => by have := Option.some.inj hc; omega)
        simp only [↓vsd, vsn, gW, qd, qv, ev, pick, argE, zipE, ne_eq, eq_self, forall_const, implies_true, if_true, if_false, reduceIte, reduceCtorEq, Nat.reduceEqDiff, Nat.reduceAdd, Nat.reduceLT, ↓us_sDrawClashesIn, r_sDrawClashesIn]
        refine m_bsl (one_el rfl) ?_
        rintro b10 w10 hb10 hblk10 hx10 hs10
        simp only [↓vsd, vsn, gW, qd, qv, ev, pick, argE, zipE, ne_eq, eq_self, forall_const, implies_true, if_true, if_false, reduceIte, reduceCtorEq, Nat.reduceEqDiff, Nat.reduceAdd, Nat.reduceLT, ↓us_sDrawClashesIn, r_sDrawClashesIn]
        have hs78 : w7.heap.size ≤ w8.heap.size := by have := h8.lt; have := hsz78; omega
        refine m_app (ho9.ext hx10) (Sq.one fS_len hblk10 rfl) fS_one (by decide) (by rw [List.length_singleton]; omega) (by decide) (Nat.le_trans hs78 (Nat.le_trans hg9.size hx10.size)) ?_
        rintro y11 w11 ho11 hg11
        have hne : ∀ c, c < w7.heap.size → some c ≠ y.ownBlock := fun c hc e => by have := (ho9.bound c e.symm).1; omega
        have h11 := (h9.ext hx10).same (hg11.block b3 (h9.ext hx10).lt (hne b3 h7.lt))
        have hb11 := (hb09.ext hx10).same (hg11.block b0 (hb09.ext hx10).lt (hne b0 hb07.lt))
        have hx11 := (hx9.ext hx10).off hg11 (fun c hc e => by have := (ho9.bound c hc).1; have := ho7.lt c e; omega)
        have hc11 := (hc9.ext hx10).keep hg11 (fun c hc => by have := (ho9.bound c hc).1; have := hc7.lt.2; omega)
        have ej : (k : Int) - j - 1 = (k : Int) - ((j + 1 : Nat) : Int) := by omega
        simp only [↓vsd, vsn, gW, qd, qv, ev, pick, argE, zipE, ne_eq, eq_self, forall_const, implies_true, if_true, if_false, reduceIte, reduceCtorEq, Nat.reduceEqDiff, Nat.reduceAdd, Nat.reduceLT, ↓us_sDrawClashesIn, r_sDrawClashesIn, ej]
        exact ⟨inR_i64 (by omega), UpTo.next hlt ⟨y11, _, rfl, ho11, by rw [List.length_append, List.length_singleton, hl8], hc11.mono (by omega), hb11, h11, hx11, Nat.le_trans hs78 (Nat.le_trans hg9.size (Nat.le_trans hx10.size hg11.size))⟩⟩
      · obtain rfl : j = k := by omega
        have hltI : ¬ (0 : Int) < (j : Int) - j := by omega
        simp only [↓vsd, vsn, gW, qd, qv, ev, pick, argE, zipE, ne_eq, eq_self, forall_const, implies_true, if_true, if_false, reduceIte, reduceCtorEq, Nat.reduceEqDiff, Nat.reduceAdd, Nat.reduceLT, ↓us_sDrawClashesIn, r_sDrawClashesIn, hltI, h8.facts, fMg]
        refine m_st hb08 rfl (Nat.le_refl 3) (fM_one nm n x hx8.sq.one') ?_
        rintro w9 hblk9 hu9
        have h9 : Blk w9 b0 (fM nm n x) 25 := hblk9
        simp only [↓vsd, vsn, gW, qd, qv, ev, pick, argE, zipE, ne_eq, eq_self, forall_const, implies_true, if_true, if_false, reduceIte, reduceCtorEq, Nat.reduceEqDiff, Nat.reduceAdd, Nat.reduceLT, ↓us_sDrawClashesIn, r_sDrawClashesIn, h9.facts, fMg]
        have hsz7 : w1.heap.size ≤ w7.heap.size := Nat.le_trans hg2.size (Nat.le_trans hx3.size (Nat.le_trans (Nat.le_of_eq hu4.size.symm) (Nat.le_trans hx5.size (Nat.le_trans hg6.size hg7.size))))
        exact ⟨hu9.below (hx0.trans hc8'.base) (by omega), nm, n, x, cs, y, l, rfl, (hx8.upd hu9 (hx8.away' (by omega))).sq, (ho8.upd hu9 (ho8.away' (by omega))).sq, hnm, hcs, hc8, by omega⟩
    · have ds : HT w w0 b0 b b3 w1.heap.size 1000 (fM [] 0 (.slice none 0 0)) (fM nm n x) x cs w6 := ⟨hc6.mono (by omega), hb06, h6, ho6, hx0.trans hc6.base, by omega⟩
      simp only [↓vsd, vsn, gW, qd, qv, ev, pick, argE, zipE, ne_eq, eq_self, forall_const, implies_true, if_true, if_false, reduceIte, reduceCtorEq, Nat.reduceEqDiff, Nat.reduceAdd, Nat.reduceLT, ↓us_sDrawClashesIn, r_sDrawClashesIn, h6.facts, fMg]
      replace ds := ds.ext (dr (Ext.refl _))
      clear hc6 hb06 h6 ho6 hg6
      have tch : ∀ N u, N ≤ 700000000 → Cur w0 b N u → CurFn 60 [cV b, .int .i64 9] w0 b N 300 u (fun r _ => ∃ x, r = S x ∧ x.length ≤ 20) := fun N u hN hc => sl1Cur_touch_ok w0 b N 9 (by omega) u hN hc
      repeat' first
        | refine ⟨?_, ?_⟩
        | (refine m_callw (.inr rfl) (sl1Cur_calls_okc w0 b _ nm n x h38 _ (by omega) ds.cur) ?_; rintro _ _ ⟨hc', hg, p, q, rfl, hp, hq⟩; replace ds := ds.draw hc' hg; clear hc' hg; simp only [↓vsd, vsn, gW, qd, qv, ev, pick, argE, zipE, ne_eq, eq_self, forall_const, implies_true, if_true, if_false, reduceIte, reduceCtorEq, Nat.reduceEqDiff, Nat.reduceAdd, Nat.reduceLT, ↓us_sDrawClashesIn, r_sDrawClashesIn, ds.m.facts, fMg])
        | (refine m_callw (.inr rfl) (tch _ _ (by omega) ds.cur) ?_; rintro _ _ ⟨hc', hg, t, rfl, ht⟩; replace ds := ds.draw hc' hg; clear hc' hg; simp only [↓vsd, vsn, gW, qd, qv, ev, pick, argE, zipE, ne_eq, eq_self, forall_const, implies_true, if_true, if_false, reduceIte, reduceCtorEq, Nat.reduceEqDiff, Nat.reduceAdd, Nat.reduceLT, ↓us_sDrawClashesIn, r_sDrawClashesIn, ds.m.facts, fMg])
        | (refine m_call (sl9Heads_ok nm n x cs p q t ⟨hm, hp, hq⟩ (by omega) _ ds.own.sq) ?_; rintro y u9 hx9 hy; have hk0 := ds.r0.lt; replace ds := ds.ext hx9; simp only [↓vsd, vsn, gW, qd, qv, ev, pick, argE, zipE, ne_eq, eq_self, forall_const, implies_true, if_true, if_false, reduceIte, reduceCtorEq, Nat.reduceEqDiff, Nat.reduceAdd, Nat.reduceLT, ↓us_sDrawClashesIn, r_sDrawClashesIn, ds.m.facts, fMg]; refine m_st ds.r0 rfl (Nat.le_refl 3) (fM_one nm n x ds.own.sq.one') ?_; rintro u10 hb10 hu; have h10 : Blk u10 b0 (fM nm n x) 25 := hb10; simp only [↓vsd, vsn, gW, qd, qv, ev, pick, argE, zipE, ne_eq, eq_self, forall_const, implies_true, if_true, if_false, reduceIte, reduceCtorEq, Nat.reduceEqDiff, Nat.reduceAdd, Nat.reduceLT, ↓us_sDrawClashesIn, r_sDrawClashesIn, h10.facts, fMg]; exact ⟨hu.below ds.ex (by have := ds.lo; omega), nm, n, x, cs, y, _, rfl, (ds.own.upd hu (ds.own.away' (by have := ds.lo; omega))).sq, (hy.upd hu (hy.away' (by have := hk0; omega))).sq, hnm, hcs, hc8, by rw [headsP_len]; omega⟩)
  · simp only [↓vsd, vsn, gW, qd, qv, ev, pick, argE, zipE, ne_eq, eq_self, forall_const, implies_true, if_true, if_false, reduceIte, reduceCtorEq, Nat.reduceEqDiff, Nat.reduceAdd, Nat.reduceLT, ↓us_sDrawClashesIn, r_sDrawClashesIn, hm, h5.facts, fMg]
    refine m_bsl (one_el rfl) ?_
    rintro b8 w8 hb8 hblk8 hx8 hs8
    simp only [↓vsd, vsn, gW, qd, qv, ev, pick, argE, zipE, ne_eq, eq_self, forall_const, implies_true, if_true, if_false, reduceIte, reduceCtorEq, Nat.reduceEqDiff, Nat.reduceAdd, Nat.reduceLT, ↓us_sDrawClashesIn, r_sDrawClashesIn]
    have hx58 := hx5.size
    refine m_st (hb05.ext hx8) rfl (Nat.le_refl 3) (fM_one nm st x ho5.sq.one') ?_
    rintro w9 hblk9 hu9
    have h9 : Blk w9 b0 (fM nm st x) 25 := hblk9
    have k8 := hu9.blk hblk8 (by have := hb05.lt; omega)
    simp only [↓vsd, vsn, gW, qd, qv, ev, pick, argE, zipE, ne_eq, eq_self, forall_const, implies_true, if_true, if_false, reduceIte, reduceCtorEq, Nat.reduceEqDiff, Nat.reduceAdd, Nat.reduceLT, ↓us_sDrawClashesIn, r_sDrawClashesIn, h9.facts, fMg]
    exact ⟨hu9.below (hx0.trans ((hc5.ext hx8).base)) (by omega), nm, st, x, cs, _, _, rfl, ((ho5.ext hx8).upd hu9 (ho5.away' (by omega))).sq, Sq.one fS_len k8 rfl, hnm, hcs, hc8, by simp⟩
end Go.Proofs.YthopbkemkfjebaaGreat
