/-
  The drawing of methods that may be spoilt.
  Conditions: none.
-/
import Derived.Test.YtfklonhjgkahdaaKD14
set_option linter.unusedSimpArgs false
set_option linter.unusedVariables false
set_option linter.defProp false
namespace Go.Proofs.Ytfklonhjgkahdaa
open Go Go.RowKit
section
variable (P : Program) (k : KT) (e : Env) (w : World)
abbrev b57_1 : X := (.cond (.t 40) .skip (.exit 1))
def t57_1 := b57_1
theorem u57_1 : vcK P t57_1 k e w = vcK P b57_1 k e w := rfl
abbrev b57_2 : X := (.blk 2 (.drw [0, 2, 3, 4] (.c (.q 41 [] (.fa 2 (.t 3))) (.c (.q 43 [] (.mv (.t 0))) (.c (.q 44 [] (.fa 1 (.t 3))) (.c (.q 45 [] (.ld (.t 44))) (.alt (.c (.p 42 [] (.ld (.t 41))) (.c (.e (some 46) [] (.call true 81 [(.t 43), (.t 45)])) (.c (.e (some 47) [] (.bsl 9 1 [(.t 46)])) (.c (.e (some 48) [] (.app 24 9 1 16 [(S [])] 24 (.t 42) (.t 47))) (.c (.q 49 [] (.fa 2 (.t 3))) (.c (.e none [] (.st 1 (.t 49) (.t 48))) .nil)))))) (.c (.e (some 46) [] (.call true 81 [(.t 43), (.t 45)])) (.alt (.c (.p 42 [] (.ld (.t 41))) (.c (.e (some 47) [] (.bsl 9 1 [(.t 46)])) (.c (.e (some 48) [] (.app 24 9 1 16 [(S [])] 24 (.t 42) (.t 47))) (.c (.q 49 [] (.fa 2 (.t 3))) (.c (.e none [] (.st 1 (.t 49) (.t 48))) .nil))))) (.c (.e (some 47) [] (.bsl 9 1 [(.t 46)])) (.c (.p 42 [] (.ld (.t 41))) (.c (.e (some 48) [] (.app 24 9 1 16 [(S [])] 24 (.t 42) (.t 47))) (.c (.q 49 [] (.fa 2 (.t 3))) (.c (.e none [] (.st 1 (.t 49) (.t 48))) .nil))))))))))))))
def t57_2 := b57_2
theorem u57_2 : vcK P t57_2 k e w = vcK P b57_2 k e w := rfl
abbrev b57_3 : X := (.seq (.seq (.reg [0, 2, 3, 4, 40] (.c (.q 36 [] (.fa 2 (.t 3))) (.c (.q 37 [] (.ld (.t 36))) (.c (.q 38 [] (.lens (.t 37))) (.c (.q 39 [] (.mv (.t 4))) (.c (.q 40 [] (.bin .lss (.t 38) (.t 39))) .nil)))))) t57_1) t57_2)
def t57_3 := b57_3
theorem u57_3 : vcK P t57_3 k e w = vcK P b57_3 k e w := rfl
abbrev b57_4 : X := (.blk 1 (.loop [] [0, 2, 3, 4] t57_3))
def t57_4 := b57_4
theorem u57_4 : vcK P t57_4 k e w = vcK P b57_4 k e w := rfl
abbrev b57_5 : X := (.cond (.t 31) (.seq (.reg [0, 2, 3, 4] (.c (.q 33 [] (.mv (.t 0))) (.c (.e (some 34) [] (.call true 39 [(.t 33), (.c (.int .i64 2))])) (.c (.q 35 [] (.bin .add (.c (.int .i64 40)) (.t 34))) (.c (.q 4 [] (.mv (.t 35))) .nil))))) t57_4) .skip)
def t57_5 := b57_5
theorem u57_5 : vcK P t57_5 k e w = vcK P b57_5 k e w := rfl
abbrev b57_6 : X := (.cond (.t 28) (.reg [2, 3] (.c (.q 30 [] (.fa 2 (.t 3))) (.c (.e none [] (.st 1 (.t 30) (.c (.slice none 0 0)))) .nil))) (.seq (.reg [0, 2, 3, 31] (.c (.q 32 [] (.bin .eql (.t 8) (.c (.int .i64 4)))) (.c (.q 31 [] (.mv (.t 32))) .nil))) t57_5))
def t57_6 := b57_6
theorem u57_6 : vcK P t57_6 k e w = vcK P b57_6 k e w := rfl
abbrev b57_7 : X := (.cond (.t 22) (.reg [2, 3] (.c (.q 24 [] (.mv (.t 0))) (.c (.e (some 25) [] (.bsl 3 1 [(.c (.int .i64 2)), (.c (.int .i64 9)), (.c (.int .i64 5))])) (.c (.e (some 26) [] (.call true 58 [(.t 24), (.t 25)])) (.c (.q 27 [] (.fa 1 (.t 3))) (.c (.e none [] (.st 1 (.t 27) (.t 26))) .nil)))))) (.seq (.reg [0, 2, 3, 8, 28] (.c (.q 29 [] (.bin .eql (.t 8) (.c (.int .i64 3)))) (.c (.q 28 [] (.mv (.t 29))) .nil))) t57_6))
def t57_7 := b57_7
theorem u57_7 : vcK P t57_7 k e w = vcK P b57_7 k e w := rfl
abbrev b57_8 : X := (.cond (.t 15) (.reg [2, 3] (.c (.q 17 [] (.fa 2 (.t 3))) (.c (.q 18 [] (.ld (.t 17))) (.c (.e (some 19) [] (.bsl 9 1 [(.s [120])])) (.c (.e (some 20) [] (.app 24 9 1 16 [(S [])] 24 (.t 18) (.t 19))) (.c (.q 21 [] (.fa 2 (.t 3))) (.c (.e none [] (.st 1 (.t 21) (.t 20))) .nil))))))) (.seq (.reg [0, 2, 3, 8, 22] (.c (.q 23 [] (.bin .eql (.t 8) (.c (.int .i64 2)))) (.c (.q 22 [] (.mv (.t 23))) .nil))) t57_7))
def t57_8 := b57_8
theorem u57_8 : vcK P t57_8 k e w = vcK P b57_8 k e w := rfl
abbrev b57_9 : X := (.cond (.t 9) (.reg [2, 3] (.c (.q 11 [] (.mv (.t 0))) (.c (.e (some 12) [] (.bsl 9 1 [(.s []), (.s [65]), (.s [101, 108, 101, 118, 101, 110, 108, 101, 116, 114, 115])])) (.c (.e (some 13) [] (.call true 42 [(.t 11), (.t 12)])) (.c (.q 14 [] (.fa 0 (.t 3))) (.c (.e none [] (.st 1 (.t 14) (.t 13))) .nil)))))) (.seq (.reg [0, 2, 3, 8, 15] (.c (.q 16 [] (.bin .eql (.t 8) (.c (.int .i64 1)))) (.c (.q 15 [] (.mv (.t 16))) .nil))) t57_8))
def t57_9 := b57_9
theorem u57_9 : vcK P t57_9 k e w = vcK P b57_9 k e w := rfl
abbrev b57_10 : X := (.blk 0 (.seq (.reg [0, 2, 3, 8, 9] (.c (.q 10 [] (.bin .eql (.t 8) (.c (.int .i64 0)))) (.c (.q 9 [] (.mv (.t 10))) .nil))) t57_9))
def t57_10 := b57_10
theorem u57_10 : vcK P t57_10 k e w = vcK P b57_10 k e w := rfl
abbrev b57_11 : X := (.seq (.reg [2] (.c (.q 50 [] (.lda 3 (.t 3))) (.c (.e none [] (.st 3 (.t 2) (.t 50))) .nil))) .ret)
def t57_11 := b57_11
theorem u57_11 : vcK P t57_11 k e w = vcK P b57_11 k e w := rfl
abbrev b57_12 : X := (.seq (.seq (.reg [0, 2, 3, 8] (.c (.q 7 [] (.mv (.t 0))) (.c (.e (some 8) [] (.call true 39 [(.t 7), (.c (.int .i64 25))])) .nil))) t57_10) t57_11)
def t57_12 := b57_12
theorem u57_12 : vcK P t57_12 k e w = vcK P b57_12 k e w := rfl
abbrev b57_13 : X := (.seq (.reg [0, 2, 3] (.c (.q 5 [] (.mv (.t 0))) (.c (.e (some 6) [] (.call true 84 [(.t 5)])) (.c (.e (some 3) [] (.al 44 [(S []), (.int .i64 0), (.slice none 0 0)])) (.c (.e none [] (.st 3 (.t 3) (.t 6))) .nil))))) t57_12)
def t57_13 := b57_13
theorem u57_13 : vcK P t57_13 k e w = vcK P b57_13 k e w := rfl
abbrev b57_0 : X := (.seq (.reg [0, 2] (.c (.e (some 2) [] (.al 44 [(S []), (.int .i64 0), (.slice none 0 0)])) .nil)) t57_13)
def x_sl1Cur_anyMethod := b57_0
theorem u57_0 : vcK P x_sl1Cur_anyMethod k e w = vcK P b57_0 k e w := rfl
def r_sl1Cur_anyMethod : List XO := [(.lda 3 (.t 2))]
theorem c_sl1Cur_anyMethod : convF Try.prog [38, 39, 41, 42, 49, 54, 55, 57, 58, 59, 73, 79, 81, 84, 87, 139] Try.f57 [([0, 2], []), ([0, 2, 3], []), ([0, 2, 3, 8], []), ([0, 2, 3, 8, 9], []), ([2, 3], []), ([0, 2, 3, 8, 15], []), ([2, 3], []), ([0, 2, 3, 8, 22], []), ([2, 3], []), ([0, 2, 3, 8, 28], []), ([2, 3], []), ([0, 2, 3, 31], []), ([0, 2, 3, 4], []), ([], [0, 2, 3, 4]), ([0, 2, 3, 4, 40], []), ([0, 2, 3, 4], []), ([2], [])] = some (x_sl1Cur_anyMethod, r_sl1Cur_anyMethod) := by kernel_rfl
def us_sl1Cur_anyMethod :=  (aI (aI (aI @u57_0 (aI @u57_1 @u57_2)) (aI (aI @u57_3 @u57_4) (aI @u57_5 @u57_6))) (aI (aI @u57_7 (aI @u57_8 @u57_9)) (aI (aI @u57_10 @u57_11) (aI @u57_12 @u57_13))))
end
/-- A method that may be spoilt. -/
def AnyM (B : Nat) (r : Value) (w' : World) : Prop := ∃ nm st x cs, r = mV nm st x ∧ Own fS 1 9 B w' x cs ∧ nm.length ≤ 11 ∧ (2 ≤ st ∧ st ≤ 9) ∧ cs.length ≤ 60 ∧ ∀ c ∈ cs, c.length ≤ 8
/-- A method in block bm, its changes in a slice y that lies elsewhere. -/
structure MT (W : World) (b N : Nat) (w0 : World) (b1 bm : Nat) (nm : List UInt8) (st : Int) (x y : Value) (cs : List (List UInt8)) (w : World) : Prop where
  cur : Cur W b N w
  res : ∃ c : List Value, Blk w b1 c 44 ∧ c.length = 3
  blk : Blk w bm (fM nm st x) 44
  own : Own fS 1 9 (b1 + 1) w y cs
  aw : Away y bm
  gr : w0.grownBy w (some b)
  lo : b < w0.heap.size ∧ w0.heap.size ≤ b1 ∧ b1 < bm
section
variable {W : World} {b N M : Nat} {w0 : World} {b1 bm : Nat} {nm nm' : List UInt8} {st st' : Int} {x y z : Value} {cs cs' : List (List UInt8)} {w w' : World}
theorem MT.draw (h : MT W b N w0 b1 bm nm st x y cs w) (hc : Cur W b M w') (hg : w.grownBy w' (some b)) : MT W b M w0 b1 bm nm st x y cs w' := by
  obtain ⟨c, hc1, hc2⟩ := h.res
  have hl := h.lo
  exact ⟨hc, ⟨c, hc1.same (hg.block b1 hc1.lt (fun e => by have := Option.some.inj e; omega)), hc2⟩, h.blk.same (hg.block bm h.blk.lt (fun e => by have := Option.some.inj e; omega)), h.own.keep hg (fun c hc => by have := Option.some.inj hc; omega), h.aw, grown_trans h.gr hg, hl⟩
theorem MT.ext (h : MT W b N w0 b1 bm nm st x y cs w) (hx : Ext w w') : MT W b N w0 b1 bm nm st x y cs w' := h.draw (h.cur.ext hx) (grown_ext _ hx)
theorem MT.drew (h : MT W b N w0 b1 bm nm st x y cs w) : MT W b N w0 b1 bm nm st x y cs w.drew := h.ext (dr (Ext.refl _))
theorem MT.mono (h : MT W b N w0 b1 bm nm st x y cs w) (hm : N ≤ M) : MT W b M w0 b1 bm nm st x y cs w := ⟨h.cur.mono hm, h.res, h.blk, h.own, h.aw, h.gr, h.lo⟩
theorem MT.new (h : MT W b N w0 b1 bm nm st x y cs w) (ho : Own fS 1 9 (b1 + 1) w z cs') (ha : Away z bm) : MT W b N w0 b1 bm nm st x z cs' w := ⟨h.cur, h.res, h.blk, ho, ha, h.gr, h.lo⟩
theorem MT.room (h : MT W b N w0 b1 bm nm st x y cs w) : b1 + 1 ≤ w.heap.size := by have := h.blk.lt; have := h.lo; omega
theorem MT.app (h : MT W b N w0 b1 bm nm st x y cs w) (ho : Own fS 1 9 (b1 + 1) w' z cs') (hg : w.grownBy w' y.ownBlock) (hn : ∀ c, z.ownBlock = some c → y.ownBlock = some c ∨ w.heap.size ≤ c) : MT W b N w0 b1 bm nm st x z cs' w' := by
  obtain ⟨c, hc1, hc2⟩ := h.res
  have hl := h.lo
  have hbd : ∀ c, y.ownBlock = some c → b1 + 1 ≤ c := fun c hc => (h.own.bound c hc).1
  exact ⟨h.cur.keep hg (fun c hc => by have := hbd c hc; omega), ⟨c, hc1.same (hg.block b1 hc1.lt (fun e => by have := hbd b1 e.symm; omega)), hc2⟩, h.blk.same (hg.block bm h.blk.lt (fun e => h.aw e.symm)), ho, h.aw.next h.blk.lt hn, grown_new h.gr hg (fun c hc => by have := hbd c hc; omega), hl⟩
/-- The method's block is written. -/
theorem MT.put (h : MT W b N w0 b1 bm nm st x y cs w) (hu : Upd w w' bm) (hb : Blk w' bm (fM nm' st' z) 44) : MT W b N w0 b1 bm nm' st' z y cs w' := by
  obtain ⟨c, hc1, hc2⟩ := h.res
  have hl := h.lo
  exact ⟨h.cur.keep hu.grown (fun c hc => by have := Option.some.inj hc; omega), ⟨c, hu.blk hc1 (by omega), hc2⟩, hb, h.own.upd hu h.aw, h.aw, grown_new h.gr hu.grown (fun c hc => by have := Option.some.inj hc; omega), hl⟩
theorem m_stT {P : Program} {m : Option World} {ps : List Nat} {k : KT} {r : XT} {d : Option Nat} {e : EL} (h : MT W b N w0 b1 bm nm st x z cs w)
    (hk : ∀ w', MT W b N w0 b1 bm nm st z z cs w' → ∀ s, ops P m ps k r (setO ⟨e, s⟩ d undef) w') : stL P m ps k r d e w 1 (.pointer (some ⟨bm, 2, none⟩)) z := by
  have hxc : z.cells = #[z] := of_eq_true h.own.sq.oneC
  refine m_st h.blk (by rw [hxc]; rfl) (by decide : 2 + 1 ≤ 3) (by rw [hxc]; intro u hu; simp only [List.mem_singleton] at hu; subst hu; exact h.own.sq.one') ?_
  intro w' hblk hu
  rw [hxc] at hblk
  exact hk w' (h.put hu hblk)
end
theorem sl1Cur_anyMethod_ok (W : World) (b n : Nat) (w : World) (hn : n ≤ 600000000) (hc : Cur W b n w) : CurFn 57 [cV b] W b n 200 w (fun r w' => AnyM w.heap.size r w') := by
  (refine callsV_of mix Try.func57 c_sl1Cur_anyMethod ?_; simp only [↓vsd, vsn, gW, qd, qv, ev, pick, argE, zipE, ne_eq, eq_self, forall_const, implies_true, if_true, if_false, reduceIte, reduceCtorEq, Nat.reduceEqDiff, Nat.reduceAdd, Nat.reduceLT, ↓us_sl1Cur_anyMethod, r_sl1Cur_anyMethod])
  refine m_al ?_
  rintro b1 w1 hb1 hblk1 hx1 hs1
  have hr1 : Blk w1 b1 (fM [] 0 (.slice none 0 0)) 44 := hblk1
  have hlt := hc.lt
  simp only [↓vsd, vsn, gW, qd, qv, ev, pick, argE, zipE, ne_eq, eq_self, forall_const, implies_true, if_true, if_false, reduceIte, reduceCtorEq, Nat.reduceEqDiff, Nat.reduceAdd, Nat.reduceLT, ↓us_sl1Cur_anyMethod, r_sl1Cur_anyMethod]
  refine m_callw (.inl rfl) (sl1Cur_method_ok W b _ _ (by omega) (hc.ext hx1)) ?_
  rintro _ w2 ⟨hc2, hg2, nm, st, x, cs, rfl, ho2, hm, hst6⟩
  have hr2 := hr1.same (hg2.block b1 hr1.lt (fun e => by have := Option.some.inj e; omega))
  simp only [↓vsd, vsn, gW, qd, qv, ev, pick, argE, zipE, ne_eq, eq_self, forall_const, implies_true, if_true, if_false, reduceIte, reduceCtorEq, Nat.reduceEqDiff, Nat.reduceAdd, Nat.reduceLT, ↓us_sl1Cur_anyMethod, r_sl1Cur_anyMethod]
  refine m_al ?_
  rintro bm w3 hbm hblk3 hx3 hs3
  simp only [↓vsd, vsn, gW, qd, qv, ev, pick, argE, zipE, ne_eq, eq_self, forall_const, implies_true, if_true, if_false, reduceIte, reduceCtorEq, Nat.reduceEqDiff, Nat.reduceAdd, Nat.reduceLT, ↓us_sl1Cur_anyMethod, r_sl1Cur_anyMethod]
  refine m_st hblk3 rfl (Nat.le_refl 3) (fM_one nm st _ ho2.sq.one') ?_
  rintro w4 hblk4 hu4
  have hM4 : Blk w4 bm (fM nm st x) 44 := hblk4
  have h12 := hg2.size
  have ms : MT W b (n + 60) w b1 bm nm st x x cs w4 := ⟨(hc2.ext hx3).keep hu4.grown (fun c hc => by have := Option.some.inj hc; omega), ⟨_, hu4.blk (hr2.ext hx3) (by have := hr2.lt; omega), rfl⟩, hM4, ((ho2.ext hx3).upd hu4 (ho2.away (by omega))).mono (by omega), ho2.away (by omega),
    grown_new (grown_trans (grown_trans (grown_ext _ hx1) hg2) (grown_ext _ hx3)) hu4.grown (fun c hc => by have := Option.some.inj hc; have := hx1.size; omega), by have := hr2.lt; omega⟩
  have hnmL : nm.length ≤ 11 := by have := hm.1.2; omega
  have hstL : 2 ≤ st ∧ st ≤ 9 := by have := hm.2.1; omega
  have hcsL : cs.length ≤ 60 := by have := hm.2.2.1; omega
  have hcL : ∀ c ∈ cs, c.length ≤ 8 := fun c hc => by have := IsChange.len (hm.2.2.2 c hc); have := hm.2.1; omega
  simp only [↓vsd, vsn, gW, qd, qv, ev, pick, argE, zipE, ne_eq, eq_self, forall_const, implies_true, if_true, if_false, reduceIte, reduceCtorEq, Nat.reduceEqDiff, Nat.reduceAdd, Nat.reduceLT, ↓us_sl1Cur_anyMethod, r_sl1Cur_anyMethod]
  refine m_callw (.inl rfl) (sl1Cur_pick_ok W b _ 25 (by omega) _ (by omega) ms.cur) ?_
  rintro _ w5 ⟨hc5, hg5, q, rfl, hq⟩
  have ms := ms.draw hc5 hg5
  simp only [↓vsd, vsn, gW, qd, qv, ev, pick, argE, zipE, ne_eq, eq_self, forall_const, implies_true, if_true, if_false, reduceIte, reduceCtorEq, Nat.reduceEqDiff, Nat.reduceAdd, Nat.reduceLT, ↓us_sl1Cur_anyMethod, r_sl1Cur_anyMethod, ms.blk.facts, fMg]
  refine ⟨fun h0 => ?_, fun h0 => ⟨fun h1 => ?_, fun h1 => ⟨fun h2 => ?_, fun h2 => ⟨fun h3 => ?_, fun h3 => ⟨fun h4 => ?_, fun h4 => ?_⟩⟩⟩⟩⟩
  · refine m_bsl (fun p hp => by simp only [List.mem_cons, List.not_mem_nil, or_false] at hp; rcases hp with rfl | rfl | rfl <;> rfl) ?_
    rintro b6 w6 hb6 hblk6 hx6 hs6
    simp only [↓vsd, vsn, gW, qd, qv, ev, pick, argE, zipE, ne_eq, eq_self, forall_const, implies_true, if_true, if_false, reduceIte, reduceCtorEq, Nat.reduceEqDiff, Nat.reduceAdd, Nat.reduceLT, ↓us_sl1Cur_anyMethod, r_sl1Cur_anyMethod]
    have ms6 := ms.ext (by first | exact hx6 | exact ud hx6)
    have hcl := ms.cur.lt
    have hb6 : b6 = w5.heap.size := hb6
    refine m_callw (by first | exact .inl rfl | exact .inr rfl) (sl1Cur_of_ok W b _ _ [[], [65], [101, 108, 101, 118, 101, 110, 108, 101, 116, 114, 115]] w6 (by omega) (by decide) ms6.cur (Sq.litC _ _ fS_len hblk6 rfl rfl (by omega))) ?_
    rintro _ w7 ⟨hc7, hg7, nm', rfl, hnm'⟩
    have hnmL : nm'.length ≤ 11 := by simp only [List.mem_cons, List.not_mem_nil, or_false] at hnm'; rcases hnm' with rfl | rfl | rfl <;> decide
    have ms := ms6.draw hc7 hg7
    simp only [↓vsd, vsn, gW, qd, qv, ev, pick, argE, zipE, ne_eq, eq_self, forall_const, implies_true, if_true, if_false, reduceIte, reduceCtorEq, Nat.reduceEqDiff, Nat.reduceAdd, Nat.reduceLT, ↓us_sl1Cur_anyMethod, r_sl1Cur_anyMethod]
    refine m_st ms.blk rfl (by decide : 0 + 1 ≤ 3) (fS_one _) ?_
    rintro w8 hblk8 hu8
    have hb8 : Blk w8 bm (fM nm' st x) 44 := hblk8
    have ms := ms.put hu8 hb8
    have ms := ms.mono (M := n + 200) (by omega)
    try simp only [↓vsd, vsn, gW, qd, qv, ev, pick, argE, zipE, ne_eq, eq_self, forall_const, implies_true, if_true, if_false, reduceIte, reduceCtorEq, Nat.reduceEqDiff, Nat.reduceAdd, Nat.reduceLT, ↓us_sl1Cur_anyMethod, r_sl1Cur_anyMethod, ms.blk.facts, fMg]
    obtain ⟨rc, hrc, hrl⟩ := ms.res
    obtain ⟨a1, a2, a3, rfl⟩ : ∃ a b c, rc = [a, b, c] := by match rc, hrl with | [a, b, c], _ => exact ⟨a, b, c, rfl⟩
    refine m_st hrc rfl (Nat.le_refl 3) (fM_one _ _ _ ms.own.sq.one') ?_
    rintro wr hbr hur
    have hbr' : Blk wr b1 (fM _ _ _) 44 := hbr
    have hlo := ms.lo
    simp only [↓vsd, vsn, gW, qd, qv, ev, pick, argE, zipE, ne_eq, eq_self, forall_const, implies_true, if_true, if_false, reduceIte, reduceCtorEq, Nat.reduceEqDiff, Nat.reduceAdd, Nat.reduceLT, ↓us_sl1Cur_anyMethod, r_sl1Cur_anyMethod, hbr'.facts, fMg]
    exact ⟨ms.cur.keep hur.grown (fun c hc => by have := Option.some.inj hc; omega), grown_new ms.gr hur.grown (fun c hc => by have := Option.some.inj hc; omega), _, _, _, _, rfl, (ms.own.upd hur (ms.own.away' (by omega))).mono (by omega), hnmL, hstL, hcsL, hcL⟩
  · refine m_bsl (one_el rfl) ?_
    rintro b6 w6 hb6 hblk6 hx6 hs6
    have ms := ms.ext (by first | exact hx6 | exact ud hx6)
    simp only [↓vsd, vsn, gW, qd, qv, ev, pick, argE, zipE, ne_eq, eq_self, forall_const, implies_true, if_true, if_false, reduceIte, reduceCtorEq, Nat.reduceEqDiff, Nat.reduceAdd, Nat.reduceLT, ↓us_sl1Cur_anyMethod, r_sl1Cur_anyMethod, ms.blk.facts, fMg]
    refine m_app2 ms.own (Sq.one fS_len hblk6 rfl) fS_one (by decide) (by simp only [List.length_singleton]; omega) (by decide) ms.room ?_
    rintro yy wc hoc hgc hnc
    have ms := ms.app hoc hgc hnc
    simp only [↓vsd, vsn, gW, qd, qv, ev, pick, argE, zipE, ne_eq, eq_self, forall_const, implies_true, if_true, if_false, reduceIte, reduceCtorEq, Nat.reduceEqDiff, Nat.reduceAdd, Nat.reduceLT, ↓us_sl1Cur_anyMethod, r_sl1Cur_anyMethod]
    refine m_stT ms ?_
    rintro wd ms
    have hcsL : (cs ++ [[120]]).length ≤ 60 := by have := hm.2.2.1; rw [List.length_append, List.length_singleton]; omega
    have hcL : ∀ c ∈ cs ++ [[120]], c.length ≤ 8 := fun c hc => by
      rcases List.mem_append.1 hc with hc | hc
      · exact hcL c hc
      · rw [List.mem_singleton.1 hc]; decide
    have ms := ms.mono (M := n + 200) (by omega)
    try simp only [↓vsd, vsn, gW, qd, qv, ev, pick, argE, zipE, ne_eq, eq_self, forall_const, implies_true, if_true, if_false, reduceIte, reduceCtorEq, Nat.reduceEqDiff, Nat.reduceAdd, Nat.reduceLT, ↓us_sl1Cur_anyMethod, r_sl1Cur_anyMethod, ms.blk.facts, fMg]
    obtain ⟨rc, hrc, hrl⟩ := ms.res
    obtain ⟨a1, a2, a3, rfl⟩ : ∃ a b c, rc = [a, b, c] := by match rc, hrl with | [a, b, c], _ => exact ⟨a, b, c, rfl⟩
    refine m_st hrc rfl (Nat.le_refl 3) (fM_one _ _ _ ms.own.sq.one') ?_
    rintro wr hbr hur
    have hbr' : Blk wr b1 (fM _ _ _) 44 := hbr
    have hlo := ms.lo
    simp only [↓vsd, vsn, gW, qd, qv, ev, pick, argE, zipE, ne_eq, eq_self, forall_const, implies_true, if_true, if_false, reduceIte, reduceCtorEq, Nat.reduceEqDiff, Nat.reduceAdd, Nat.reduceLT, ↓us_sl1Cur_anyMethod, r_sl1Cur_anyMethod, hbr'.facts, fMg]
    exact ⟨ms.cur.keep hur.grown (fun c hc => by have := Option.some.inj hc; omega), grown_new ms.gr hur.grown (fun c hc => by have := Option.some.inj hc; omega), _, _, _, _, rfl, (ms.own.upd hur (ms.own.away' (by omega))).mono (by omega), hnmL, hstL, hcsL, hcL⟩
  · refine m_bsl (fun p hp => by simp only [List.mem_cons, List.not_mem_nil, or_false] at hp; rcases hp with rfl | rfl | rfl <;> rfl) ?_
    rintro b6 w6 hb6 hblk6 hx6 hs6
    simp only [↓vsd, vsn, gW, qd, qv, ev, pick, argE, zipE, ne_eq, eq_self, forall_const, implies_true, if_true, if_false, reduceIte, reduceCtorEq, Nat.reduceEqDiff, Nat.reduceAdd, Nat.reduceLT, ↓us_sl1Cur_anyMethod, r_sl1Cur_anyMethod]
    have ms6 := ms.ext (by first | exact hx6 | exact ud hx6)
    have hcl := ms.cur.lt
    have hb6 : b6 = w5.heap.size := hb6
    refine m_callw (by first | exact .inl rfl | exact .inr rfl) (sl1Cur_among_ok W b _ _ [2, 9, 5] w6 (by omega) (by decide) ms6.cur (Sq.litC _ _ fI_len hblk6 rfl rfl (by omega))) ?_
    rintro _ w7 ⟨hc7, hg7, st', rfl, hst'⟩
    have hstL : 2 ≤ st' ∧ st' ≤ 9 := by simp only [List.mem_cons, List.not_mem_nil, or_false] at hst'; omega
    have ms := ms6.draw hc7 hg7
    simp only [↓vsd, vsn, gW, qd, qv, ev, pick, argE, zipE, ne_eq, eq_self, forall_const, implies_true, if_true, if_false, reduceIte, reduceCtorEq, Nat.reduceEqDiff, Nat.reduceAdd, Nat.reduceLT, ↓us_sl1Cur_anyMethod, r_sl1Cur_anyMethod]
    refine m_st ms.blk rfl (by decide : 1 + 1 ≤ 3) (fI_one _) ?_
    rintro w8 hblk8 hu8
    have hb8 : Blk w8 bm (fM nm st' x) 44 := hblk8
    have ms := ms.put hu8 hb8
    have ms := ms.mono (M := n + 200) (by omega)
    try simp only [↓vsd, vsn, gW, qd, qv, ev, pick, argE, zipE, ne_eq, eq_self, forall_const, implies_true, if_true, if_false, reduceIte, reduceCtorEq, Nat.reduceEqDiff, Nat.reduceAdd, Nat.reduceLT, ↓us_sl1Cur_anyMethod, r_sl1Cur_anyMethod, ms.blk.facts, fMg]
    obtain ⟨rc, hrc, hrl⟩ := ms.res
    obtain ⟨a1, a2, a3, rfl⟩ : ∃ a b c, rc = [a, b, c] := by match rc, hrl with | [a, b, c], _ => exact ⟨a, b, c, rfl⟩
    refine m_st hrc rfl (Nat.le_refl 3) (fM_one _ _ _ ms.own.sq.one') ?_
    rintro wr hbr hur
    have hbr' : Blk wr b1 (fM _ _ _) 44 := hbr
    have hlo := ms.lo
    simp only [↓vsd, vsn, gW, qd, qv, ev, pick, argE, zipE, ne_eq, eq_self, forall_const, implies_true, if_true, if_false, reduceIte, reduceCtorEq, Nat.reduceEqDiff, Nat.reduceAdd, Nat.reduceLT, ↓us_sl1Cur_anyMethod, r_sl1Cur_anyMethod, hbr'.facts, fMg]
    exact ⟨ms.cur.keep hur.grown (fun c hc => by have := Option.some.inj hc; omega), grown_new ms.gr hur.grown (fun c hc => by have := Option.some.inj hc; omega), _, _, _, _, rfl, (ms.own.upd hur (ms.own.away' (by omega))).mono (by omega), hnmL, hstL, hcsL, hcL⟩
  · have ms := ms.new (z := .slice none 0 0) (cs' := []) (Own.nil fS_len) (Away.nil _)
    refine m_stT ms ?_
    rintro wd ms
    have hcsL : ([] : List (List UInt8)).length ≤ 60 := by decide
    have hcL : ∀ c ∈ ([] : List (List UInt8)), c.length ≤ 8 := by simp
    have ms := ms.mono (M := n + 200) (by omega)
    try simp only [↓vsd, vsn, gW, qd, qv, ev, pick, argE, zipE, ne_eq, eq_self, forall_const, implies_true, if_true, if_false, reduceIte, reduceCtorEq, Nat.reduceEqDiff, Nat.reduceAdd, Nat.reduceLT, ↓us_sl1Cur_anyMethod, r_sl1Cur_anyMethod, ms.blk.facts, fMg]
    obtain ⟨rc, hrc, hrl⟩ := ms.res
    obtain ⟨a1, a2, a3, rfl⟩ : ∃ a b c, rc = [a, b, c] := by match rc, hrl with | [a, b, c], _ => exact ⟨a, b, c, rfl⟩
    refine m_st hrc rfl (Nat.le_refl 3) (fM_one _ _ _ ms.own.sq.one') ?_
    rintro wr hbr hur
    have hbr' : Blk wr b1 (fM _ _ _) 44 := hbr
    have hlo := ms.lo
    simp only [↓vsd, vsn, gW, qd, qv, ev, pick, argE, zipE, ne_eq, eq_self, forall_const, implies_true, if_true, if_false, reduceIte, reduceCtorEq, Nat.reduceEqDiff, Nat.reduceAdd, Nat.reduceLT, ↓us_sl1Cur_anyMethod, r_sl1Cur_anyMethod, hbr'.facts, fMg]
    exact ⟨ms.cur.keep hur.grown (fun c hc => by have := Option.some.inj hc; omega), grown_new ms.gr hur.grown (fun c hc => by have := Option.some.inj hc; omega), _, _, _, _, rfl, (ms.own.upd hur (ms.own.away' (by omega))).mono (by omega), hnmL, hstL, hcsL, hcL⟩
  · refine m_callw (.inl rfl) (sl1Cur_pick_ok W b _ 2 (by omega) _ (by omega) ms.cur) ?_
    rintro _ w6 ⟨hc6, hg6, q2, rfl, hq2⟩
    have ms := ms.draw hc6 hg6
    obtain ⟨s, rfl⟩ : ∃ s : Nat, st = s := ⟨st.toNat, by omega⟩
    have hs8 : 3 ≤ s ∧ s ≤ 8 := by have := hm.2.1; omega
    simp only [↓vsd, vsn, gW, qd, qv, ev, pick, argE, zipE, ne_eq, eq_self, forall_const, implies_true, if_true, if_false, reduceIte, reduceCtorEq, Nat.reduceEqDiff, Nat.reduceAdd, Nat.reduceLT, ↓us_sl1Cur_anyMethod, r_sl1Cur_anyMethod]
    refine ⟨inR_i64 (by omega), ?_⟩
    refine m_loop (fun m vs w' => ∃ xx cc, vs = [] ∧ MT W b (n + 70 + 2 * (cc.length - cs.length)) w b1 bm nm s xx xx cc w' ∧ cs.length ≤ cc.length ∧ m = 41 - cc.length ∧ cc.length ≤ 41 ∧ ∀ c ∈ cc, c.length ≤ 8) (41 - cs.length) ⟨x, cs, by first | rfl | (simp; done), ms.mono (by omega), Nat.le_refl _, rfl, by have := hm.2.2.1; omega, hcL⟩ ?_
    rintro m vs w7 ⟨xx, cc, rfl, ms, hcc, hmm, hc41, hcL⟩
    by_cases hlt : (cc.length : Int) < 40 + q2
    · have hltJ : ¬ (40 : Int) + q2 ≤ cc.length := by omega
      simp only [↓vsd, vsn, gW, qd, qv, ev, pick, argE, zipE, ne_eq, eq_self, forall_const, implies_true, if_true, if_false, reduceIte, reduceCtorEq, Nat.reduceEqDiff, Nat.reduceAdd, Nat.reduceLT, ↓us_sl1Cur_anyMethod, r_sl1Cur_anyMethod, ms.blk.facts, fMg, ms.own.sq.facts, hlt, hltJ]
      have ms := ms.drew
      refine ⟨?_, ?_⟩
      · refine m_callw (.inr rfl) (sl1Cur_change_ok W b _ s (by omega) _ (by omega) ms.cur) ?_
        rintro _ w12 ⟨hc12, hg12, ch, rfl, hch⟩
        have ms := ms.draw hc12 hg12
        simp only [↓vsd, vsn, gW, qd, qv, ev, pick, argE, zipE, ne_eq, eq_self, forall_const, implies_true, if_true, if_false, reduceIte, reduceCtorEq, Nat.reduceEqDiff, Nat.reduceAdd, Nat.reduceLT, ↓us_sl1Cur_anyMethod, r_sl1Cur_anyMethod]
        refine m_bsl (one_el rfl) ?_
        rintro bb wb hbb hblkb hxb hsb
        have ms := ms.ext (by first | exact hxb | exact ud hxb)
        simp only [↓vsd, vsn, gW, qd, qv, ev, pick, argE, zipE, ne_eq, eq_self, forall_const, implies_true, if_true, if_false, reduceIte, reduceCtorEq, Nat.reduceEqDiff, Nat.reduceAdd, Nat.reduceLT, ↓us_sl1Cur_anyMethod, r_sl1Cur_anyMethod, ms.blk.facts, fMg]
        refine m_app2 ms.own (Sq.one fS_len hblkb rfl) fS_one (by decide) (by simp only [List.length_singleton]; omega) (by decide) ms.room ?_
        rintro yy wc hoc hgc hnc
        have ms := ms.app hoc hgc hnc
        simp only [↓vsd, vsn, gW, qd, qv, ev, pick, argE, zipE, ne_eq, eq_self, forall_const, implies_true, if_true, if_false, reduceIte, reduceCtorEq, Nat.reduceEqDiff, Nat.reduceAdd, Nat.reduceLT, ↓us_sl1Cur_anyMethod, r_sl1Cur_anyMethod]
        refine m_stT ms ?_
        rintro wd ms
        have hll : (cc ++ [ch]).length = cc.length + 1 := by rw [List.length_append, List.length_singleton]
        have hch8 := hch.len
        simp only [↓vsd, vsn, gW, qd, qv, ev, pick, argE, zipE, ne_eq, eq_self, forall_const, implies_true, if_true, if_false, reduceIte, reduceCtorEq, Nat.reduceEqDiff, Nat.reduceAdd, Nat.reduceLT, ↓us_sl1Cur_anyMethod, r_sl1Cur_anyMethod]
        exact ⟨41 - (cc.length + 1), by omega, yy, cc ++ [ch], ms.mono (by omega), by omega, by omega, by omega, fun c hc => by
          rcases List.mem_append.1 hc with hc | hc
          · exact hcL c hc
          · rw [List.mem_singleton.1 hc]; omega⟩
      · refine m_callw (.inr rfl) (sl1Cur_change_ok W b _ s (by omega) _ (by omega) ms.cur) ?_
        rintro _ w12 ⟨hc12, hg12, ch, rfl, hch⟩
        have ms := ms.draw hc12 hg12
        simp only [↓vsd, vsn, gW, qd, qv, ev, pick, argE, zipE, ne_eq, eq_self, forall_const, implies_true, if_true, if_false, reduceIte, reduceCtorEq, Nat.reduceEqDiff, Nat.reduceAdd, Nat.reduceLT, ↓us_sl1Cur_anyMethod, r_sl1Cur_anyMethod, ms.blk.facts, fMg]
        refine ⟨?_, ?_⟩
        · skip
          refine m_bsl (one_el rfl) ?_
          rintro bb wb hbb hblkb hxb hsb
          have ms := ms.ext (by first | exact hxb | exact ud hxb)
          simp only [↓vsd, vsn, gW, qd, qv, ev, pick, argE, zipE, ne_eq, eq_self, forall_const, implies_true, if_true, if_false, reduceIte, reduceCtorEq, Nat.reduceEqDiff, Nat.reduceAdd, Nat.reduceLT, ↓us_sl1Cur_anyMethod, r_sl1Cur_anyMethod, ms.blk.facts, fMg]
          refine m_app2 ms.own (Sq.one fS_len hblkb rfl) fS_one (by decide) (by simp only [List.length_singleton]; omega) (by decide) ms.room ?_
          rintro yy wc hoc hgc hnc
          have ms := ms.app hoc hgc hnc
          simp only [↓vsd, vsn, gW, qd, qv, ev, pick, argE, zipE, ne_eq, eq_self, forall_const, implies_true, if_true, if_false, reduceIte, reduceCtorEq, Nat.reduceEqDiff, Nat.reduceAdd, Nat.reduceLT, ↓us_sl1Cur_anyMethod, r_sl1Cur_anyMethod]
          refine m_stT ms ?_
          rintro wd ms
          have hll : (cc ++ [ch]).length = cc.length + 1 := by rw [List.length_append, List.length_singleton]
          have hch8 := hch.len
          simp only [↓vsd, vsn, gW, qd, qv, ev, pick, argE, zipE, ne_eq, eq_self, forall_const, implies_true, if_true, if_false, reduceIte, reduceCtorEq, Nat.reduceEqDiff, Nat.reduceAdd, Nat.reduceLT, ↓us_sl1Cur_anyMethod, r_sl1Cur_anyMethod]
          exact ⟨41 - (cc.length + 1), by omega, yy, cc ++ [ch], ms.mono (by omega), by omega, by omega, by omega, fun c hc => by
            rcases List.mem_append.1 hc with hc | hc
            · exact hcL c hc
            · rw [List.mem_singleton.1 hc]; omega⟩
        · skip
          refine m_bsl (one_el rfl) ?_
          rintro bb wb hbb hblkb hxb hsb
          have ms := ms.ext (by first | exact hxb | exact ud hxb)
          simp only [↓vsd, vsn, gW, qd, qv, ev, pick, argE, zipE, ne_eq, eq_self, forall_const, implies_true, if_true, if_false, reduceIte, reduceCtorEq, Nat.reduceEqDiff, Nat.reduceAdd, Nat.reduceLT, ↓us_sl1Cur_anyMethod, r_sl1Cur_anyMethod, ms.blk.facts, fMg]
          refine m_app2 ms.own (Sq.one fS_len hblkb rfl) fS_one (by decide) (by simp only [List.length_singleton]; omega) (by decide) ms.room ?_
          rintro yy wc hoc hgc hnc
          have ms := ms.app hoc hgc hnc
          simp only [↓vsd, vsn, gW, qd, qv, ev, pick, argE, zipE, ne_eq, eq_self, forall_const, implies_true, if_true, if_false, reduceIte, reduceCtorEq, Nat.reduceEqDiff, Nat.reduceAdd, Nat.reduceLT, ↓us_sl1Cur_anyMethod, r_sl1Cur_anyMethod]
          refine m_stT ms ?_
          rintro wd ms
          have hll : (cc ++ [ch]).length = cc.length + 1 := by rw [List.length_append, List.length_singleton]
          have hch8 := hch.len
          simp only [↓vsd, vsn, gW, qd, qv, ev, pick, argE, zipE, ne_eq, eq_self, forall_const, implies_true, if_true, if_false, reduceIte, reduceCtorEq, Nat.reduceEqDiff, Nat.reduceAdd, Nat.reduceLT, ↓us_sl1Cur_anyMethod, r_sl1Cur_anyMethod]
          exact ⟨41 - (cc.length + 1), by omega, yy, cc ++ [ch], ms.mono (by omega), by omega, by omega, by omega, fun c hc => by
            rcases List.mem_append.1 hc with hc | hc
            · exact hcL c hc
            · rw [List.mem_singleton.1 hc]; omega⟩
    · have hltJ : (40 : Int) + q2 ≤ cc.length := by omega
      simp only [↓vsd, vsn, gW, qd, qv, ev, pick, argE, zipE, ne_eq, eq_self, forall_const, implies_true, if_true, if_false, reduceIte, reduceCtorEq, Nat.reduceEqDiff, Nat.reduceAdd, Nat.reduceLT, ↓us_sl1Cur_anyMethod, r_sl1Cur_anyMethod, ms.blk.facts, fMg, ms.own.sq.facts, hlt, hltJ]
      have hcsL : cc.length ≤ 60 := by omega
      have ms := ms.mono (M := n + 200) (by omega)
      try simp only [↓vsd, vsn, gW, qd, qv, ev, pick, argE, zipE, ne_eq, eq_self, forall_const, implies_true, if_true, if_false, reduceIte, reduceCtorEq, Nat.reduceEqDiff, Nat.reduceAdd, Nat.reduceLT, ↓us_sl1Cur_anyMethod, r_sl1Cur_anyMethod, ms.blk.facts, fMg]
      obtain ⟨rc, hrc, hrl⟩ := ms.res
      obtain ⟨a1, a2, a3, rfl⟩ : ∃ a b c, rc = [a, b, c] := by match rc, hrl with | [a, b, c], _ => exact ⟨a, b, c, rfl⟩
      refine m_st hrc rfl (Nat.le_refl 3) (fM_one _ _ _ ms.own.sq.one') ?_
      rintro wr hbr hur
      have hbr' : Blk wr b1 (fM _ _ _) 44 := hbr
      have hlo := ms.lo
      simp only [↓vsd, vsn, gW, qd, qv, ev, pick, argE, zipE, ne_eq, eq_self, forall_const, implies_true, if_true, if_false, reduceIte, reduceCtorEq, Nat.reduceEqDiff, Nat.reduceAdd, Nat.reduceLT, ↓us_sl1Cur_anyMethod, r_sl1Cur_anyMethod, hbr'.facts, fMg]
      exact ⟨ms.cur.keep hur.grown (fun c hc => by have := Option.some.inj hc; omega), grown_new ms.gr hur.grown (fun c hc => by have := Option.some.inj hc; omega), _, _, _, _, rfl, (ms.own.upd hur (ms.own.away' (by omega))).mono (by omega), hnmL, hstL, hcsL, hcL⟩
  · skip
    have ms := ms.mono (M := n + 200) (by omega)
    try simp only [↓vsd, vsn, gW, qd, qv, ev, pick, argE, zipE, ne_eq, eq_self, forall_const, implies_true, if_true, if_false, reduceIte, reduceCtorEq, Nat.reduceEqDiff, Nat.reduceAdd, Nat.reduceLT, ↓us_sl1Cur_anyMethod, r_sl1Cur_anyMethod, ms.blk.facts, fMg]
    obtain ⟨rc, hrc, hrl⟩ := ms.res
    obtain ⟨a1, a2, a3, rfl⟩ : ∃ a b c, rc = [a, b, c] := by match rc, hrl with | [a, b, c], _ => exact ⟨a, b, c, rfl⟩
    refine m_st hrc rfl (Nat.le_refl 3) (fM_one _ _ _ ms.own.sq.one') ?_
    rintro wr hbr hur
    have hbr' : Blk wr b1 (fM _ _ _) 44 := hbr
    have hlo := ms.lo
    simp only [↓vsd, vsn, gW, qd, qv, ev, pick, argE, zipE, ne_eq, eq_self, forall_const, implies_true, if_true, if_false, reduceIte, reduceCtorEq, Nat.reduceEqDiff, Nat.reduceAdd, Nat.reduceLT, ↓us_sl1Cur_anyMethod, r_sl1Cur_anyMethod, hbr'.facts, fMg]
    exact ⟨ms.cur.keep hur.grown (fun c hc => by have := Option.some.inj hc; omega), grown_new ms.gr hur.grown (fun c hc => by have := Option.some.inj hc; omega), _, _, _, _, rfl, (ms.own.upd hur (ms.own.away' (by omega))).mono (by omega), hnmL, hstL, hcsL, hcL⟩
end Go.Proofs.Ytfklonhjgkahdaa
