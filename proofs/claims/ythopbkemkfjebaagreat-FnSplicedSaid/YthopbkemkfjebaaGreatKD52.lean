/-
  The drawing of two methods and a row.
  Conditions: none.
-/
import Derived.Test.YthopbkemkfjebaaGreatKD15
import Derived.Test.YthopbkemkfjebaaGreatKD51
import Derived.Test.YthopbkemkfjebaaGreatKPx
set_option linter.unusedSimpArgs false
set_option linter.unusedVariables false
set_option linter.defProp false
namespace Go.Proofs.YthopbkemkfjebaaGreat
open Go Go.RowKit
section
variable (P : Program) (k : KT) (e : Env) (w : World)
abbrev b40_1 : X := (.drw [2, 3, 5, 7, 8, 9] (.c (.q 43 [] (.mv (.t 10))) (.c (.q 44 [] (.mv (.t 5))) (.c (.q 45 [] (.mv (.t 10))) (.c (.q 46 [] (.lens (.t 45))) (.c (.q 50 [] (.mv (.t 11))) (.c (.q 51 [] (.mv (.t 5))) (.c (.q 52 [] (.mv (.t 11))) (.c (.q 53 [] (.lens (.t 52))) (.c (.e (some 47) [] (.call true 61 [(.t 44), (.t 46)])) (.c (.q 48 [] (.ia 1 (.t 43) (.t 47))) (.alt (.c (.p 49 [] (.ld (.t 48))) (.c (.e (some 54) [] (.call true 61 [(.t 51), (.t 53)])) (.c (.q 55 [] (.ia 1 (.t 50) (.t 54))) (.c (.p 56 [] (.ld (.t 55))) (.c (.e (some 57) [] (.call false 94 [(.t 56)])) (.c (.e (some 58) [] (.call false 93 [(.t 49), (.t 57)])) (.c (.q 9 [] (.mv (.t 58))) .nil))))))) (.c (.e (some 54) [] (.call true 61 [(.t 51), (.t 53)])) (.c (.q 55 [] (.ia 1 (.t 50) (.t 54))) (.alt (.c (.p 49 [] (.ld (.t 48))) (.c (.p 56 [] (.ld (.t 55))) (.c (.e (some 57) [] (.call false 94 [(.t 56)])) (.c (.e (some 58) [] (.call false 93 [(.t 49), (.t 57)])) (.c (.q 9 [] (.mv (.t 58))) .nil))))) (.c (.p 56 [] (.ld (.t 55))) (.alt (.c (.p 49 [] (.ld (.t 48))) (.c (.e (some 57) [] (.call false 94 [(.t 56)])) (.c (.e (some 58) [] (.call false 93 [(.t 49), (.t 57)])) (.c (.q 9 [] (.mv (.t 58))) .nil)))) (.c (.e (some 57) [] (.call false 94 [(.t 56)])) (.c (.p 49 [] (.ld (.t 48))) (.c (.e (some 58) [] (.call false 93 [(.t 49), (.t 57)])) (.c (.q 9 [] (.mv (.t 58))) .nil)))))))))))))))))))))
def t40_1 := b40_1
theorem u40_1 : vcK P t40_1 k e w = vcK P b40_1 k e w := rfl
abbrev b40_2 : X := (.seq (.drw [2, 3, 5, 7, 8, 10, 11] (.c (.q 38 [] (.lda 3 (.t 8))) (.c (.q 39 [] (.fa 1 (.t 7))) (.c (.q 40 [] (.ld (.t 39))) (.c (.e (some 41) [] (.call false 70 [(.t 40)])) (.c (.e (some 42) [] (.call false 69 [(.t 38), (.t 41)])) (.c (.q 11 [] (.mv (.t 42))) .nil))))))) t40_1)
def t40_2 := b40_2
theorem u40_2 : vcK P t40_2 k e w = vcK P b40_2 k e w := rfl
abbrev b40_3 : X := (.cond (.t 32) (.seq (.drw [2, 3, 5, 7, 8, 10] (.c (.q 33 [] (.lda 3 (.t 7))) (.c (.q 34 [] (.fa 1 (.t 7))) (.c (.q 35 [] (.ld (.t 34))) (.c (.e (some 36) [] (.call false 70 [(.t 35)])) (.c (.e (some 37) [] (.call false 69 [(.t 33), (.t 36)])) (.c (.q 10 [] (.mv (.t 37))) .nil))))))) t40_2) .skip)
def t40_3 := b40_3
theorem u40_3 : vcK P t40_3 k e w = vcK P b40_3 k e w := rfl
abbrev b40_4 : X := (.cond (.t 60) (.reg [2, 3, 7, 8, 9] (.c (.q 61 [] (.mv (.t 5))) (.c (.e (some 62) [] (.call true 98 [(.t 61)])) (.c (.q 9 [] (.mv (.t 62))) .nil)))) .skip)
def t40_4 := b40_4
theorem u40_4 : vcK P t40_4 k e w = vcK P b40_4 k e w := rfl
abbrev b40_5 : X := (.seq (.drw [2, 3, 4] (.c (.q 63 [] (.lda 3 (.t 7))) (.c (.q 65 [] (.mv (.t 9))) (.alt (.c (.p 64 [] (.lda 3 (.t 8))) (.c (.e none [] (.st 3 (.t 2) (.t 63))) (.c (.e none [] (.st 3 (.t 3) (.t 64))) (.c (.q 4 [] (.mv (.t 65))) .nil)))) (.c (.e none [] (.st 3 (.t 2) (.t 63))) (.c (.p 64 [] (.lda 3 (.t 8))) (.c (.e none [] (.st 3 (.t 3) (.t 64))) (.c (.q 4 [] (.mv (.t 65))) .nil)))))))) .ret)
def t40_5 := b40_5
theorem u40_5 : vcK P t40_5 k e w = vcK P b40_5 k e w := rfl
abbrev b40_6 : X := (.seq (.seq (.reg [2, 3, 5, 7, 8, 9, 60] (.c (.q 59 [] (.mv (.t 5))) (.c (.e (some 60) [] (.call true 58 [(.t 59), (.c (.int .i64 16))])) .nil))) t40_4) t40_5)
def t40_6 := b40_6
theorem u40_6 : vcK P t40_6 k e w = vcK P b40_6 k e w := rfl
abbrev b40_7 : X := (.seq (.seq (.reg [2, 3, 5, 7, 8, 9, 32] (.c (.q 31 [] (.mv (.t 5))) (.c (.e (some 32) [] (.call true 58 [(.t 31), (.c (.int .i64 2))])) .nil))) t40_3) t40_6)
def t40_7 := b40_7
theorem u40_7 : vcK P t40_7 k e w = vcK P b40_7 k e w := rfl
abbrev b40_8 : X := (.seq (.reg [2, 3, 5, 7, 8, 9] (.c (.q 27 [] (.mv (.t 5))) (.c (.q 28 [] (.fa 1 (.t 7))) (.c (.q 29 [] (.ld (.t 28))) (.c (.e (some 30) [] (.call true 62 [(.t 27), (.t 29)])) (.c (.q 9 [] (.mv (.t 30))) .nil)))))) t40_7)
def t40_8 := b40_8
theorem u40_8 : vcK P t40_8 k e w = vcK P b40_8 k e w := rfl
abbrev b40_9 : X := (.seq (.reg [2, 3, 5, 7, 8] (.c (.q 20 [] (.mv (.t 6))) (.c (.q 21 [] (.mv (.t 5))) (.c (.q 22 [] (.mv (.t 6))) (.c (.q 23 [] (.lens (.t 22))) (.c (.e (some 24) [] (.call true 61 [(.t 21), (.t 23)])) (.c (.q 25 [] (.ia 3 (.t 20) (.t 24))) (.c (.q 26 [] (.lda 3 (.t 25))) (.c (.e (some 8) [] (.al 25 [(S []), (.int .i64 0), (.slice none 0 0)])) (.c (.e none [] (.st 3 (.t 8) (.t 26))) .nil)))))))))) t40_8)
def t40_9 := b40_9
theorem u40_9 : vcK P t40_9 k e w = vcK P b40_9 k e w := rfl
abbrev b40_10 : X := (.seq (.reg [2, 3, 5, 6, 7] (.c (.q 17 [] (.mv (.t 6))) (.c (.q 18 [] (.ia 3 (.t 17) (.c (.int .i64 0)))) (.c (.q 19 [] (.lda 3 (.t 18))) (.c (.e (some 7) [] (.al 25 [(S []), (.int .i64 0), (.slice none 0 0)])) (.c (.e none [] (.st 3 (.t 7) (.t 19))) .nil)))))) t40_9)
def t40_10 := b40_10
theorem u40_10 : vcK P t40_10 k e w = vcK P b40_10 k e w := rfl
abbrev b40_11 : X := (.seq (.reg [2, 3, 5, 6] (.c (.q 15 [] (.mv (.t 5))) (.c (.e (some 16) [] (.call true 97 [(.t 15)])) (.c (.q 6 [] (.mv (.t 16))) .nil)))) t40_10)
def t40_11 := b40_11
theorem u40_11 : vcK P t40_11 k e w = vcK P b40_11 k e w := rfl
abbrev b40_12 : X := (.seq (.reg [2, 3, 5] (.c (.q 12 [] (.mv (.t 0))) (.c (.q 13 [] (.bld [(.slice none 0 0), (.int .i64 0), (.int .u64 0)] [(0, 0, (.t 12))])) (.c (.e (some 14) [] (.box 78 (.t 13))) (.c (.q 5 [] (.mv (.t 14))) .nil))))) t40_11)
def t40_12 := b40_12
theorem u40_12 : vcK P t40_12 k e w = vcK P b40_12 k e w := rfl
abbrev b40_0 : X := (.seq (.reg [0, 2, 3] (.c (.e (some 2) [] (.al 25 [(S []), (.int .i64 0), (.slice none 0 0)])) (.c (.e (some 3) [] (.al 25 [(S []), (.int .i64 0), (.slice none 0 0)])) (.c (.q 4 [] (.mv (.s []))) .nil)))) t40_12)
def x_sDrawFalseBetween := b40_0
theorem u40_0 : vcK P x_sDrawFalseBetween k e w = vcK P b40_0 k e w := rfl
def r_sDrawFalseBetween : List XO := [(.lda 3 (.t 2)), (.lda 3 (.t 3)), (.mv (.t 4))]
theorem c_sDrawFalseBetween : convF Tryz.prog [56, 58, 59, 60, 61, 62, 72, 73, 77, 97, 98, 109, 110, 111, 112, 115, 128, 136] Tryz.f40 [([0, 2, 3], []), ([2, 3, 5], []), ([2, 3, 5, 6], []), ([2, 3, 5, 6, 7], []), ([2, 3, 5, 7, 8], []), ([2, 3, 5, 7, 8, 9], []), ([2, 3, 5, 7, 8, 9, 32], []), ([2, 3, 5, 7, 8, 10], []), ([2, 3, 5, 7, 8, 10, 11], []), ([2, 3, 5, 7, 8, 9], []), ([2, 3, 5, 7, 8, 9, 60], []), ([2, 3, 7, 8, 9], []), ([2, 3, 4], [])] = some (x_sDrawFalseBetween, r_sDrawFalseBetween) := by kernel_rfl
def us_sDrawFalseBetween :=  (aI (aI (aI @u40_0 (aI @u40_1 @u40_2)) (aI @u40_3 (aI @u40_4 @u40_5))) (aI (aI @u40_6 (aI @u40_7 @u40_8)) (aI (aI @u40_9 @u40_10) (aI @u40_11 @u40_12))))
end
/-- Two methods of one stage and a text. -/
def TwoM (r : Value) (w' : World) : Prop := ∃ (nm : Bs) (st : Nat) (x : Value) (cs : List Bs) (nm2 : Bs) (x2 : Value) (cs2 : List Bs) (f : Bs), r = .tuple ⟨[mV nm st x, mV nm2 st x2, S f]⟩ ∧ Sq fS 1 w' x cs ∧ Sq fS 1 w' x2 cs2 ∧ IsMethod nm st cs ∧ IsMethod nm2 st cs2 ∧ f.length ≤ 10
structure HF (w1 : World) (b0 b1 b b7 b8 B N n : Nat) (nm nm2 : Bs) (va vb : Value) (ca cb : List Bs) (u : World) : Prop where
  cur : Cur w1 b N u
  a : Blk u b7 (fM nm n va) 25
  bb : Blk u b8 (fM nm2 n vb) 25
  r0 : Blk u b0 (fM [] 0 (.slice none 0 0)) 25
  r1 : Blk u b1 (fM [] 0 (.slice none 0 0)) 25
  oa : Own fS 1 9 B u va ca
  ob : Own fS 1 9 B u vb cb
  lo : b0 < b1 ∧ b1 < b ∧ b < B ∧ B ≤ b7 ∧ b7 < b8
section
variable {w1 : World} {b0 b1 b b7 b8 B N M n : Nat} {nm nm2 : Bs} {va vb : Value} {ca cb : List Bs} {u u' : World}
theorem HF.draw (h : HF w1 b0 b1 b b7 b8 B N n nm nm2 va vb ca cb u) (hc : Cur w1 b M u') (hg : u.grownBy u' (some b)) : HF w1 b0 b1 b b7 b8 B M n nm nm2 va vb ca cb u' := by
  have hl := h.lo
  have key : ∀ c, c ≠ b → c < u.heap.size → u'.heap[c]? = u.heap[c]? := fun c hc hlt => hg.block c hlt (fun e => hc (Option.some.inj e))
  exact ⟨hc, h.a.same (key _ (by omega) h.a.lt), h.bb.same (key _ (by omega) h.bb.lt), h.r0.same (key _ (by omega) h.r0.lt), h.r1.same (key _ (by omega) h.r1.lt), h.oa.keep hg (fun c hc => by have := Option.some.inj hc; omega), h.ob.keep hg (fun c hc => by have := Option.some.inj hc; omega), hl⟩
theorem HF.ext (h : HF w1 b0 b1 b b7 b8 B N n nm nm2 va vb ca cb u) (hx : Ext u u') : HF w1 b0 b1 b b7 b8 B N n nm nm2 va vb ca cb u' :=
  ⟨h.cur.ext hx, h.a.ext hx, h.bb.ext hx, h.r0.ext hx, h.r1.ext hx, h.oa.ext hx, h.ob.ext hx, h.lo⟩
theorem HF.mono (h : HF w1 b0 b1 b b7 b8 B N n nm nm2 va vb ca cb u) (hm : N ≤ M) : HF w1 b0 b1 b b7 b8 B M n nm nm2 va vb ca cb u := ⟨h.cur.mono hm, h.a, h.bb, h.r0, h.r1, h.oa, h.ob, h.lo⟩
end
theorem sDrawFalseBetween_ok (v : Value) (code : List UInt8) (hl : code.length ≤ 1048576) (w : World) (h : Sq fU 1 w v code) : Fn 40 [v] w (fun r w' => TwoM r w') := by
  (refine callsV_of mix Tryz.func40 c_sDrawFalseBetween ?_; simp only [↓vsd, vsn, gW, qd, qv, ev, pick, argE, zipE, ne_eq, eq_self, forall_const, implies_true, if_true, if_false, reduceIte, reduceCtorEq, Nat.reduceEqDiff, Nat.reduceAdd, Nat.reduceLT, ↓us_sDrawFalseBetween, r_sDrawFalseBetween])
  refine m_al ?_
  rintro b0 w0 hb0 hblk0 hx0 hs0
  simp only [↓vsd, vsn, gW, qd, qv, ev, pick, argE, zipE, ne_eq, eq_self, forall_const, implies_true, if_true, if_false, reduceIte, reduceCtorEq, Nat.reduceEqDiff, Nat.reduceAdd, Nat.reduceLT, ↓us_sDrawFalseBetween, r_sDrawFalseBetween]
  refine m_al ?_
  rintro b1 w1 hb1 hblk1 hx1 hs1
  have hx01 := hx0.trans hx1
  have h1 := h.ext hx01
  simp only [↓vsd, vsn, gW, qd, qv, ev, pick, argE, zipE, ne_eq, eq_self, forall_const, implies_true, if_true, if_false, reduceIte, reduceCtorEq, Nat.reduceEqDiff, Nat.reduceAdd, Nat.reduceLT, ↓us_sDrawFalseBetween, r_sDrawFalseBetween, h1.facts]
  refine m_al ?_
  rintro b w2 hb hblk2 hx2 hs2
  have hc := Cur.new h1 hl hb hblk2 hx2
  have hlt := hc.lt
  simp only [↓vsd, vsn, gW, qd, qv, ev, pick, argE, zipE, ne_eq, eq_self, forall_const, implies_true, if_true, if_false, reduceIte, reduceCtorEq, Nat.reduceEqDiff, Nat.reduceAdd, Nat.reduceLT, ↓us_sDrawFalseBetween, r_sDrawFalseBetween]
  refine m_callw (.inl rfl) (sl1Cur_spliced_ok w1 b _ w2 (by omega) hc) ?_
  rintro y w3 ⟨hc3, hg3, ms, css, hM3, hO⟩
  have hms := hO.1
  have q3 := hM3.sq.1.facts
  have m3 := hM3.sq.m0 (by omega)
  have p3 := hM3.sq.p0 (by omega)
  have z3 : (0 : Int) < ms.length := by omega
  obtain ⟨hm0, _⟩ := hO.2 0 (by omega)
  simp only [↓vsd, vsn, gW, qd, qv, ev, pick, argE, zipE, ne_eq, eq_self, forall_const, implies_true, if_true, if_false, reduceIte, reduceCtorEq, Nat.reduceEqDiff, Nat.reduceAdd, Nat.reduceLT, ↓us_sDrawFalseBetween, r_sDrawFalseBetween, q3, m3, p3, z3]
  refine ⟨by decide, m_al ?_⟩
  rintro b7 w4 hb7 hblk4 hx4 hs4
  simp only [↓vsd, vsn, gW, qd, qv, ev, pick, argE, zipE, ne_eq, eq_self, forall_const, implies_true, if_true, if_false, reduceIte, reduceCtorEq, Nat.reduceEqDiff, Nat.reduceAdd, Nat.reduceLT, ↓us_sDrawFalseBetween, r_sDrawFalseBetween]
  refine m_st hblk4 rfl (Nat.le_refl 3) (fM_one _ _ _ rfl) ?_
  rintro w5 hblk5 hu5
  have h7 : Blk w5 b7 (fM (ms.getD 0 MS.nil).nm (ms.getD 0 MS.nil).st (ms.getD 0 MS.nil).sv.v) 25 := hblk5
  have hx35 : Ext w3 w5 := hu5.below hx4 (by omega)
  have hM5 := hM3.ext hx35
  have hc5 := hc3.ext hx35
  have q5 := hM5.sq.1.facts
  have lc := hc3.lt
  simp only [↓vsd, vsn, gW, qd, qv, ev, pick, argE, zipE, ne_eq, eq_self, forall_const, implies_true, if_true, if_false, reduceIte, reduceCtorEq, Nat.reduceEqDiff, Nat.reduceAdd, Nat.reduceLT, ↓us_sDrawFalseBetween, r_sDrawFalseBetween, q5]
  refine m_callw (by first | exact .inl rfl | exact .inr rfl) (sl1Cur_pick_ok w1 b (0 + 4000) (ms.length : Nat) (by omega) _ (by omega) (by first | exact hc5 | exact hc5.ext (dr (Ext.refl _)))) ?_
  rintro _ w6 ⟨hc6, hg6, k, rfl, hk⟩
  have hg6 : w5.grownBy w6 (some b) := by first | exact hg6 | exact gud hg6
  have hk : k < ms.length := by omega
  have hM6 := hM5.keep hg6 hlt.2
  have h76 := h7.same (hg6.block b7 h7.lt (fun e => by have := Option.some.inj e; omega))
  obtain ⟨hmk, hsk⟩ := hO.2 k hk
  obtain ⟨n, hn⟩ : ∃ n : Nat, (ms.getD 0 MS.nil).st = n := ⟨(ms.getD 0 MS.nil).st.toNat, by have := hm0.2.1; omega⟩
  rw [hn] at hsk hm0 h7 h76
  have h38 : 3 ≤ n ∧ n ≤ 8 := by have := hm0.2.1; omega
  have q6 := hM6.sq.1.facts
  have a6 := hM6.sq.at hk hsk
  have kI : (k : Int) < ms.length := by omega
  rw [hsk] at hmk
  simp only [↓vsd, vsn, gW, qd, qv, ev, pick, argE, zipE, ne_eq, eq_self, forall_const, implies_true, if_true, if_false, reduceIte, reduceCtorEq, Nat.reduceEqDiff, Nat.reduceAdd, Nat.reduceLT, ↓us_sDrawFalseBetween, r_sDrawFalseBetween, q6, a6, kI]
  refine ⟨by omega, m_al ?_⟩
  rintro b8 w7 hb8 hblk7 hx7 hs7
  simp only [↓vsd, vsn, gW, qd, qv, ev, pick, argE, zipE, ne_eq, eq_self, forall_const, implies_true, if_true, if_false, reduceIte, reduceCtorEq, Nat.reduceEqDiff, Nat.reduceAdd, Nat.reduceLT, ↓us_sDrawFalseBetween, r_sDrawFalseBetween]
  refine m_st hblk7 rfl (Nat.le_refl 3) (fM_one _ _ _ rfl) ?_
  rintro w8 hblk8 hu8
  have h8 : Blk w8 b8 (fM (ms.getD k MS.nil).nm n (ms.getD k MS.nil).sv.v) 25 := hblk8
  have hd6 : w6.drew.heap.size = w6.heap.size := rfl
  have hx68 : Ext w6 w8 := hu8.below (by first | exact hx7 | exact ud hx7) (by omega)
  have hM8 := hM6.ext hx68
  have h78 := h76.ext hx68
  have hc8 := hc6.ext hx68
  have lc6 := hc6.lt
  have hb01 := hblk0.ext hx1
  have hlk := hblk0.lt
  have hd1 : w1.drew.heap.size = w1.heap.size := rfl
  have hkeep : ∀ c cs, Blk w2 c cs 25 → c ≠ b → Blk w8 c cs 25 := fun c cs hcc hne =>
    (((hcc.same (hg3.block c hcc.lt (fun e => hne (Option.some.inj e)))).ext hx35).same (hg6.block c ((hcc.same (hg3.block c hcc.lt (fun e => hne (Option.some.inj e)))).ext hx35).lt (fun e => hne (Option.some.inj e)))).ext hx68
  have hs3 := hg3.size
  have hs35 := hx35.size
  have hs6 := hg6.size
  have l76 := h76.lt
  have hr0 := hkeep b0 _ (hb01.ext hx2) (by omega)
  have hr1 := hkeep b1 _ (hblk1.ext hx2) (by omega)
  have hf : HF w1 b0 b1 b b7 b8 w2.heap.size 4010 n (ms.getD 0 MS.nil).nm (ms.getD k MS.nil).nm (ms.getD 0 MS.nil).sv.v (ms.getD k MS.nil).sv.v (css.getD 0 []) (css.getD k []) w8 := ⟨hc8.mono (by omega), h78, h8, hr0, hr1, (hM8.all 0 (by omega)).1, (hM8.all k hk).1, by omega⟩
  have hma : IsMethod (ms.getD 0 MS.nil).nm n (css.getD 0 []) := hm0
  have hmb := hmk
  clear hkeep hr0 hr1 hM8 hM6 hM5 hM3 h78 h76 h7 h8 hc8 hc6 hc5 hc3 hblk8 hblk7 hblk5 hblk4 hu8 hu5 a6 q6 q5 q3 m3 p3 hm0 hmk hsk hb01
  generalize (ms.getD 0 MS.nil).nm = nm at *
  generalize (ms.getD k MS.nil).nm = nm2 at *
  generalize (ms.getD 0 MS.nil).sv.v = va at *
  generalize (ms.getD k MS.nil).sv.v = vb at *
  generalize css.getD 0 [] = ca at *
  generalize css.getD k [] = cb at *
  simp only [↓vsd, vsn, gW, qd, qv, ev, pick, argE, zipE, ne_eq, eq_self, forall_const, implies_true, if_true, if_false, reduceIte, reduceCtorEq, Nat.reduceEqDiff, Nat.reduceAdd, Nat.reduceLT, ↓us_sDrawFalseBetween, r_sDrawFalseBetween, hf.a.facts, fMg]
  refine m_callw (by first | exact .inl rfl | exact .inr rfl) (sl1Cur_row_ok w1 b 4010 n h38 _ (by omega) hf.cur) ?_
  rintro _ w9 ⟨hc9, hg9, f, rfl, hfl⟩
  have hf := hf.draw hc9 hg9
  simp only [↓vsd, vsn, gW, qd, qv, ev, pick, argE, zipE, ne_eq, eq_self, forall_const, implies_true, if_true, if_false, reduceIte, reduceCtorEq, Nat.reduceEqDiff, Nat.reduceAdd, Nat.reduceLT, ↓us_sDrawFalseBetween, r_sDrawFalseBetween]
  refine m_callw (by first | exact .inl rfl | exact .inr rfl) (sl1Cur_one_ok w1 b _ 2 (by omega) _ (by omega) hf.cur) ?_
  rintro _ w10 ⟨hc10, hg10, z, rfl⟩
  have hf := hf.draw hc10 hg10
  have hf10 := hf
  cases z
  · simp only [↓vsd, vsn, gW, qd, qv, ev, pick, argE, zipE, ne_eq, eq_self, forall_const, implies_true, if_true, if_false, reduceIte, reduceCtorEq, Nat.reduceEqDiff, Nat.reduceAdd, Nat.reduceLT, ↓us_sDrawFalseBetween, r_sDrawFalseBetween]
    refine m_callw (by first | exact .inl rfl | exact .inr rfl) (sl1Cur_one_ok w1 b 4200 16 (by omega) _ (by omega) (hf.cur.mono (by omega))) ?_
    rintro _ w31 ⟨hc31, hg31, z, rfl⟩
    have hf := hf.draw hc31 hg31
    cases z
    · simp only [↓vsd, vsn, gW, qd, qv, ev, pick, argE, zipE, ne_eq, eq_self, forall_const, implies_true, if_true, if_false, reduceIte, reduceCtorEq, Nat.reduceEqDiff, Nat.reduceAdd, Nat.reduceLT, ↓us_sDrawFalseBetween, r_sDrawFalseBetween, hf.a.facts, hf.bb.facts, fMg]
      refine ⟨?_, ?_⟩
      all_goals
        refine m_st hf.r0 rfl (Nat.le_refl 3) (fM_one _ _ _ hf.oa.sq.one') ?_
        rintro wA hblkA huA
        have hA : Blk wA b0 (fM nm n va) 25 := hblkA
        have hlo := hf.lo
        have hfd := hf.ext (dr (Ext.refl _))
        have hbA := huA.blk hf.bb (by omega)
        have h1A := huA.blk hf.r1 (by omega)
        have hoa := hfd.oa.upd huA (hf.oa.away' (by omega))
        have hob := hfd.ob.upd huA (hf.ob.away' (by omega))
        simp only [↓vsd, vsn, gW, qd, qv, ev, pick, argE, zipE, ne_eq, eq_self, forall_const, implies_true, if_true, if_false, reduceIte, reduceCtorEq, Nat.reduceEqDiff, Nat.reduceAdd, Nat.reduceLT, ↓us_sDrawFalseBetween, r_sDrawFalseBetween, hbA.facts, fMg]
        refine m_st h1A rfl (Nat.le_refl 3) (fM_one _ _ _ hob.sq.one') ?_
        rintro wB hblkB huB
        have hB : Blk wB b1 (fM nm2 n vb) 25 := hblkB
        have hAB := huB.blk hA (by omega)
        simp only [↓vsd, vsn, gW, qd, qv, ev, pick, argE, zipE, ne_eq, eq_self, forall_const, implies_true, if_true, if_false, reduceIte, reduceCtorEq, Nat.reduceEqDiff, Nat.reduceAdd, Nat.reduceLT, ↓us_sDrawFalseBetween, r_sDrawFalseBetween, hAB.facts, hB.facts, fMg]
        exact ⟨huB.below (huA.below (hx01.trans hfd.cur.base) (by omega)) (by omega), nm, n, va, ca, nm2, vb, cb, _, rfl, (hoa.upd huB (hoa.away' (by omega))).sq, (hob.upd huB (hob.away' (by omega))).sq, hma, hmb, by omega⟩
    · simp only [↓vsd, vsn, gW, qd, qv, ev, pick, argE, zipE, ne_eq, eq_self, forall_const, implies_true, if_true, if_false, reduceIte, reduceCtorEq, Nat.reduceEqDiff, Nat.reduceAdd, Nat.reduceLT, ↓us_sDrawFalseBetween, r_sDrawFalseBetween]
      refine m_callw (by first | exact .inl rfl | exact .inr rfl) (sl1Cur_anyRow_ok w1 b _ _ (by omega) hf.cur) ?_
      rintro _ w32 ⟨hc32, hg32, f, rfl, hfl⟩
      have hf := hf.draw hc32 hg32
      simp only [↓vsd, vsn, gW, qd, qv, ev, pick, argE, zipE, ne_eq, eq_self, forall_const, implies_true, if_true, if_false, reduceIte, reduceCtorEq, Nat.reduceEqDiff, Nat.reduceAdd, Nat.reduceLT, ↓us_sDrawFalseBetween, r_sDrawFalseBetween, hf.a.facts, hf.bb.facts, fMg]
      refine ⟨?_, ?_⟩
      all_goals
        refine m_st hf.r0 rfl (Nat.le_refl 3) (fM_one _ _ _ hf.oa.sq.one') ?_
        rintro wA hblkA huA
        have hA : Blk wA b0 (fM nm n va) 25 := hblkA
        have hlo := hf.lo
        have hfd := hf.ext (dr (Ext.refl _))
        have hbA := huA.blk hf.bb (by omega)
        have h1A := huA.blk hf.r1 (by omega)
        have hoa := hfd.oa.upd huA (hf.oa.away' (by omega))
        have hob := hfd.ob.upd huA (hf.ob.away' (by omega))
        simp only [↓vsd, vsn, gW, qd, qv, ev, pick, argE, zipE, ne_eq, eq_self, forall_const, implies_true, if_true, if_false, reduceIte, reduceCtorEq, Nat.reduceEqDiff, Nat.reduceAdd, Nat.reduceLT, ↓us_sDrawFalseBetween, r_sDrawFalseBetween, hbA.facts, fMg]
        refine m_st h1A rfl (Nat.le_refl 3) (fM_one _ _ _ hob.sq.one') ?_
        rintro wB hblkB huB
        have hB : Blk wB b1 (fM nm2 n vb) 25 := hblkB
        have hAB := huB.blk hA (by omega)
        simp only [↓vsd, vsn, gW, qd, qv, ev, pick, argE, zipE, ne_eq, eq_self, forall_const, implies_true, if_true, if_false, reduceIte, reduceCtorEq, Nat.reduceEqDiff, Nat.reduceAdd, Nat.reduceLT, ↓us_sDrawFalseBetween, r_sDrawFalseBetween, hAB.facts, hB.facts, fMg]
        exact ⟨huB.below (huA.below (hx01.trans hfd.cur.base) (by omega)) (by omega), nm, n, va, ca, nm2, vb, cb, _, rfl, (hoa.upd huB (hoa.away' (by omega))).sq, (hob.upd huB (hob.away' (by omega))).sq, hma, hmb, by omega⟩
  · simp only [↓vsd, vsn, gW, qd, qv, ev, pick, argE, zipE, ne_eq, eq_self, forall_const, implies_true, if_true, if_false, reduceIte, reduceCtorEq, Nat.reduceEqDiff, Nat.reduceAdd, Nat.reduceLT, ↓us_sDrawFalseBetween, r_sDrawFalseBetween, hf.a.facts, hf.bb.facts, fMg]
    have hr0 : IsRow (roundsL n) := roundsL_row n h38
    have hcla := hma.2.2.1
    have hclb := hmb.2.2.1
    refine m_call (sl1Rounds_ok n (by omega) _) ?_
    rintro _ w11 hx11 rfl
    have hx11 : Ext w10 w11 := by first | exact hx11 | exact ud hx11 | exact ud (ud hx11)
    have hf := hf.ext hx11
    simp only [↓vsd, vsn, gW, qd, qv, ev, pick, argE, zipE, ne_eq, eq_self, forall_const, implies_true, if_true, if_false, reduceIte, reduceCtorEq, Nat.reduceEqDiff, Nat.reduceAdd, Nat.reduceLT, ↓us_sDrawFalseBetween, r_sDrawFalseBetween]
    refine m_call (sl11Lead_ok nm n va ca (roundsL n) hma hr0 _ (by first | exact hf.oa.sq | exact hf.oa.sq.ext (dr (Ext.refl _)))) ?_
    rintro x w12 hx12 hox
    have hx12 : Ext w11 w12 := by first | exact hx12 | exact ud hx12 | exact ud (ud hx12)
    have hf := hf.ext hx12
    have lf := hf.a.lt
    simp only [↓vsd, vsn, gW, qd, qv, ev, pick, argE, zipE, ne_eq, eq_self, forall_const, implies_true, if_true, if_false, reduceIte, reduceCtorEq, Nat.reduceEqDiff, Nat.reduceAdd, Nat.reduceLT, ↓us_sDrawFalseBetween, r_sDrawFalseBetween, hf.a.facts, hf.bb.facts, fMg]
    refine m_call (sl1Rounds_ok n (by omega) _) ?_
    rintro _ w13 hx13 rfl
    have hx13 : Ext w12 w13 := by first | exact hx13 | exact ud hx13 | exact ud (ud hx13)
    have hf := hf.ext hx13
    simp only [↓vsd, vsn, gW, qd, qv, ev, pick, argE, zipE, ne_eq, eq_self, forall_const, implies_true, if_true, if_false, reduceIte, reduceCtorEq, Nat.reduceEqDiff, Nat.reduceAdd, Nat.reduceLT, ↓us_sDrawFalseBetween, r_sDrawFalseBetween]
    refine m_call (sl11Lead_ok nm2 n vb cb (roundsL n) hmb hr0 _ (by first | exact hf.ob.sq | exact hf.ob.sq.ext (dr (Ext.refl _)))) ?_
    rintro y w14 hx14 hoy
    have hx14 : Ext w13 w14 := by first | exact hx14 | exact ud hx14 | exact ud (ud hx14)
    have hf := hf.ext hx14
    have hqx := (hox.ext hx13).ext hx14
    have hLx : (rowsU (roundsL n) ca ca.length).length = ca.length := rowsU_len _ _ _
    have hLy : (rowsU (roundsL n) cb cb.length).length = cb.length := rowsU_len _ _ _
    have hRx : ∀ r ∈ rowsU (roundsL n) ca ca.length, IsRow r ∧ r.length = n := leadR_rows h38 ca
    have hRy : ∀ r ∈ rowsU (roundsL n) cb cb.length, IsRow r ∧ r.length = n := leadR_rows h38 cb
    have hfx := hqx.sq.facts
    have hfy := hoy.sq.facts
    generalize rowsU (roundsL n) ca ca.length = X at *
    generalize rowsU (roundsL n) cb cb.length = Y at *
    simp only [↓vsd, vsn, gW, qd, qv, ev, pick, argE, zipE, ne_eq, eq_self, forall_const, implies_true, if_true, if_false, reduceIte, reduceCtorEq, Nat.reduceEqDiff, Nat.reduceAdd, Nat.reduceLT, ↓us_sDrawFalseBetween, r_sDrawFalseBetween, hfx, hfy]
    have lb : b < w10.heap.size := hf10.cur.lt.2
    refine m_callw (.inr rfl) (sl1Cur_pick_ok w1 b 4100 (X.length : Nat) (by omega) _ (by omega) ((hf.ext (dr (Ext.refl _))).cur.mono (by omega))) ?_
    rintro _ w15 ⟨hc15, hg15, i, rfl, hi⟩
    have hi : i < X.length := by omega
    have hf := (hf.ext (dr (Ext.refl _))).draw hc15 hg15
    have hx15 := (hqx.ext (dr (Ext.refl _))).keep hg15 (fun c hc => by rw [← Option.some.inj hc]; exact Nat.lt_of_lt_of_le lb hx11.size)
    have hy15 := (hoy.ext (dr (Ext.refl _))).keep hg15 (fun c hc => by rw [← Option.some.inj hc]; exact Nat.lt_of_lt_of_le lb (Nat.le_trans hx11.size (Nat.le_trans hx12.size hx13.size)))
    have fx15 := hx15.sq.facts
    have ax15 := hx15.sq.at1 [] hi
    have hXi := hRx _ (getD_mem [] hi)
    simp only [↓vsd, vsn, gW, qd, qv, ev, pick, argE, zipE, ne_eq, eq_self, forall_const, implies_true, if_true, if_false, reduceIte, reduceCtorEq, Nat.reduceEqDiff, Nat.reduceAdd, Nat.reduceLT, ↓us_sDrawFalseBetween, r_sDrawFalseBetween, fx15, ax15]
    repeat' first
      | omega
      | refine ⟨?_, ?_⟩
      | (refine m_callw (.inr rfl) (sl1Cur_pick_ok w1 b 4110 (Y.length : Nat) (by omega) _ (by omega) (hf.cur.mono (by omega))) ?_
         rintro _ w16 ⟨hc16, hg16, j, rfl, hj⟩
         have hj : j < Y.length := by omega
         have hf16 := hf.draw hc16 hg16
         have hx16 := hx15.keep hg16 (fun c hc => by rw [← Option.some.inj hc]; exact Nat.lt_of_lt_of_le lb hx11.size)
         have hy16 := hy15.keep hg16 (fun c hc => by rw [← Option.some.inj hc]; exact Nat.lt_of_lt_of_le lb (Nat.le_trans hx11.size (Nat.le_trans hx12.size hx13.size)))
         have hYj := hRy _ (getD_mem [] hj)
         have fx16 := hx16.sq.facts
         have ax16 := hx16.sq.at1 [] hi
         have fy16 := hy16.sq.facts
         have ay16 := hy16.sq.at1 [] hj
         simp only [↓vsd, vsn, gW, qd, qv, ev, pick, argE, zipE, ne_eq, eq_self, forall_const, implies_true, if_true, if_false, reduceIte, reduceCtorEq, Nat.reduceEqDiff, Nat.reduceAdd, Nat.reduceLT, ↓us_sDrawFalseBetween, r_sDrawFalseBetween, fx16, ax16, fy16, ay16])
      | (refine m_call (sl1Turn_ok _ hYj.1 _) ?_
         rintro _ w17 hx17 rfl
         have hf17 := hf16.ext hx17
         have hx17 := hx16.ext hx17
         have ax17 := hx17.sq.at1 [] hi
         simp only [↓vsd, vsn, gW, qd, qv, ev, pick, argE, zipE, ne_eq, eq_self, forall_const, implies_true, if_true, if_false, reduceIte, reduceCtorEq, Nat.reduceEqDiff, Nat.reduceAdd, Nat.reduceLT, ↓us_sDrawFalseBetween, r_sDrawFalseBetween, ax17])
      | (refine m_call (sl1Times_ok _ _ (turnL_row hYj.1) (by rw [turnL_len, hYj.2, hXi.2]) _) ?_
         rintro _ w18 hx18 rfl
         have hf := hf17.ext hx18
         have hfl : (timesL (X.getD i []) (turnL (Y.getD j []))).length = n := by rw [timesL_len, turnL_len, hYj.2]
         generalize timesL (X.getD i []) (turnL (Y.getD j [])) = f at *
         simp only [↓vsd, vsn, gW, qd, qv, ev, pick, argE, zipE, ne_eq, eq_self, forall_const, implies_true, if_true, if_false, reduceIte, reduceCtorEq, Nat.reduceEqDiff, Nat.reduceAdd, Nat.reduceLT, ↓us_sDrawFalseBetween, r_sDrawFalseBetween]
         refine m_callw (by first | exact .inl rfl | exact .inr rfl) (sl1Cur_one_ok w1 b 4200 16 (by omega) _ (by omega) (hf.cur.mono (by omega))) ?_
         rintro _ w31 ⟨hc31, hg31, z, rfl⟩
         have hf := hf.draw hc31 hg31
         cases z
         · simp only [↓vsd, vsn, gW, qd, qv, ev, pick, argE, zipE, ne_eq, eq_self, forall_const, implies_true, if_true, if_false, reduceIte, reduceCtorEq, Nat.reduceEqDiff, Nat.reduceAdd, Nat.reduceLT, ↓us_sDrawFalseBetween, r_sDrawFalseBetween, hf.a.facts, hf.bb.facts, fMg]
           refine ⟨?_, ?_⟩
           all_goals
             refine m_st hf.r0 rfl (Nat.le_refl 3) (fM_one _ _ _ hf.oa.sq.one') ?_
             rintro wA hblkA huA
             have hA : Blk wA b0 (fM nm n va) 25 := hblkA
             have hlo := hf.lo
             have hfd := hf.ext (dr (Ext.refl _))
             have hbA := huA.blk hf.bb (by omega)
             have h1A := huA.blk hf.r1 (by omega)
             have hoa := hfd.oa.upd huA (hf.oa.away' (by omega))
             have hob := hfd.ob.upd huA (hf.ob.away' (by omega))
             simp only [↓vsd, vsn, gW, qd, qv, ev, pick, argE, zipE, ne_eq, eq_self, forall_const, implies_true, if_true, if_false, reduceIte, reduceCtorEq, Nat.reduceEqDiff, Nat.reduceAdd, Nat.reduceLT, ↓us_sDrawFalseBetween, r_sDrawFalseBetween, hbA.facts, fMg]
             refine m_st h1A rfl (Nat.le_refl 3) (fM_one _ _ _ hob.sq.one') ?_
             rintro wB hblkB huB
             have hB : Blk wB b1 (fM nm2 n vb) 25 := hblkB
             have hAB := huB.blk hA (by omega)
             simp only [↓vsd, vsn, gW, qd, qv, ev, pick, argE, zipE, ne_eq, eq_self, forall_const, implies_true, if_true, if_false, reduceIte, reduceCtorEq, Nat.reduceEqDiff, Nat.reduceAdd, Nat.reduceLT, ↓us_sDrawFalseBetween, r_sDrawFalseBetween, hAB.facts, hB.facts, fMg]
             exact ⟨huB.below (huA.below (hx01.trans hfd.cur.base) (by omega)) (by omega), nm, n, va, ca, nm2, vb, cb, _, rfl, (hoa.upd huB (hoa.away' (by omega))).sq, (hob.upd huB (hob.away' (by omega))).sq, hma, hmb, by omega⟩
         · simp only [↓vsd, vsn, gW, qd, qv, ev, pick, argE, zipE, ne_eq, eq_self, forall_const, implies_true, if_true, if_false, reduceIte, reduceCtorEq, Nat.reduceEqDiff, Nat.reduceAdd, Nat.reduceLT, ↓us_sDrawFalseBetween, r_sDrawFalseBetween]
           refine m_callw (by first | exact .inl rfl | exact .inr rfl) (sl1Cur_anyRow_ok w1 b _ _ (by omega) hf.cur) ?_
           rintro _ w32 ⟨hc32, hg32, f, rfl, hfl⟩
           have hf := hf.draw hc32 hg32
           simp only [↓vsd, vsn, gW, qd, qv, ev, pick, argE, zipE, ne_eq, eq_self, forall_const, implies_true, if_true, if_false, reduceIte, reduceCtorEq, Nat.reduceEqDiff, Nat.reduceAdd, Nat.reduceLT, ↓us_sDrawFalseBetween, r_sDrawFalseBetween, hf.a.facts, hf.bb.facts, fMg]
           refine ⟨?_, ?_⟩
           all_goals
             refine m_st hf.r0 rfl (Nat.le_refl 3) (fM_one _ _ _ hf.oa.sq.one') ?_
             rintro wA hblkA huA
             have hA : Blk wA b0 (fM nm n va) 25 := hblkA
             have hlo := hf.lo
             have hfd := hf.ext (dr (Ext.refl _))
             have hbA := huA.blk hf.bb (by omega)
             have h1A := huA.blk hf.r1 (by omega)
             have hoa := hfd.oa.upd huA (hf.oa.away' (by omega))
             have hob := hfd.ob.upd huA (hf.ob.away' (by omega))
             simp only [↓vsd, vsn, gW, qd, qv, ev, pick, argE, zipE, ne_eq, eq_self, forall_const, implies_true, if_true, if_false, reduceIte, reduceCtorEq, Nat.reduceEqDiff, Nat.reduceAdd, Nat.reduceLT, ↓us_sDrawFalseBetween, r_sDrawFalseBetween, hbA.facts, fMg]
             refine m_st h1A rfl (Nat.le_refl 3) (fM_one _ _ _ hob.sq.one') ?_
             rintro wB hblkB huB
             have hB : Blk wB b1 (fM nm2 n vb) 25 := hblkB
             have hAB := huB.blk hA (by omega)
             simp only [↓vsd, vsn, gW, qd, qv, ev, pick, argE, zipE, ne_eq, eq_self, forall_const, implies_true, if_true, if_false, reduceIte, reduceCtorEq, Nat.reduceEqDiff, Nat.reduceAdd, Nat.reduceLT, ↓us_sDrawFalseBetween, r_sDrawFalseBetween, hAB.facts, hB.facts, fMg]
             exact ⟨huB.below (huA.below (hx01.trans hfd.cur.base) (by omega)) (by omega), nm, n, va, ca, nm2, vb, cb, _, rfl, (hoa.upd huB (hoa.away' (by omega))).sq, (hob.upd huB (hob.away' (by omega))).sq, hma, hmb, by omega⟩
        )
end Go.Proofs.YthopbkemkfjebaaGreat
