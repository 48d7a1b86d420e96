/-
  The drawing of place bells and of paths.
  Conditions: none.
-/
import Derived.Test.YtpnopboffalfnaaD15
import Derived.Test.YtpnopboffalfnaaA50
set_option linter.unusedSimpArgs false
set_option linter.unusedVariables false
set_option linter.defProp false
namespace Go.Proofs.Ytpnopboffalfnaa
open Go Go.RowKit
section
variable (P : Program) (k : KT) (e : Env) (w : World)
abbrev b209_1 : X := (.cond (.t 7) (.seq (.reg [4] (.c (.q 8 [] (.mv (.t 0))) (.c (.q 4 [] (.mv (.t 8))) .nil))) .ret) .skip)
def t209_1 := b209_1
theorem u209_1 : vcK P t209_1 k e w = vcK P b209_1 k e w := rfl
abbrev b209_2 : X := (.seq (.reg [4] (.c (.q 9 [] (.mv (.t 1))) (.c (.q 4 [] (.mv (.t 9))) .nil))) .ret)
def t209_2 := b209_2
theorem u209_2 : vcK P t209_2 k e w = vcK P b209_2 k e w := rfl
abbrev b209_3 : X := (.seq (.seq (.reg [0, 1, 7] (.c (.q 5 [] (.mv (.t 0))) (.c (.q 6 [] (.mv (.t 1))) (.c (.q 7 [] (.bin .gtr (.t 5) (.t 6))) .nil)))) t209_1) t209_2)
def t209_3 := b209_3
theorem u209_3 : vcK P t209_3 k e w = vcK P b209_3 k e w := rfl
abbrev b209_0 : X := (.seq (.reg [0, 1] (.c (.q 4 [] (.mv (.c (.int .i64 0)))) .nil)) t209_3)
def x_sl1Most := b209_0
theorem u209_0 : vcK P x_sl1Most k e w = vcK P b209_0 k e w := rfl
def r_sl1Most : List XO := [(.mv (.t 4))]
theorem c_sl1Most : convF Try.prog [169, 170, 207, 208, 210, 227, 232, 233, 255, 259, 268, 269, 270, 280, 281, 296, 299, 306, 307, 309] Try.f209 [([0, 1], []), ([0, 1, 7], []), ([4], []), ([4], [])] = some (x_sl1Most, r_sl1Most) := by kernel_rfl
def us_sl1Most := aI @u209_0 (aI @u209_1 (aI @u209_2 @u209_3))
abbrev b97_1 : X := (.seq (.reg [2, 3] (.c (.q 8 [] (.mv (.t 4))) (.c (.e (some 9) [] (.call true 169 [(.t 8)])) (.c (.q 10 [] (.mv (.t 4))) (.c (.e (some 11) [] (.call true 170 [(.t 10), (.c (.int .i64 6))])) (.c (.q 12 [] (.bin .add (.c (.int .i64 1)) (.t 11))) (.c (.q 13 [] (.mv (.t 4))) (.c (.e (some 14) [] (.call true 170 [(.t 13), (.c (.int .i64 20))])) (.c (.q 15 [] (.bin .quo (.t 14) (.c (.int .i64 19)))) (.c (.q 16 [] (.bin .sub (.t 12) (.t 15))) (.c (.e none [] (.st 3 (.t 2) (.t 9))) (.c (.q 3 [] (.mv (.t 16))) .nil)))))))))))) .ret)
def t97_1 := b97_1
theorem u97_1 : vcK P t97_1 k e w = vcK P b97_1 k e w := rfl
abbrev b97_2 : X := (.seq (.reg [2, 4] (.c (.q 5 [] (.mv (.t 0))) (.c (.q 6 [] (.bld [(.slice none 0 0), (.int .i64 0), (.int .u64 0)] [(0, 0, (.t 5))])) (.c (.e (some 7) [] (.box 132 (.t 6))) (.c (.q 4 [] (.mv (.t 7))) .nil))))) t97_1)
def t97_2 := b97_2
theorem u97_2 : vcK P t97_2 k e w = vcK P b97_2 k e w := rfl
abbrev b97_0 : X := (.seq (.reg [0, 2] (.c (.e (some 2) [] (.al 41 [(S []), (.int .i64 0), (.slice none 0 0)])) (.c (.q 3 [] (.mv (.c (.int .i64 0)))) .nil))) t97_2)
def x_sDrawPathOf := b97_0
theorem u97_0 : vcK P x_sDrawPathOf k e w = vcK P b97_0 k e w := rfl
def r_sDrawPathOf : List XO := [(.lda 3 (.t 2)), (.mv (.t 3))]
theorem c_sDrawPathOf : convF Try.prog [169, 170, 207, 208, 210, 227, 232, 233, 255, 259, 268, 269, 270, 280, 281, 296, 299, 306, 307, 309] Try.f97 [([0, 2], []), ([2, 4], []), ([2, 3], [])] = some (x_sDrawPathOf, r_sDrawPathOf) := by kernel_rfl
def us_sDrawPathOf := aI @u97_0 (aI @u97_1 @u97_2)
abbrev b61_1 : X := (.seq (.reg [2, 3] (.c (.q 4 [] (.mv (.t 0))) (.c (.e (some 5) [] (.call false 97 [(.t 4)])) (.c (.q 6 [] (.ext 0 (.t 5))) (.c (.q 7 [] (.ext 1 (.t 5))) (.c (.e none [] (.st 3 (.t 2) (.t 6))) (.c (.q 3 [] (.mv (.t 7))) .nil))))))) .ret)
def t61_1 := b61_1
theorem u61_1 : vcK P t61_1 k e w = vcK P b61_1 k e w := rfl
abbrev b61_0 : X := (.seq (.reg [0, 2] (.c (.e (some 2) [] (.al 41 [(S []), (.int .i64 0), (.slice none 0 0)])) (.c (.q 3 [] (.mv (.c (.int .i64 0)))) .nil))) t61_1)
def x_sDrawPlaceBells := b61_0
theorem u61_0 : vcK P x_sDrawPlaceBells k e w = vcK P b61_0 k e w := rfl
def r_sDrawPlaceBells : List XO := [(.lda 3 (.t 2)), (.mv (.t 3))]
theorem c_sDrawPlaceBells : convF Try.prog [169, 170, 207, 208, 210, 227, 232, 233, 255, 259, 268, 269, 270, 280, 281, 296, 299, 306, 307, 309] Try.f61 [([0, 2], []), ([2, 3], [])] = some (x_sDrawPlaceBells, r_sDrawPlaceBells) := by kernel_rfl
def us_sDrawPlaceBells := aI @u61_0 @u61_1
abbrev b68_1 : X := (.seq (.reg [2] (.c (.q 23 [] (.mv (.t 4))) (.c (.q 2 [] (.mv (.t 23))) .nil))) .ret)
def t68_1 := b68_1
theorem u68_1 : vcK P t68_1 k e w = vcK P b68_1 k e w := rfl
abbrev b68_2 : X := (.cond (.t 13) (.seq (.reg [4] (.c (.q 15 [] (.mv (.t 3))) (.c (.e (some 16) [] (.call true 208 [(.t 15)])) (.c (.q 17 [] (.mv (.t 3))) (.c (.e (some 18) [] (.call true 170 [(.t 17), (.c (.int .i64 4))])) (.c (.q 19 [] (.bin .add (.c (.int .i64 1)) (.t 18))) (.c (.e (some 20) [] (.call false 65 [(.t 16), (.t 19)])) (.c (.q 14 [] (.mv (.t 20))) (.c (.q 21 [] (.ext 0 (.t 14))) (.c (.q 22 [] (.ext 1 (.t 14))) (.c (.q 4 [] (.mv (.t 21))) (.c (.q 5 [] (.mv (.t 22))) .nil)))))))))))) t68_1) .skip)
def t68_2 := b68_2
theorem u68_2 : vcK P t68_2 k e w = vcK P b68_2 k e w := rfl
abbrev b68_3 : X := (.cond (.t 30) .skip (.exit 0))
def t68_3 := b68_3
theorem u68_3 : vcK P t68_3 k e w = vcK P b68_3 k e w := rfl
abbrev b68_4 : X := (.reg [3, 6, 7, 8] (.c (.q 37 [] (.mv (.t 7))) (.c (.q 38 [] (.mv (.t 3))) (.c (.e (some 39) [] (.call true 170 [(.t 38), (.c (.int .i64 3))])) (.c (.q 40 [] (.bin .add (.t 37) (.t 39))) (.c (.q 41 [] (.bin .sub (.t 40) (.c (.int .i64 1)))) (.c (.e (some 42) [] (.call false 209 [(.c (.int .i64 1)), (.t 41)])) (.c (.q 7 [] (.mv (.t 42))) .nil))))))))
def t68_4 := b68_4
theorem u68_4 : vcK P t68_4 k e w = vcK P b68_4 k e w := rfl
abbrev b68_5 : X := (.reg [3, 6, 7, 8] (.c (.q 31 [] (.mv (.t 8))) (.c (.q 32 [] (.bin .sub (.t 31) (.c (.int .i64 1)))) (.c (.q 8 [] (.mv (.t 32))) .nil))))
def t68_5 := b68_5
theorem u68_5 : vcK P t68_5 k e w = vcK P b68_5 k e w := rfl
abbrev b68_6 : X := (.seq (.blk 1 (.seq (.reg [3, 6, 7, 8] (.c (.q 33 [] (.mv (.t 6))) (.c (.q 34 [] (.mv (.t 7))) (.c (.e (some 35) [] (.bsl 3 1 [(.t 34)])) (.c (.e (some 36) [] (.app 69 3 1 8 [(.int .i64 0)] 69 (.t 33) (.t 35))) (.c (.q 6 [] (.mv (.t 36))) .nil)))))) t68_4)) t68_5)
def t68_6 := b68_6
theorem u68_6 : vcK P t68_6 k e w = vcK P b68_6 k e w := rfl
abbrev b68_7 : X := (.seq (.seq (.reg [3, 6, 7, 8, 30] (.c (.q 29 [] (.mv (.t 8))) (.c (.q 30 [] (.bin .gtr (.t 29) (.c (.int .i64 0)))) .nil))) t68_3) t68_6)
def t68_7 := b68_7
theorem u68_7 : vcK P t68_7 k e w = vcK P b68_7 k e w := rfl
abbrev b68_8 : X := (.blk 0 (.loop [6, 7, 8] [3] t68_7))
def t68_8 := b68_8
theorem u68_8 : vcK P t68_8 k e w = vcK P b68_8 k e w := rfl
abbrev b68_9 : X := (.cond (.t 49) (.reg [6] (.c (.q 50 [] (.mv (.t 6))) (.c (.q 51 [] (.mv (.t 3))) (.c (.e (some 52) [] (.bsl 3 1 [(.c (.int .i64 0)), (.c (.int .i64 9)), (.c (.int .i64 8))])) (.c (.e (some 53) [] (.call true 210 [(.t 51), (.t 52)])) (.c (.q 54 [] (.ia 1 (.t 50) (.c (.int .i64 0)))) (.c (.e none [] (.st 1 (.t 54) (.t 53))) .nil))))))) .skip)
def t68_9 := b68_9
theorem u68_9 : vcK P t68_9 k e w = vcK P b68_9 k e w := rfl
abbrev b68_10 : X := (.seq (.reg [2] (.c (.q 55 [] (.mv (.t 6))) (.c (.q 2 [] (.mv (.t 55))) .nil))) .ret)
def t68_10 := b68_10
theorem u68_10 : vcK P t68_10 k e w = vcK P b68_10 k e w := rfl
abbrev b68_11 : X := (.seq (.seq (.reg [3, 6, 49] (.c (.q 43 [] (.mv (.t 6))) (.c (.q 44 [] (.lens (.t 43))) (.c (.q 45 [] (.bin .gtr (.t 44) (.c (.int .i64 0)))) (.c (.q 46 [] (.mv (.t 45))) (.c (.q 47 [(46, true)] (.mv (.t 3))) (.c (.e (some 48) [(46, true)] (.call true 207 [(.t 47), (.c (.int .i64 12))])) (.c (.q 49 [] (.pick (.t 46) (.t 48) (.c (.bool false)))) .nil)))))))) t68_9) t68_10)
def t68_11 := b68_11
theorem u68_11 : vcK P t68_11 k e w = vcK P b68_11 k e w := rfl
abbrev b68_12 : X := (.seq (.seq (.reg [3, 6, 7, 8] (.c (.q 27 [] (.mv (.t 3))) (.c (.e (some 28) [] (.call true 170 [(.t 27), (.c (.int .i64 12))])) (.c (.q 8 [] (.mv (.t 28))) .nil)))) t68_8) t68_11)
def t68_12 := b68_12
theorem u68_12 : vcK P t68_12 k e w = vcK P b68_12 k e w := rfl
abbrev b68_13 : X := (.seq (.reg [3, 6, 7] (.c (.q 24 [] (.mv (.t 3))) (.c (.e (some 25) [] (.call true 170 [(.t 24), (.c (.int .i64 5))])) (.c (.q 26 [] (.bin .add (.c (.int .i64 1)) (.t 25))) (.c (.q 7 [] (.mv (.t 26))) .nil))))) t68_12)
def t68_13 := b68_13
theorem u68_13 : vcK P t68_13 k e w = vcK P b68_13 k e w := rfl
abbrev b68_14 : X := (.seq (.reg [3, 6] (.c (.q 6 [] (.mv (.c (.slice none 0 0)))) .nil)) t68_13)
def t68_14 := b68_14
theorem u68_14 : vcK P t68_14 k e w = vcK P b68_14 k e w := rfl
abbrev b68_15 : X := (.seq (.seq (.reg [3, 13] (.c (.q 12 [] (.mv (.t 3))) (.c (.e (some 13) [] (.call true 207 [(.t 12), (.c (.int .i64 2))])) .nil))) t68_2) t68_14)
def t68_15 := b68_15
theorem u68_15 : vcK P t68_15 k e w = vcK P b68_15 k e w := rfl
abbrev b68_16 : X := (.seq (.reg [3] (.c (.q 9 [] (.mv (.t 0))) (.c (.q 10 [] (.bld [(.slice none 0 0), (.int .i64 0), (.int .u64 0)] [(0, 0, (.t 9))])) (.c (.e (some 11) [] (.box 132 (.t 10))) (.c (.q 3 [] (.mv (.t 11))) .nil))))) t68_15)
def t68_16 := b68_16
theorem u68_16 : vcK P t68_16 k e w = vcK P b68_16 k e w := rfl
abbrev b68_0 : X := (.seq (.reg [0] (.c (.q 2 [] (.mv (.c (.slice none 0 0)))) .nil)) t68_16)
def x_sDrawDodgesIn := b68_0
theorem u68_0 : vcK P x_sDrawDodgesIn k e w = vcK P b68_0 k e w := rfl
def r_sDrawDodgesIn : List XO := [(.mv (.t 2))]
theorem c_sDrawDodgesIn : convF Try.prog [169, 170, 207, 208, 210, 227, 232, 233, 255, 259, 268, 269, 270, 280, 281, 296, 299, 306, 307, 309] Try.f68 [([0], []), ([3], []), ([3, 13], []), ([4], []), ([2], []), ([3, 6], []), ([3, 6, 7], []), ([3, 6, 7, 8], []), ([6, 7, 8], [3]), ([3, 6, 7, 8, 30], []), ([3, 6, 7, 8], []), ([3, 6, 7, 8], []), ([3, 6, 7, 8], []), ([3, 6, 49], []), ([6], []), ([2], [])] = some (x_sDrawDodgesIn, r_sDrawDodgesIn) := by kernel_rfl
def us_sDrawDodgesIn := aI @u68_0 (aI @u68_1 (aI @u68_2 (aI @u68_3 (aI @u68_4 (aI @u68_5 (aI @u68_6 (aI @u68_7 (aI @u68_8 (aI @u68_9 (aI @u68_10 (aI @u68_11 (aI @u68_12 (aI @u68_13 (aI @u68_14 (aI @u68_15 @u68_16)))))))))))))))
end

/-- The blocks of such a drawing: the result b2; the method in b6. -/
structure MP (w0 : World) (B b2 b6 : Nat) (c2 cm : List Value) (x : Value) (cs : List (List UInt8)) (w : World) : Prop where
  r2 : Blk w b2 c2 41
  m : Blk w b6 cm 41
  own : Own fS 1 9 B w x cs
  ex : Ext w0 w
  lo : w0.heap.size ≤ b2 ∧ b2 < B ∧ B ≤ b6
section
variable {w0 : World} {B b b2 b6 : Nat} {c2 cm c' : List Value} {x : Value} {cs : List (List UInt8)} {w w' : World}
theorem MP.draw (h : MP w0 B b2 b6 c2 cm x cs w) (hg : w.grownBy w' (some b)) (hb : w0.heap.size ≤ b ∧ b ≠ b2 ∧ b ≠ b6) (ha : Away x b) : MP w0 B b2 b6 c2 cm x cs w' := by
  have hl := h.lo
  have key : ∀ c, c ≠ b → c < w.heap.size → w'.heap[c]? = w.heap[c]? := fun c hc hlt => hg.block c hlt (fun e => hc (Option.some.inj e))
  exact ⟨h.r2.same (key _ (by omega) h.r2.lt), h.m.same (key _ (by omega) h.m.lt), h.own.off hg (fun c hc => by obtain rfl := Option.some.inj hc; exact ha), ext_grow' h.ex hg (fun c hc => by have := Option.some.inj hc; omega), hl⟩
theorem MP.ext (h : MP w0 B b2 b6 c2 cm x cs w) (hx : Ext w w') : MP w0 B b2 b6 c2 cm x cs w' := ⟨h.r2.ext hx, h.m.ext hx, h.own.ext hx, h.ex.trans hx, h.lo⟩
theorem MP.st2 (h : MP w0 B b2 b6 c2 cm x cs w) (hu : Upd w w' b2) (hb : Blk w' b2 c' 41) : MP w0 B b2 b6 c' cm x cs w' := by
  have hl := h.lo
  exact ⟨hb, hu.blk h.m (by omega), h.own.upd hu (h.own.away' (by omega)), hu.below h.ex (by omega), hl⟩
end
def AnyP (B : Nat) (r : Value) (w' : World) : Prop := ∃ nm st x cs, ∃ b : Int, r = .tuple ⟨[mV nm st x, .int .i64 b]⟩ ∧ Own fS 1 9 B w' x cs ∧ nm.length ≤ 11 ∧ (2 ≤ st ∧ st ≤ 9) ∧ cs.length ≤ 60 ∧ (∀ c ∈ cs, c.length ≤ 8)
theorem sDrawPathOf_ok (v : Value) (code : List UInt8) (hl : code.length ≤ 1048576) (w : World) (h : Sq fU 1 w v code) : Fn 97 [v] w (fun r w' => AnyP w.heap.size r w') := by
  (refine callsV_of mix Try.func97 c_sDrawPathOf ?_; simp only [↓vsd, vsn, gW, qd, qv, ev, pick, argE, zipE, ne_eq, eq_self, forall_const, implies_true, if_true, if_false, reduceIte, reduceCtorEq, Nat.reduceEqDiff, Nat.reduceAdd, Nat.reduceLT, ↓us_sDrawPathOf, r_sDrawPathOf])
  refine m_al ?_
  rintro b2 w2 hb2 hblk2 hx2 hs2
  have h2 := h.ext hx2
  simp only [↓vsd, vsn, gW, qd, qv, ev, pick, argE, zipE, ne_eq, eq_self, forall_const, implies_true, if_true, if_false, reduceIte, reduceCtorEq, Nat.reduceEqDiff, Nat.reduceAdd, Nat.reduceLT, ↓us_sDrawPathOf, r_sDrawPathOf, h2.facts]
  refine m_al ?_
  rintro bc w4 hbc hblk4 hx4 hs4
  have hc := Cur.new h2 hl hbc hblk4 hx4
  have hlt := hc.lt
  simp only [↓vsd, vsn, gW, qd, qv, ev, pick, argE, zipE, ne_eq, eq_self, forall_const, implies_true, if_true, if_false, reduceIte, reduceCtorEq, Nat.reduceEqDiff, Nat.reduceAdd, Nat.reduceLT, ↓us_sDrawPathOf, r_sDrawPathOf]
  refine m_callw (.inl rfl) (sl1Cur_anyMethod_ok w2 bc _ w4 (by omega) hc) ?_
  rintro _ w5 ⟨hc5, hg5, nm, st, x, cs, rfl, ho5, hnm, hst, hcs, hc8⟩
  simp only [↓vsd, vsn, gW, qd, qv, ev, pick, argE, zipE, ne_eq, eq_self, forall_const, implies_true, if_true, if_false, reduceIte, reduceCtorEq, Nat.reduceEqDiff, Nat.reduceAdd, Nat.reduceLT, ↓us_sDrawPathOf, r_sDrawPathOf]
  have hb5 := (Blk.ext hblk2 hx4).same (hg5.block b2 (Blk.ext hblk2 hx4).lt (fun e => by have := Option.some.inj e; omega))
  have hBb : ∀ c, some bc = some c → c < w4.heap.size := fun c hc => by obtain rfl := Option.some.inj hc; exact hlt.2
  refine m_callw (.inl rfl) (sl1Cur_pick_ok w2 bc _ 6 (by omega) w5 (by omega) hc5) ?_
  rintro _ w6 ⟨hc6, hg6, p, rfl, hp⟩
  have hb6 := hb5.same (hg6.block b2 hb5.lt (fun e => by have := Option.some.inj e; omega))
  have ho6 := ho5.keep hg6 hBb
  simp only [↓vsd, vsn, gW, qd, qv, ev, pick, argE, zipE, ne_eq, eq_self, forall_const, implies_true, if_true, if_false, reduceIte, reduceCtorEq, Nat.reduceEqDiff, Nat.reduceAdd, Nat.reduceLT, ↓us_sDrawPathOf, r_sDrawPathOf]
  refine ⟨inR_i64 (by omega), m_callw (.inl rfl) (sl1Cur_pick_ok w2 bc _ 20 (by omega) w6 (by omega) hc6) ?_⟩
  rintro _ w7 ⟨hc7, hg7, q, rfl, hq⟩
  have hb7 := hb6.same (hg7.block b2 hb6.lt (fun e => by have := Option.some.inj e; omega))
  have ho7 := ho6.keep hg7 hBb
  have hx7 : Ext w w7 := hx2.trans hc7.base
  have hdiv : 0 ≤ (q : Int).tdiv 19 ∧ (q : Int).tdiv 19 ≤ 20 := by
    have e : (q : Int).tdiv 19 = ((q / 19 : Nat) : Int) := (Int.ofNat_tdiv q 19).symm
    rw [e]
    omega
  simp only [↓vsd, vsn, gW, qd, qv, ev, pick, argE, zipE, ne_eq, eq_self, forall_const, implies_true, if_true, if_false, reduceIte, reduceCtorEq, Nat.reduceEqDiff, Nat.reduceAdd, Nat.reduceLT, ↓us_sDrawPathOf, r_sDrawPathOf]
  refine ⟨⟨by decide, inR_i64 (by omega)⟩, inR_i64 (by omega), ?_⟩
  refine m_st hb7 rfl (Nat.le_refl 3) (fM_one nm st x ho7.sq.one') ?_
  rintro w8 hblk8 hu8
  have hb8 : Blk w8 b2 (fM nm st x) 41 := hblk8
  simp only [↓vsd, vsn, gW, qd, qv, ev, pick, argE, zipE, ne_eq, eq_self, forall_const, implies_true, if_true, if_false, reduceIte, reduceCtorEq, Nat.reduceEqDiff, Nat.reduceAdd, Nat.reduceLT, ↓us_sDrawPathOf, r_sDrawPathOf, hb8.facts, fMg]
  exact ⟨hu8.below hx7 (by omega), nm, st, x, cs, _, rfl, (ho7.upd hu8 (ho7.away' (by omega))).mono (hx2.trans hx4).size, hnm, hst, hcs, hc8⟩
theorem sDrawPlaceBells_ok (v : Value) (code : List UInt8) (hl : code.length ≤ 1048576) (w : World) (h : Sq fU 1 w v code) : Fn 61 [v] w (fun r w' => AnyP w.heap.size r w') := by
  (refine callsV_of mix Try.func61 c_sDrawPlaceBells ?_; simp only [↓vsd, vsn, gW, qd, qv, ev, pick, argE, zipE, ne_eq, eq_self, forall_const, implies_true, if_true, if_false, reduceIte, reduceCtorEq, Nat.reduceEqDiff, Nat.reduceAdd, Nat.reduceLT, ↓us_sDrawPlaceBells, r_sDrawPlaceBells])
  refine m_al ?_
  rintro b0 w0 hb0 hblk0 hx0 hs0
  simp only [↓vsd, vsn, gW, qd, qv, ev, pick, argE, zipE, ne_eq, eq_self, forall_const, implies_true, if_true, if_false, reduceIte, reduceCtorEq, Nat.reduceEqDiff, Nat.reduceAdd, Nat.reduceLT, ↓us_sDrawPlaceBells, r_sDrawPlaceBells]
  refine m_call (sDrawPathOf_ok v code hl _ (h.ext hx0)) ?_
  rintro _ w1 hx1 ⟨nm, st, x, cs, b, rfl, ho, hm⟩
  simp only [↓vsd, vsn, gW, qd, qv, ev, pick, argE, zipE, ne_eq, eq_self, forall_const, implies_true, if_true, if_false, reduceIte, reduceCtorEq, Nat.reduceEqDiff, Nat.reduceAdd, Nat.reduceLT, ↓us_sDrawPlaceBells, r_sDrawPlaceBells]
  refine m_st (Blk.ext hblk0 hx1) rfl (Nat.le_refl 3) (fM_one nm st _ ho.sq.one') ?_
  rintro w4 hblk4 hu4
  have hb4 : Blk w4 b0 (fM nm st x) 41 := hblk4
  simp only [↓vsd, vsn, gW, qd, qv, ev, pick, argE, zipE, ne_eq, eq_self, forall_const, implies_true, if_true, if_false, reduceIte, reduceCtorEq, Nat.reduceEqDiff, Nat.reduceAdd, Nat.reduceLT, ↓us_sDrawPlaceBells, r_sDrawPlaceBells, hb4.facts, fMg]
  exact ⟨hu4.below (hx0.trans hx1) (by omega), nm, st, x, cs, b, rfl, (ho.upd hu4 (ho.away' (by omega))).mono hx0.size, hm⟩
theorem cp_bd {n : Nat} (hn : 3 ≤ n ∧ n ≤ 8) (cs : List (List UInt8)) (l : List Int) : ∀ q ∈ cpL n cs l, -1000 ≤ q ∧ q ≤ 1000 := fun q hq => by
  obtain ⟨b, _, hq⟩ := List.mem_flatMap.1 hq
  have hq := List.mem_of_mem_take hq
  obtain ⟨r, hr, rfl⟩ := List.mem_map.1 hq
  have hrow := rowsU_rows (roundsL_row n hn) cs _ r hr
  have h8 := hrow.1.1
  rcases plcL_is r b with h | h
  · rw [h.1]; omega
  · have := h.2.1; omega
theorem sl1Most_okd (a b : Int) (w : World) : Fn 209 [.int .i64 a, .int .i64 b] w (fun r _ => r = .int .i64 (if b < a then a else b)) := by
  (refine callsV_of mix Try.func209 c_sl1Most ?_; simp only [↓vsd, vsn, gW, qd, qv, ev, pick, argE, zipE, ne_eq, eq_self, forall_const, implies_true, if_true, if_false, reduceIte, reduceCtorEq, Nat.reduceEqDiff, Nat.reduceAdd, Nat.reduceLT, ↓us_sl1Most, r_sl1Most])
  exact ⟨fun h => ⟨Ext.refl _, by rw [if_pos h]⟩, fun h => ⟨Ext.refl _, by rw [if_neg (by omega)]⟩⟩
theorem sDrawDodgesIn_ok (v : Value) (code : List UInt8) (hl : code.length ≤ 1048576) (w : World) (h : Sq fU 1 w v code) : Fn 68 [v] w (fun r w' => ∃ l : List Int, Own fI 1 3 w.heap.size w' r l ∧ l.length ≤ 1000 ∧ ∀ p ∈ l, -1000 ≤ p ∧ p ≤ 1000) := by
  (refine callsV_of mix Try.func68 c_sDrawDodgesIn ?_; simp only [↓vsd, vsn, gW, qd, qv, ev, pick, argE, zipE, ne_eq, eq_self, forall_const, implies_true, if_true, if_false, reduceIte, reduceCtorEq, Nat.reduceEqDiff, Nat.reduceAdd, Nat.reduceLT, ↓us_sDrawDodgesIn, r_sDrawDodgesIn])
  simp only [↓vsd, vsn, gW, qd, qv, ev, pick, argE, zipE, ne_eq, eq_self, forall_const, implies_true, if_true, if_false, reduceIte, reduceCtorEq, Nat.reduceEqDiff, Nat.reduceAdd, Nat.reduceLT, ↓us_sDrawDodgesIn, r_sDrawDodgesIn, h.facts]
  refine m_al ?_
  rintro bc w1 hbc hblk1 hx1 hs1
  have hc := Cur.new h hl hbc hblk1 hx1
  have hlt := hc.lt
  simp only [↓vsd, vsn, gW, qd, qv, ev, pick, argE, zipE, ne_eq, eq_self, forall_const, implies_true, if_true, if_false, reduceIte, reduceCtorEq, Nat.reduceEqDiff, Nat.reduceAdd, Nat.reduceLT, ↓us_sDrawDodgesIn, r_sDrawDodgesIn]
  refine m_callw (.inl rfl) (sl1Cur_one_ok w bc _ 2 (by omega) w1 (by omega) hc) ?_
  rintro _ w2 ⟨hc2, hg2, y, rfl⟩
  have hg12 := hg2
  have hF2 : Ext w w2 := hc2.base
  have hBb : ∀ c, some bc = some c → c < w1.heap.size := fun c hc => by obtain rfl := Option.some.inj hc; exact hlt.2
  cases y
  · simp only [↓vsd, vsn, gW, qd, qv, ev, pick, argE, zipE, ne_eq, eq_self, forall_const, implies_true, if_true, if_false, reduceIte, reduceCtorEq, Nat.reduceEqDiff, Nat.reduceAdd, Nat.reduceLT, ↓us_sDrawDodgesIn, r_sDrawDodgesIn]
    refine m_callw (.inl rfl) (sl1Cur_pick_ok w bc _ 5 (by omega) w2 (by omega) hc2) ?_
    rintro _ w3 ⟨hc3, hg3, p, rfl, hp⟩
    simp only [↓vsd, vsn, gW, qd, qv, ev, pick, argE, zipE, ne_eq, eq_self, forall_const, implies_true, if_true, if_false, reduceIte, reduceCtorEq, Nat.reduceEqDiff, Nat.reduceAdd, Nat.reduceLT, ↓us_sDrawDodgesIn, r_sDrawDodgesIn]
    refine ⟨inR_i64 (by omega), m_callw (.inl rfl) (sl1Cur_pick_ok w bc _ 12 (by omega) w3 (by omega) hc3) ?_⟩
    rintro _ w4 ⟨hc4, hg4, k, rfl, hk⟩
    have hg14 := grown_trans (grown_trans hg2 hg3) hg4
    simp only [↓vsd, vsn, gW, qd, qv, ev, pick, argE, zipE, ne_eq, eq_self, forall_const, implies_true, if_true, if_false, reduceIte, reduceCtorEq, Nat.reduceEqDiff, Nat.reduceAdd, Nat.reduceLT, ↓us_sDrawDodgesIn, r_sDrawDodgesIn]
    refine m_loop (fun j vs w' => ∃ (y : Value) (l : List Int) (p : Nat), vs = [y, .int .i64 p, .int .i64 j] ∧ j ≤ 12 ∧ l.length + j ≤ 12 ∧ p ≤ 5 + 2 * (12 - j) ∧ (∀ q ∈ l, -1000 ≤ q ∧ q ≤ 1000) ∧ Own fI 1 3 w1.heap.size w' y l ∧ Cur w bc (100 - 2 * j) w' ∧ w1.grownBy w' (some bc)) k ⟨_, [], p + 1, by rw [show (1 : Int) + (p : Int) = ((p + 1 : Nat) : Int) by omega], by omega, by simp; omega, by omega, by simp, Own.nil fI_len, hc4.mono (by omega), hg14⟩ ?_
    rintro j vs w5 ⟨y, l, p, rfl, hj, hlj, hpb, hlb, ho5, hc5, hg5⟩
    by_cases hj0 : 0 < j
    · have hjI : 0 < (j : Int) := by omega
      have hjJ : ¬ (j : Int) ≤ 0 := by omega
      simp only [↓vsd, vsn, gW, qd, qv, ev, pick, argE, zipE, ne_eq, eq_self, forall_const, implies_true, if_true, if_false, reduceIte, reduceCtorEq, Nat.reduceEqDiff, Nat.reduceAdd, Nat.reduceLT, ↓us_sDrawDodgesIn, r_sDrawDodgesIn, hjI, hjJ]
      refine m_bsl (one_el rfl) ?_
      rintro b6 w6 hb6 hblk6 hx6 hs6
      simp only [↓vsd, vsn, gW, qd, qv, ev, pick, argE, zipE, ne_eq, eq_self, forall_const, implies_true, if_true, if_false, reduceIte, reduceCtorEq, Nat.reduceEqDiff, Nat.reduceAdd, Nat.reduceLT, ↓us_sDrawDodgesIn, r_sDrawDodgesIn]
      have hg16 := grown_trans hg5 (grown_ext _ hx6)
      refine m_app (ho5.ext hx6) (Sq.one fI_len hblk6 rfl) fI_one (by decide) (by simp; omega) (by decide) hg16.size ?_
      rintro y7 w7 ho7 hg7
      have hbnd := (ho5.ext hx6).bound
      have hc7 := (hc5.ext hx6).keep hg7 (fun c hc => by have := (hbnd c hc).1; omega)
      have hg17 := grown_new hg16 hg7 (fun c hc => (hbnd c hc).1)
      simp only [↓vsd, vsn, gW, qd, qv, ev, pick, argE, zipE, ne_eq, eq_self, forall_const, implies_true, if_true, if_false, reduceIte, reduceCtorEq, Nat.reduceEqDiff, Nat.reduceAdd, Nat.reduceLT, ↓us_sDrawDodgesIn, r_sDrawDodgesIn]
      refine m_callw (.inl rfl) (sl1Cur_pick_ok w bc _ 3 (by omega) w7 (by omega) hc7) ?_
      rintro _ w8 ⟨hc8, hg8, q, rfl, hq⟩
      have ho8 := ho7.keep hg8 hBb
      have hg18 := grown_trans hg17 hg8
      simp only [↓vsd, vsn, gW, qd, qv, ev, pick, argE, zipE, ne_eq, eq_self, forall_const, implies_true, if_true, if_false, reduceIte, reduceCtorEq, Nat.reduceEqDiff, Nat.reduceAdd, Nat.reduceLT, ↓us_sDrawDodgesIn, r_sDrawDodgesIn]
      refine ⟨inR_i64 (by omega), inR_i64 (by omega), m_call (sl1Most_okd 1 _ _) ?_⟩
      rintro _ w9 hx9 rfl
      obtain ⟨r, hr, hr2⟩ : ∃ r : Nat, (if (p : Int) + q - 1 < 1 then 1 else (p : Int) + q - 1) = (r : Int) ∧ r ≤ p + 2 := by
        split
        · exact ⟨1, rfl, by omega⟩
        · exact ⟨p + q - 1, by omega, by omega⟩
      rw [hr]
      simp only [↓vsd, vsn, gW, qd, qv, ev, pick, argE, zipE, ne_eq, eq_self, forall_const, implies_true, if_true, if_false, reduceIte, reduceCtorEq, Nat.reduceEqDiff, Nat.reduceAdd, Nat.reduceLT, ↓us_sDrawDodgesIn, r_sDrawDodgesIn]
      refine ⟨inR_i64 (by omega), j - 1, by omega, y7, l ++ [(p : Int)], r, ⟨rfl, rfl, by rw [show ((j : Int) - 1) = ((j - 1 : Nat) : Int) by omega]⟩, by omega, by simp; omega, by omega, fun a ha => ?_, ho8.ext hx9, (hc8.ext hx9).mono (by omega), grown_trans hg18 (grown_ext _ hx9)⟩
      rcases List.mem_append.1 ha with h' | h'
      · exact hlb a h'
      · obtain rfl := List.mem_singleton.1 h'
        omega
    · have hjI : ¬ 0 < (j : Int) := by omega
      have hxw : Ext w w5 := hc5.base
      simp only [↓vsd, vsn, gW, qd, qv, ev, pick, argE, zipE, ne_eq, eq_self, forall_const, implies_true, if_true, if_false, reduceIte, reduceCtorEq, Nat.reduceEqDiff, Nat.reduceAdd, Nat.reduceLT, ↓us_sDrawDodgesIn, r_sDrawDodgesIn, hjI, ho5.sq.facts]
      refine ⟨fun hpos => m_callw (.inl rfl) (sl1Cur_one_ok w bc _ 12 (by omega) w5 (by omega) hc5) ?_, fun _ => ⟨hxw, l, ho5.mono hx1.size, by omega, hlb⟩⟩
      rintro _ w6 ⟨hc6, hg6, y2, rfl⟩
      have ho6 := ho5.keep hg6 hBb
      cases y2
      · simp only [↓vsd, vsn, gW, qd, qv, ev, pick, argE, zipE, ne_eq, eq_self, forall_const, implies_true, if_true, if_false, reduceIte, reduceCtorEq, Nat.reduceEqDiff, Nat.reduceAdd, Nat.reduceLT, ↓us_sDrawDodgesIn, r_sDrawDodgesIn, hpos]
        exact ⟨hc6.base, l, ho6.mono hx1.size, by omega, hlb⟩
      · simp only [↓vsd, vsn, gW, qd, qv, ev, pick, argE, zipE, ne_eq, eq_self, forall_const, implies_true, if_true, if_false, reduceIte, reduceCtorEq, Nat.reduceEqDiff, Nat.reduceAdd, Nat.reduceLT, ↓us_sDrawDodgesIn, r_sDrawDodgesIn, hpos, ho6.sq.facts]
        refine m_bsl (by simp; repeat' constructor) ?_
        rintro b7 w7 hb7 hblk7 hx7 hs7
        have hlt6 := hc6.lt
        simp only [↓vsd, vsn, gW, qd, qv, ev, pick, argE, zipE, ne_eq, eq_self, forall_const, implies_true, if_true, if_false, reduceIte, reduceCtorEq, Nat.reduceEqDiff, Nat.reduceAdd, Nat.reduceLT, ↓us_sDrawDodgesIn, r_sDrawDodgesIn]
        refine m_callw (.inl rfl) (sl1Cur_among_ok w bc _ _ [0, 9, 8] w7 (by omega) (by decide) (hc6.ext hx7) (Sq.litC _ _ fI_len hblk7 rfl rfl (by omega))) ?_
        rintro _ w8 ⟨hc8, hg8, z, rfl, hz⟩
        have ho8 := (ho6.ext hx7).keep hg8 hBb
        have hl0 : 0 < l.length := by omega
        have hz9 : 0 ≤ z ∧ z ≤ 9 := by
          simp only [List.mem_cons, List.not_mem_nil, or_false] at hz
          rcases hz with rfl | rfl | rfl <;> omega
        simp only [↓vsd, vsn, gW, qd, qv, ev, pick, argE, zipE, ne_eq, eq_self, forall_const, implies_true, if_true, if_false, reduceIte, reduceCtorEq, Nat.reduceEqDiff, Nat.reduceAdd, Nat.reduceLT, ↓us_sDrawDodgesIn, r_sDrawDodgesIn, ho8.sq.facts]
        refine ⟨by omega, m_set1 0 z ho8 rfl hl0 rfl fI_one ?_⟩
        rintro w9 ho9 hg9 hs9
        simp only [↓vsd, vsn, gW, qd, qv, ev, pick, argE, zipE, ne_eq, eq_self, forall_const, implies_true, if_true, if_false, reduceIte, reduceCtorEq, Nat.reduceEqDiff, Nat.reduceAdd, Nat.reduceLT, ↓us_sDrawDodgesIn, r_sDrawDodgesIn]
        have hbnd := ho8.bound
        refine ⟨ext_grow' hc8.base hg9 (fun c hc => by have := (hbnd c hc).1; have := hx1.size; omega), _, ho9.mono hx1.size, by rw [List.length_set]; omega, fun a ha => ?_⟩
        rcases List.mem_or_eq_of_mem_set ha with h' | rfl
        · exact hlb a h'
        · omega
  · simp only [↓vsd, vsn, gW, qd, qv, ev, pick, argE, zipE, ne_eq, eq_self, forall_const, implies_true, if_true, if_false, reduceIte, reduceCtorEq, Nat.reduceEqDiff, Nat.reduceAdd, Nat.reduceLT, ↓us_sDrawDodgesIn, r_sDrawDodgesIn]
    refine m_callw (.inl rfl) (sl1Cur_method_ok w bc _ w2 (by omega) hc2) ?_
    rintro _ w3 ⟨hc3, hg3, nm, st, x, cs, rfl, ho3, hm, hst⟩
    simp only [↓vsd, vsn, gW, qd, qv, ev, pick, argE, zipE, ne_eq, eq_self, forall_const, implies_true, if_true, if_false, reduceIte, reduceCtorEq, Nat.reduceEqDiff, Nat.reduceAdd, Nat.reduceLT, ↓us_sDrawDodgesIn, r_sDrawDodgesIn]
    refine m_callw (.inl rfl) (sl1Cur_pick_ok w bc _ 4 (by omega) w3 (by omega) hc3) ?_
    rintro _ w4 ⟨hc4, hg4, p, rfl, hp⟩
    have ho4 := ho3.keep hg4 (fun c hc => by have := hBb c hc; have := hg2.size; omega)
    have hnm : nm.length ≤ 1048576 := by have := hm.1.2; omega
    have hcl := hm.2.2.1
    have h38 := hm.2.1
    have hc8 : ∀ c ∈ cs, c.length ≤ 1048576 := fun c hc => by have := (hm.2.2.2 c hc).len; omega
    simp only [↓vsd, vsn, gW, qd, qv, ev, pick, argE, zipE, ne_eq, eq_self, forall_const, implies_true, if_true, if_false, reduceIte, reduceCtorEq, Nat.reduceEqDiff, Nat.reduceAdd, Nat.reduceLT, ↓us_sDrawDodgesIn, r_sDrawDodgesIn]
    refine ⟨inR_i64 (by omega), m_call (sCoursePath_ok nm st x cs (1 + (p : Int)) hnm hc8 (by omega) _ ho4.sq) ?_⟩
    rintro _ w5 hx5 ⟨z, rfl, ho5⟩
    simp only [↓vsd, vsn, gW, qd, qv, ev, pick, argE, zipE, ne_eq, eq_self, forall_const, implies_true, if_true, if_false, reduceIte, reduceCtorEq, Nat.reduceEqDiff, Nat.reduceAdd, Nat.reduceLT, ↓us_sDrawDodgesIn, r_sDrawDodgesIn]
    have hF5 : Ext w w5 := hc4.base.trans hx5
    have hcp : (cpR nm st cs (1 + (p : Int))).length ≤ 1000 ∧ ∀ q ∈ cpR nm st cs (1 + (p : Int)), -1000 ≤ q ∧ q ≤ 1000 := by
      unfold cpR
      split
      · rename_i hp
        obtain ⟨n, rfl⟩ : ∃ n : Nat, st = n := ⟨st.toNat, by omega⟩
        have hH := under_row (n := n) (by omega) cs
        have hpb := pbL_len hH.1 (x := (1 + (p : Int)).toNat - 1) (by rw [hH.2]; have := hp.2; omega)
        have hmul : (pbL (underL (roundsL n) cs) ((1 + (p : Int)).toNat - 1)).length * cs.length ≤ 8 * 40 := Nat.mul_le_mul hpb.2 hcl.2
        rw [Int.toNat_natCast]
        exact ⟨by rw [cpL_len]; omega, cp_bd (by omega) cs _⟩
      · simp
    exact ⟨hF5, _, ho5.mono hc4.base.size, hcp.1, hcp.2⟩
end Go.Proofs.Ytpnopboffalfnaa
