/-
  The call of the law FnConduct.
  Conditions: none.
-/
import Derived.Test.YtpnopboffalfnaaD33
import Derived.Test.YtpnopboffalfnaaA44
import Derived.Test.YtpnopboffalfnaaA36
set_option linter.unusedSimpArgs false
set_option linter.unusedVariables false
set_option linter.defProp false
namespace Go.Proofs.Ytpnopboffalfnaa
open Go Go.RowKit
section
variable (P : Program) (k : KT) (e : Env) (w : World)
abbrev b13_1 : X := (.cond (.t 29) (.seq (.reg [4] (.c (.q 4 [] (.mv (.c (.bool true)))) .nil)) .ret) .skip)
def t13_1 := b13_1
theorem u13_1 : vcK P t13_1 k e w = vcK P b13_1 k e w := rfl
abbrev b13_2 : X := (.cond (.t 89) (.seq (.reg [4] (.c (.q 4 [] (.mv (.c (.bool false)))) .nil)) .ret) .skip)
def t13_2 := b13_2
theorem u13_2 : vcK P t13_2 k e w = vcK P b13_2 k e w := rfl
abbrev b13_3 : X := (.cond (.t 91) (.seq (.reg [4] (.c (.q 4 [] (.mv (.c (.bool true)))) .nil)) .ret) .skip)
def t13_3 := b13_3
theorem u13_3 : vcK P t13_3 k e w = vcK P b13_3 k e w := rfl
abbrev b13_4 : X := (.cond (.t 107) (.seq (.reg [4] (.c (.q 4 [] (.mv (.c (.bool false)))) .nil)) .ret) .skip)
def t13_4 := b13_4
theorem u13_4 : vcK P t13_4 k e w = vcK P b13_4 k e w := rfl
abbrev b13_5 : X := (.cond (.t 130) (.seq (.reg [4] (.c (.q 4 [] (.mv (.c (.bool false)))) .nil)) .ret) .skip)
def t13_5 := b13_5
theorem u13_5 : vcK P t13_5 k e w = vcK P b13_5 k e w := rfl
abbrev b13_6 : X := (.seq (.reg [8, 19, 109, 110, 130] (.c (.q 121 [] (.mv (.t 23))) (.c (.q 122 [] (.not (.t 121))) (.c (.q 123 [] (.mv (.t 122))) (.c (.q 124 [(123, false)] (.mv (.t 22))) (.c (.q 125 [(123, false)] (.mv (.t 19))) (.c (.q 126 [(123, false)] (.mv (.t 21))) (.c (.q 127 [(123, false)] (.ia 1 (.t 125) (.t 126))) (.c (.q 128 [(123, false)] (.ld (.t 127))) (.c (.q 129 [(123, false)] (.bin .neq (.t 124) (.t 128))) (.c (.q 130 [] (.pick (.t 123) (.c (.bool true)) (.t 129))) .nil))))))))))) t13_5)
def t13_6 := b13_6
theorem u13_6 : vcK P t13_6 k e w = vcK P b13_6 k e w := rfl
abbrev b13_7 : X := (.seq (.reg [8, 19, 21, 22, 23, 109, 110] (.c (.q 114 [] (.mv (.t 8))) (.c (.q 115 [] (.mv (.t 21))) (.c (.q 116 [] (.ia 1 (.t 114) (.t 115))) (.c (.q 117 [] (.ld (.t 116))) (.c (.e (some 118) [] (.call false 146 [(.c (.int .i64 1)), (.t 117)])) (.c (.q 113 [] (.mv (.t 118))) (.c (.q 119 [] (.ext 0 (.t 113))) (.c (.q 120 [] (.ext 1 (.t 113))) (.c (.q 22 [] (.mv (.t 119))) (.c (.q 23 [] (.mv (.t 120))) .nil))))))))))) t13_6)
def t13_7 := b13_7
theorem u13_7 : vcK P t13_7 k e w = vcK P b13_7 k e w := rfl
abbrev b13_8 : X := (.reg [8, 19, 109, 110] (.c (.q 131 [] (.bin .add (.t 110) (.c (.int .i64 1)))) (.c (.q 110 [] (.mv (.t 131))) .nil)))
def t13_8 := b13_8
theorem u13_8 : vcK P t13_8 k e w = vcK P b13_8 k e w := rfl
abbrev b13_9 : X := (.seq (.blk 1 (.seq (.reg [8, 19, 21, 109, 110] (.c (.q 112 [] (.mv (.t 110))) (.c (.q 21 [] (.mv (.t 112))) .nil))) t13_7)) t13_8)
def t13_9 := b13_9
theorem u13_9 : vcK P t13_9 k e w = vcK P b13_9 k e w := rfl
abbrev b13_10 : X := (.seq (.cond (.t 111) .skip (.exit 0)) t13_9)
def t13_10 := b13_10
theorem u13_10 : vcK P t13_10 k e w = vcK P b13_10 k e w := rfl
abbrev b13_11 : X := (.seq (.reg [8, 19, 109, 110, 111] (.c (.q 111 [] (.bin .lss (.t 110) (.t 109))) .nil)) t13_10)
def t13_11 := b13_11
theorem u13_11 : vcK P t13_11 k e w = vcK P b13_11 k e w := rfl
abbrev b13_12 : X := (.blk 0 (.loop [110] [8, 19, 109] t13_11))
def t13_12 := b13_12
theorem u13_12 : vcK P t13_12 k e w = vcK P b13_12 k e w := rfl
abbrev b13_13 : X := (.seq (.reg [4] (.c (.q 4 [] (.mv (.c (.bool true)))) .nil)) .ret)
def t13_13 := b13_13
theorem u13_13 : vcK P t13_13 k e w = vcK P b13_13 k e w := rfl
abbrev b13_14 : X := (.seq (.seq (.reg [8, 19, 109, 110] (.c (.q 108 [] (.mv (.t 19))) (.c (.q 109 [] (.lens (.t 108))) (.c (.q 110 [] (.mv (.c (.int .i64 0)))) .nil)))) t13_12) t13_13)
def t13_14 := b13_14
theorem u13_14 : vcK P t13_14 k e w = vcK P b13_14 k e w := rfl
abbrev b13_15 : X := (.seq (.seq (.reg [8, 19, 107] (.c (.q 99 [] (.mv (.t 20))) (.c (.q 100 [] (.not (.t 99))) (.c (.q 101 [] (.mv (.t 100))) (.c (.q 102 [(101, false)] (.mv (.t 8))) (.c (.q 103 [(101, false)] (.lens (.t 102))) (.c (.q 104 [(101, false)] (.mv (.t 19))) (.c (.q 105 [(101, false)] (.lens (.t 104))) (.c (.q 106 [(101, false)] (.bin .neq (.t 103) (.t 105))) (.c (.q 107 [] (.pick (.t 101) (.c (.bool true)) (.t 106))) .nil)))))))))) t13_4) t13_14)
def t13_15 := b13_15
theorem u13_15 : vcK P t13_15 k e w = vcK P b13_15 k e w := rfl
abbrev b13_16 : X := (.seq (.reg [8, 19, 20] (.c (.q 93 [] (.lda 3 (.t 5))) (.c (.q 94 [] (.lda 2 (.t 6))) (.c (.q 95 [] (.mv (.t 7))) (.c (.e (some 96) [] (.call false 76 [(.t 93), (.t 94), (.t 95)])) (.c (.q 92 [] (.mv (.t 96))) (.c (.q 97 [] (.ext 0 (.t 92))) (.c (.q 98 [] (.ext 1 (.t 92))) (.c (.q 19 [] (.mv (.t 97))) (.c (.q 20 [] (.mv (.t 98))) .nil)))))))))) t13_15)
def t13_16 := b13_16
theorem u13_16 : vcK P t13_16 k e w = vcK P b13_16 k e w := rfl
abbrev b13_17 : X := (.seq (.seq (.reg [5, 6, 7, 8, 91] (.c (.q 90 [] (.mv (.t 9))) (.c (.q 91 [] (.not (.t 90))) .nil))) t13_3) t13_16)
def t13_17 := b13_17
theorem u13_17 : vcK P t13_17 k e w = vcK P b13_17 k e w := rfl
abbrev b13_18 : X := (.seq (.seq (.reg [5, 6, 7, 8, 9, 89] (.c (.q 70 [] (.mv (.t 9))) (.c (.q 71 [] (.mv (.t 11))) (.c (.q 72 [] (.beq true (.t 70) (.t 71))) (.c (.q 73 [] (.mv (.t 72))) (.c (.q 74 [(73, false)] (.mv (.t 8))) (.c (.q 75 [(73, false)] (.mv (.t 10))) (.c (.e (some 76) [(73, false)] (.call false 81 [(.t 74), (.t 75)])) (.c (.q 77 [(73, false)] (.not (.t 76))) (.c (.q 78 [] (.pick (.t 73) (.c (.bool true)) (.t 77))) (.c (.q 79 [] (.mv (.t 78))) (.c (.q 80 [(79, false)] (.mv (.t 16))) (.c (.q 81 [(79, false)] (.mv (.t 18))) (.c (.q 82 [(79, false)] (.beq true (.t 80) (.t 81))) (.c (.q 83 [] (.pick (.t 79) (.c (.bool true)) (.t 82))) (.c (.q 84 [] (.mv (.t 83))) (.c (.q 85 [(84, false)] (.mv (.t 15))) (.c (.q 86 [(84, false)] (.mv (.t 17))) (.c (.e (some 87) [(84, false)] (.call false 109 [(.t 85), (.t 86)])) (.c (.q 88 [(84, false)] (.not (.t 87))) (.c (.q 89 [] (.pick (.t 84) (.c (.bool true)) (.t 88))) .nil))))))))))))))))))))) t13_2) t13_17)
def t13_18 := b13_18
theorem u13_18 : vcK P t13_18 k e w = vcK P b13_18 k e w := rfl
abbrev b13_19 : X := (.seq (.reg [5, 6, 7, 8, 9, 10, 11, 15, 16, 17, 18] (.c (.q 64 [] (.lda 3 (.t 12))) (.c (.q 65 [] (.lda 2 (.t 13))) (.c (.q 66 [] (.mv (.t 14))) (.c (.e (some 67) [] (.call false 145 [(.t 64), (.t 65), (.t 66)])) (.c (.q 63 [] (.mv (.t 67))) (.c (.q 68 [] (.ext 0 (.t 63))) (.c (.q 69 [] (.ext 1 (.t 63))) (.c (.q 17 [] (.mv (.t 68))) (.c (.q 18 [] (.mv (.t 69))) .nil)))))))))) t13_18)
def t13_19 := b13_19
theorem u13_19 : vcK P t13_19 k e w = vcK P b13_19 k e w := rfl
abbrev b13_20 : X := (.seq (.reg [5, 6, 7, 8, 9, 10, 11, 12, 13, 14, 15, 16] (.c (.q 57 [] (.lda 3 (.t 12))) (.c (.q 58 [] (.lda 2 (.t 13))) (.c (.q 59 [] (.mv (.t 14))) (.c (.e (some 60) [] (.call false 144 [(.t 57), (.t 58), (.t 59)])) (.c (.q 56 [] (.mv (.t 60))) (.c (.q 61 [] (.ext 0 (.t 56))) (.c (.q 62 [] (.ext 1 (.t 56))) (.c (.q 15 [] (.mv (.t 61))) (.c (.q 16 [] (.mv (.t 62))) .nil)))))))))) t13_19)
def t13_20 := b13_20
theorem u13_20 : vcK P t13_20 k e w = vcK P b13_20 k e w := rfl
abbrev b13_21 : X := (.seq (.reg [5, 6, 7, 8, 9, 10, 11, 12, 13, 14] (.c (.q 51 [] (.mv (.t 1))) (.c (.e (some 52) [] (.call false 143 [(.t 51)])) (.c (.q 50 [] (.mv (.t 52))) (.c (.q 53 [] (.ext 0 (.t 50))) (.c (.q 54 [] (.ext 1 (.t 50))) (.c (.q 55 [] (.ext 2 (.t 50))) (.c (.e (some 12) [] (.al 41 [(S []), (.int .i64 0), (.slice none 0 0)])) (.c (.e (some 13) [] (.al 32 [(S []), (S [])])) (.c (.e none [] (.st 3 (.t 12) (.t 53))) (.c (.e none [] (.st 2 (.t 13) (.t 54))) (.c (.q 14 [] (.mv (.t 55))) .nil)))))))))))) t13_20)
def t13_21 := b13_21
theorem u13_21 : vcK P t13_21 k e w = vcK P b13_21 k e w := rfl
abbrev b13_22 : X := (.seq (.reg [1, 5, 6, 7, 8, 9, 10, 11] (.c (.q 44 [] (.lda 3 (.t 5))) (.c (.q 45 [] (.lda 2 (.t 6))) (.c (.q 46 [] (.mv (.t 7))) (.c (.e (some 47) [] (.call false 142 [(.t 44), (.t 45), (.t 46)])) (.c (.q 43 [] (.mv (.t 47))) (.c (.q 48 [] (.ext 0 (.t 43))) (.c (.q 49 [] (.ext 1 (.t 43))) (.c (.q 10 [] (.mv (.t 48))) (.c (.q 11 [] (.mv (.t 49))) .nil)))))))))) t13_21)
def t13_22 := b13_22
theorem u13_22 : vcK P t13_22 k e w = vcK P b13_22 k e w := rfl
abbrev b13_23 : X := (.seq (.reg [1, 5, 6, 7, 8, 9] (.c (.q 37 [] (.lda 3 (.t 5))) (.c (.q 38 [] (.lda 2 (.t 6))) (.c (.q 39 [] (.mv (.t 7))) (.c (.e (some 40) [] (.call false 141 [(.t 37), (.t 38), (.t 39)])) (.c (.q 36 [] (.mv (.t 40))) (.c (.q 41 [] (.ext 0 (.t 36))) (.c (.q 42 [] (.ext 1 (.t 36))) (.c (.q 8 [] (.mv (.t 41))) (.c (.q 9 [] (.mv (.t 42))) .nil)))))))))) t13_22)
def t13_23 := b13_23
theorem u13_23 : vcK P t13_23 k e w = vcK P b13_23 k e w := rfl
abbrev b13_24 : X := (.seq (.reg [1, 5, 6, 7] (.c (.q 31 [] (.mv (.t 0))) (.c (.e (some 32) [] (.call false 140 [(.t 31)])) (.c (.q 30 [] (.mv (.t 32))) (.c (.q 33 [] (.ext 0 (.t 30))) (.c (.q 34 [] (.ext 1 (.t 30))) (.c (.q 35 [] (.ext 2 (.t 30))) (.c (.e (some 5) [] (.al 41 [(S []), (.int .i64 0), (.slice none 0 0)])) (.c (.e (some 6) [] (.al 32 [(S []), (S [])])) (.c (.e none [] (.st 3 (.t 5) (.t 33))) (.c (.e none [] (.st 2 (.t 6) (.t 34))) (.c (.q 7 [] (.mv (.t 35))) .nil)))))))))))) t13_23)
def t13_24 := b13_24
theorem u13_24 : vcK P t13_24 k e w = vcK P b13_24 k e w := rfl
abbrev b13_25 : X := (.seq (.seq (.reg [0, 1, 29] (.c (.q 24 [] (.mv (.t 0))) (.c (.q 25 [] (.lens (.t 24))) (.c (.q 26 [] (.mv (.t 1))) (.c (.q 27 [] (.lens (.t 26))) (.c (.q 28 [] (.bin .add (.t 25) (.t 27))) (.c (.q 29 [] (.bin .gtr (.t 28) (.c (.int .i64 1048576)))) .nil))))))) t13_1) t13_24)
def t13_25 := b13_25
theorem u13_25 : vcK P t13_25 k e w = vcK P b13_25 k e w := rfl
abbrev b13_0 : X := (.seq (.reg [0, 1] (.c (.q 4 [] (.mv (.c (.bool false)))) .nil)) t13_25)
def x_lFnConduct := b13_0
theorem u13_0 : vcK P x_lFnConduct k e w = vcK P b13_0 k e w := rfl
def r_lFnConduct : List XO := [(.mv (.t 4))]
theorem c_lFnConduct : convF Try.prog [169, 170, 207, 208, 210, 227, 232, 233, 255, 259, 268, 269, 270, 280, 281, 296, 299, 306, 307, 309] Try.f13 [([0, 1], []), ([0, 1, 29], []), ([4], []), ([1, 5, 6, 7], []), ([1, 5, 6, 7, 8, 9], []), ([1, 5, 6, 7, 8, 9, 10, 11], []), ([5, 6, 7, 8, 9, 10, 11, 12, 13, 14], []), ([5, 6, 7, 8, 9, 10, 11, 12, 13, 14, 15, 16], []), ([5, 6, 7, 8, 9, 10, 11, 15, 16, 17, 18], []), ([5, 6, 7, 8, 9, 89], []), ([4], []), ([5, 6, 7, 8, 91], []), ([4], []), ([8, 19, 20], []), ([8, 19, 107], []), ([4], []), ([8, 19, 109, 110], []), ([110], [8, 19, 109]), ([8, 19, 109, 110, 111], []), ([8, 19, 21, 109, 110], []), ([8, 19, 21, 22, 23, 109, 110], []), ([8, 19, 109, 110, 130], []), ([4], []), ([8, 19, 109, 110], []), ([4], [])] = some (x_lFnConduct, r_lFnConduct) := by kernel_rfl
def us_lFnConduct := aI @u13_0 (aI @u13_1 (aI @u13_2 (aI @u13_3 (aI @u13_4 (aI @u13_5 (aI @u13_6 (aI @u13_7 (aI @u13_8 (aI @u13_9 (aI @u13_10 (aI @u13_11 (aI @u13_12 (aI @u13_13 (aI @u13_14 (aI @u13_15 (aI @u13_16 (aI @u13_17 (aI @u13_18 (aI @u13_19 (aI @u13_20 (aI @u13_21 (aI @u13_22 (aI @u13_23 (aI @u13_24 @u13_25))))))))))))))))))))))))
end

set_option maxHeartbeats 4000000 in
theorem lFnConduct_ok (v u : Value) (code more : List UInt8) (hcl : code.length ≤ 140737488355328) (hml : more.length ≤ 140737488355328) (w : World) (h : Sq fU 1 w v code) (h' : Sq fU 1 w u more) : Fn 13 [v, u] w (fun r _ => r = .bool true) := by
  (refine callsV_of mix Try.func13 c_lFnConduct ?_; simp only [↓vsd, vsn, gW, qd, qv, ev, pick, argE, zipE, ne_eq, eq_self, forall_const, implies_true, if_true, if_false, reduceIte, reduceCtorEq, Nat.reduceEqDiff, Nat.reduceAdd, Nat.reduceLT, ↓us_lFnConduct, r_lFnConduct])
  simp only [↓vsd, vsn, gW, qd, qv, ev, pick, argE, zipE, ne_eq, eq_self, forall_const, implies_true, if_true, if_false, reduceIte, reduceCtorEq, Nat.reduceEqDiff, Nat.reduceAdd, Nat.reduceLT, ↓us_lFnConduct, r_lFnConduct, h.facts, h'.facts]
  refine ⟨inR_i64 (by omega), fun _ => Ext.refl _, fun hsm => ?_⟩
  have hlen : code.length ≤ 1048576 ∧ more.length ≤ 1048576 := by omega
  refine m_call (sDrawConductLine_ok v code hlen.1 _ h) ?_
  rintro _ w1 hx1 ⟨nm, st, x, cs, b, s, t, rfl, ⟨ho1, hnm, hst, hcs, hc8, hbs⟩, ht⟩
  simp only [↓vsd, vsn, gW, qd, qv, ev, pick, argE, zipE, ne_eq, eq_self, forall_const, implies_true, if_true, if_false, reduceIte, reduceCtorEq, Nat.reduceEqDiff, Nat.reduceAdd, Nat.reduceLT, ↓us_lFnConduct, r_lFnConduct]
  refine m_al ?_
  rintro bm w2 hbm hblk2 hx2 hs2
  simp only [↓vsd, vsn, gW, qd, qv, ev, pick, argE, zipE, ne_eq, eq_self, forall_const, implies_true, if_true, if_false, reduceIte, reduceCtorEq, Nat.reduceEqDiff, Nat.reduceAdd, Nat.reduceLT, ↓us_lFnConduct, r_lFnConduct]
  refine m_al ?_
  rintro bk w3 hbk hblk3 hx3 hs3
  simp only [↓vsd, vsn, gW, qd, qv, ev, pick, argE, zipE, ne_eq, eq_self, forall_const, implies_true, if_true, if_false, reduceIte, reduceCtorEq, Nat.reduceEqDiff, Nat.reduceAdd, Nat.reduceLT, ↓us_lFnConduct, r_lFnConduct]
  refine m_st (Blk.ext hblk2 hx3) rfl (Nat.le_refl 3) (fM_one nm st x ho1.sq.one') ?_
  rintro w4 hblk4 hu4
  have hm4 : Blk w4 bm (fM nm st x) 41 := hblk4
  simp only [↓vsd, vsn, gW, qd, qv, ev, pick, argE, zipE, ne_eq, eq_self, forall_const, implies_true, if_true, if_false, reduceIte, reduceCtorEq, Nat.reduceEqDiff, Nat.reduceAdd, Nat.reduceLT, ↓us_lFnConduct, r_lFnConduct]
  refine m_st (hu4.blk hblk3 (by omega)) rfl (Nat.le_refl 2) (fQ_one b s) ?_
  rintro w5 hblk5 hu5
  have hkL : Blk w5 bk (fQ b s) 32 := hblk5
  have hmL := hu5.blk hm4 (by omega)
  have hoL := (((ho1.ext hx2).ext hx3).upd hu4 (ho1.away (by omega))).upd hu5 (ho1.away (by omega))
  have hxL : Ext w w5 := hu5.below (hu4.below ((hx1.trans hx2).trans hx3) (by have := hx1.size; omega)) (by have := hx1.size; omega)
  have hnm' : nm.length ≤ 1048576 := by omega
  have hc8' : ∀ c ∈ cs, c.length ≤ 1048576 := fun c hc => by have := hc8 c hc; omega
  have hcs' : cs.length ≤ 1000000000 := by omega
  have hbs' : b.length ≤ 1048576 ∧ s.length ≤ 1048576 := by omega
  have ht' : t.length ≤ 1000000000 := by omega
  clear hblk2 hblk3 hblk4 hblk5 hx1 hx2 hx3 hu4 hu5 hm4 ho1 hbm hbk hs2 hs3
  simp only [↓vsd, vsn, gW, qd, qv, ev, pick, argE, zipE, ne_eq, eq_self, forall_const, implies_true, if_true, if_false, reduceIte, reduceCtorEq, Nat.reduceEqDiff, Nat.reduceAdd, Nat.reduceLT, ↓us_lFnConduct, r_lFnConduct, hmL.facts, hkL.facts, fMg, fQg]
  refine m_call (iConductLine_ok nm st x cs b s t hnm' hc8' hcs' hbs' ht' _ hoL.sq) ?_
  rintro _ w6 hxn ⟨y1, rfl, hl1⟩
  have hmL := hmL.ext hxn
  have hkL := hkL.ext hxn
  have hoL := hoL.ext hxn
  have hxL := hxL.trans hxn
  simp only [↓vsd, vsn, gW, qd, qv, ev, pick, argE, zipE, ne_eq, eq_self, forall_const, implies_true, if_true, if_false, reduceIte, reduceCtorEq, Nat.reduceEqDiff, Nat.reduceAdd, Nat.reduceLT, ↓us_lFnConduct, r_lFnConduct, hmL.facts, hkL.facts, fMg, fQg]
  refine m_call (sConductLine_ok nm st x cs b s t hnm' hc8' hcs' hbs' ht' _ hoL.sq) ?_
  rintro _ w7 hxn ⟨y2, rfl, hl2⟩
  have hl1 := hl1.ext hxn
  have hmL := hmL.ext hxn
  have hkL := hkL.ext hxn
  have hoL := hoL.ext hxn
  have hxL := hxL.trans hxn
  simp only [↓vsd, vsn, gW, qd, qv, ev, pick, argE, zipE, ne_eq, eq_self, forall_const, implies_true, if_true, if_false, reduceIte, reduceCtorEq, Nat.reduceEqDiff, Nat.reduceAdd, Nat.reduceLT, ↓us_lFnConduct, r_lFnConduct]
  refine m_call (sDrawCallMoves_ok u more hlen.2 _ (h'.ext hxL)) ?_
  rintro _ w8 hxn ⟨nm2, st2, x2, cs2, b2, s2, call, rfl, ⟨ho2, hnm2, hst2, hcs2, hc82, hbs2⟩, hcall⟩
  have hl1 := hl1.ext hxn
  have hl2 := hl2.ext hxn
  have hmL := hmL.ext hxn
  have hkL := hkL.ext hxn
  have hoL := hoL.ext hxn
  have hxL := hxL.trans hxn
  have lm := hmL.lt
  have lk := hkL.lt
  have szL := hxL.size
  simp only [↓vsd, vsn, gW, qd, qv, ev, pick, argE, zipE, ne_eq, eq_self, forall_const, implies_true, if_true, if_false, reduceIte, reduceCtorEq, Nat.reduceEqDiff, Nat.reduceAdd, Nat.reduceLT, ↓us_lFnConduct, r_lFnConduct]
  refine m_al ?_
  rintro bu w9 hbu hblk9 hx9 hs9
  simp only [↓vsd, vsn, gW, qd, qv, ev, pick, argE, zipE, ne_eq, eq_self, forall_const, implies_true, if_true, if_false, reduceIte, reduceCtorEq, Nat.reduceEqDiff, Nat.reduceAdd, Nat.reduceLT, ↓us_lFnConduct, r_lFnConduct]
  refine m_al ?_
  rintro bv w10 hbv hblk10 hx10 hs10
  simp only [↓vsd, vsn, gW, qd, qv, ev, pick, argE, zipE, ne_eq, eq_self, forall_const, implies_true, if_true, if_false, reduceIte, reduceCtorEq, Nat.reduceEqDiff, Nat.reduceAdd, Nat.reduceLT, ↓us_lFnConduct, r_lFnConduct]
  refine m_st (Blk.ext hblk9 hx10) rfl (Nat.le_refl 3) (fM_one nm2 st2 x2 ho2.sq.one') ?_
  rintro w11 hblk11 hu11
  have hm11 : Blk w11 bu (fM nm2 st2 x2) 41 := hblk11
  simp only [↓vsd, vsn, gW, qd, qv, ev, pick, argE, zipE, ne_eq, eq_self, forall_const, implies_true, if_true, if_false, reduceIte, reduceCtorEq, Nat.reduceEqDiff, Nat.reduceAdd, Nat.reduceLT, ↓us_lFnConduct, r_lFnConduct]
  refine m_st (hu11.blk hblk10 (by omega)) rfl (Nat.le_refl 2) (fQ_one b2 s2) ?_
  rintro w12 hblk12 hu12
  have hkR : Blk w12 bv (fQ b2 s2) 32 := hblk12
  have hmR := hu12.blk hm11 (by omega)
  have hoL := (((hoL.ext hx9).ext hx10).upd hu11 (hoL.away (by omega))).upd hu12 (hoL.away (by omega))
  have hl1 := (((hl1.ext hx9).ext hx10).upd hu11 (hl1.away (by omega))).upd hu12 (hl1.away (by omega))
  have hl2 := (((hl2.ext hx9).ext hx10).upd hu11 (hl2.away (by omega))).upd hu12 (hl2.away (by omega))
  have hoR := (((ho2.ext hx9).ext hx10).upd hu11 (ho2.away (by omega))).upd hu12 (ho2.away (by omega))
  have hmL := hu12.blk (hu11.blk ((hmL.ext hx9).ext hx10) (by omega)) (by omega)
  have hkL := hu12.blk (hu11.blk ((hkL.ext hx9).ext hx10) (by omega)) (by omega)
  have hxL : Ext w w12 := hu12.below (hu11.below ((hxL.trans hx9).trans hx10) (by omega)) (by omega)
  have hnm2' : nm2.length ≤ 1048576 := by omega
  have hc82' : ∀ c ∈ cs2, c.length ≤ 1048576 := fun c hc => by have := hc82 c hc; omega
  have hcs2' : cs2.length ≤ 1000000000 := by omega
  have hbs2' : b2.length ≤ 1048576 ∧ s2.length ≤ 1048576 := by omega
  clear hblk9 hblk10 hblk11 hblk12 hx9 hx10 hu11 hu12 hm11 ho2 hbu hbv hs9 hs10 lm lk
  simp only [↓vsd, vsn, gW, qd, qv, ev, pick, argE, zipE, ne_eq, eq_self, forall_const, implies_true, if_true, if_false, reduceIte, reduceCtorEq, Nat.reduceEqDiff, Nat.reduceAdd, Nat.reduceLT, ↓us_lFnConduct, r_lFnConduct, hmR.facts, hkR.facts, fMg, fQg]
  refine m_call (iCallMoves_ok nm2 st2 x2 cs2 b2 s2 call hnm2' hc82' hcs2' hbs2' _ hoR.sq) ?_
  rintro _ w13 hxn ⟨z1, rfl, hz1⟩
  have hmL := hmL.ext hxn
  have hkL := hkL.ext hxn
  have hoL := hoL.ext hxn
  have hxL := hxL.trans hxn
  have hmR := hmR.ext hxn
  have hkR := hkR.ext hxn
  have hoR := hoR.ext hxn
  have hl1 := hl1.ext hxn
  have hl2 := hl2.ext hxn
  simp only [↓vsd, vsn, gW, qd, qv, ev, pick, argE, zipE, ne_eq, eq_self, forall_const, implies_true, if_true, if_false, reduceIte, reduceCtorEq, Nat.reduceEqDiff, Nat.reduceAdd, Nat.reduceLT, ↓us_lFnConduct, r_lFnConduct, hmR.facts, hkR.facts, fMg, fQg]
  refine m_call (sCallMoves_ok nm2 st2 x2 cs2 b2 s2 call hnm2' hc82' hcs2' hbs2' _ hoR.sq) ?_
  rintro _ w14 hxn ⟨z2, rfl, hz2⟩
  have hz1 := hz1.ext hxn
  have hmL := hmL.ext hxn
  have hkL := hkL.ext hxn
  have hoL := hoL.ext hxn
  have hxL := hxL.trans hxn
  have hmR := hmR.ext hxn
  have hkR := hkR.ext hxn
  have hoR := hoR.ext hxn
  have hl1 := hl1.ext hxn
  have hl2 := hl2.ext hxn
  have hL1 : (lineR nm st cs b s t).length ≤ 1000 := by unfold lineR; split <;> simp [lineL]; omega
  have hL2 : (if moveV nm2 st2 cs2 b2 s2 call then movesI (headC st2.toNat cs2 b2 s2 call) else []).length ≤ 1000 := by
    split
    · rename_i hmv
      have h8 := hmv.1.2.1.1.2.1
      have hst2 : st2 = (st2.toNat : Int) := by omega
      have hmc := hmv.1.2.1
      rw [hst2] at hmc
      have hr := headC_row hmc call
      rw [movesI_len _ (by rw [hr.2]; omega), hr.2]
      omega
    · simp
  simp only [↓vsd, vsn, gW, qd, qv, ev, pick, argE, zipE, ne_eq, eq_self, forall_const, implies_true, if_true, if_false, reduceIte, reduceCtorEq, Nat.reduceEqDiff, Nat.reduceAdd, Nat.reduceLT, ↓us_lFnConduct, r_lFnConduct]
  refine m_call (lqSameS_ok y1 y2 _ _ _ hl1.sq hl2.sq (by omega)) ?_
  rintro _ w15 hxn rfl
  have hz1 := hz1.ext hxn
  have hz2 := hz2.ext hxn
  have hmL := hmL.ext hxn
  have hkL := hkL.ext hxn
  have hoL := hoL.ext hxn
  have hxL := hxL.trans hxn
  have hmR := hmR.ext hxn
  have hkR := hkR.ext hxn
  have hoR := hoR.ext hxn
  have hl1 := hl1.ext hxn
  have hl2 := hl2.ext hxn
  simp only [↓vsd, vsn, gW, qd, qv, ev, pick, argE, zipE, ne_eq, eq_self, forall_const, implies_true, if_true, if_false, reduceIte, reduceCtorEq, Nat.reduceEqDiff, Nat.reduceAdd, Nat.reduceLT, ↓us_lFnConduct, r_lFnConduct]
  refine m_call (lqSameN_ok z1 z2 _ _ _ hz1.sq hz2.sq (by omega)) ?_
  rintro _ w16 hxn rfl
  have hmL := hmL.ext hxn
  have hkL := hkL.ext hxn
  have hoL := hoL.ext hxn
  have hxL := hxL.trans hxn
  have hmR := hmR.ext hxn
  have hkR := hkR.ext hxn
  have hoR := hoR.ext hxn
  have hl1 := hl1.ext hxn
  have hl2 := hl2.ext hxn
  by_cases hC : LineOk nm st cs b s t
  · obtain ⟨n, rfl⟩ : ∃ n : Nat, st = n := ⟨st.toNat, by omega⟩
    have hCd := decide_eq_true hC
    have hM : IsMT nm n cs b s t := hC.1.2
    have hMd := decide_eq_true hM
    have h8 := hM.1.1.2.1
    have h4 : 4 ≤ n := by have := hC.1.1.2; omega
    rw [lineR, if_pos hC, Int.toNat_natCast] at hl1
    simp only [↓vsd, vsn, gW, qd, qv, ev, pick, argE, zipE, ne_eq, eq_self, forall_const, implies_true, if_true, if_false, reduceIte, reduceCtorEq, Nat.reduceEqDiff, Nat.reduceAdd, Nat.reduceLT, ↓us_lFnConduct, r_lFnConduct, hCd, hmL.facts, hkL.facts, fMg, fQg]
    refine m_call (sTouchHeads_ok nm n x cs b s t hnm' hc8' hcs' hbs' ht' _ hoL.sq) ?_
    rintro _ w17 hxn ⟨yh, rfl, hoh⟩
    have hmL := hmL.ext hxn
    have hkL := hkL.ext hxn
    have hoL := hoL.ext hxn
    have hxL := hxL.trans hxn
    have hmR := hmR.ext hxn
    have hkR := hkR.ext hxn
    have hoR := hoR.ext hxn
    have hl1 := hl1.ext hxn
    have hl2 := hl2.ext hxn
    rw [headsV, if_pos hM, Int.toNat_natCast] at hoh
    have hll : (lineL n cs b s t (t.length + 1)).length = t.length + 1 := by simp [lineL]
    have hlh := headsP_len n cs b s t (t.length + 1)
    simp only [↓vsd, vsn, gW, qd, qv, ev, pick, argE, zipE, ne_eq, eq_self, forall_const, implies_true, if_true, if_false, reduceIte, reduceCtorEq, Nat.reduceEqDiff, Nat.reduceAdd, Nat.reduceLT, ↓us_lFnConduct, r_lFnConduct, hMd, hl1.sq.facts, hoh.sq.facts, hll, hlh]
    refine m_upto (t.length + 1) (fun i vs w' => vs = [.int .i64 i] ∧ Ext w17 w') ⟨rfl, Ext.refl _⟩ ?_
    rintro i vs w18 hi ⟨rfl, hx18⟩
    by_cases hlt : i < t.length + 1
    · have hltI : (i : Int) < (t.length + 1 : Nat) := by omega
      have hltJ : ¬ ((t.length + 1 : Nat) : Int) ≤ i := by omega
      have hq1 := hl1.sq.ext hx18
      have hqh := hoh.sq.ext hx18
      have hg1 : (lineL n cs b s t (t.length + 1)).getD i [] = ordO n cs b s t i := by rw [lineL, getD_map _ 0 _ _ _ (by simp; omega)]; congr 1; simp [List.getD_eq_getElem?_getD, hlt]
      have hgh := headsP_get n cs b s t (t.length + 1) i hlt
      obtain ⟨eo, e1⟩ := ord_head hM.1 t i (by omega) fun j hj => hC.2 j (by omega)
      have hP := headP_row hM.1 t i
      rw [eo] at hg1
      have hi1 : i < (lineL n cs b s t (t.length + 1)).length := by omega
      have hi2 : i < (headsP n cs b s t (t.length + 1)).length := by omega
      simp only [↓vsd, vsn, gW, qd, qv, ev, pick, argE, zipE, ne_eq, eq_self, forall_const, implies_true, if_true, if_false, reduceIte, reduceCtorEq, Nat.reduceEqDiff, Nat.reduceAdd, Nat.reduceLT, ↓us_lFnConduct, r_lFnConduct, hltI, hltJ, hq1.facts, hqh.facts, hll, hlh, hq1.at1 [] hi1, hqh.at1 [] hi2, hg1, hgh]
      refine ⟨by omega, m_call (iRowOfCourse_ok 1 _ (by rw [course_len _ (by omega)]; omega) _) ?_⟩
      rintro re w19 hxn hre
      rw [roc_head hP.1 (by omega) e1] at hre
      subst hre
      have hqh := hqh.ext hxn
      simp only [↓vsd, vsn, gW, qd, qv, ev, pick, argE, zipE, ne_eq, eq_self, forall_const, implies_true, if_true, if_false, reduceIte, reduceCtorEq, Nat.reduceEqDiff, Nat.reduceAdd, Nat.reduceLT, ↓us_lFnConduct, r_lFnConduct, hqh.facts, hlh, hqh.at1 [] hi2, hgh]
      exact ⟨by omega, inR_i64 (by omega), UpTo.next hlt ⟨rfl, hx18.trans hxn⟩⟩
    · obtain rfl : i = t.length + 1 := by omega
      have hltI : ¬ ((t.length + 1 : Nat) : Int) < (t.length + 1 : Nat) := by omega
      simp only [↓vsd, vsn, gW, qd, qv, ev, pick, argE, zipE, ne_eq, eq_self, forall_const, implies_true, if_true, if_false, reduceIte, reduceCtorEq, Nat.reduceEqDiff, Nat.reduceAdd, Nat.reduceLT, ↓us_lFnConduct, r_lFnConduct, hltI]
      exact hxL.trans hx18
  · have hCd := decide_eq_false hC
    simp only [↓vsd, vsn, gW, qd, qv, ev, pick, argE, zipE, ne_eq, eq_self, forall_const, implies_true, if_true, if_false, reduceIte, reduceCtorEq, Nat.reduceEqDiff, Nat.reduceAdd, Nat.reduceLT, ↓us_lFnConduct, r_lFnConduct, hCd]
    exact hxL
end Go.Proofs.Ytpnopboffalfnaa
