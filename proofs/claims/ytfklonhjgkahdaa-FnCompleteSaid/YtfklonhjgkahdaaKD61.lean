/-
  The call of the law FnComplete.
  Conditions: none.
-/
import Derived.Test.YtfklonhjgkahdaaKB3
import Derived.Test.YtfklonhjgkahdaaKD60
set_option linter.unusedSimpArgs false
set_option linter.unusedVariables false
set_option linter.defProp false
namespace Go.Proofs.Ytfklonhjgkahdaa
open Go Go.RowKit
section
variable (P : Program) (k : KT) (e : Env) (w : World)
abbrev b5_1 : X := (.cond (.t 19) (.seq (.reg [4] (.c (.q 4 [] (.mv (.c (.bool true)))) .nil)) .ret) .skip)
def t5_1 := b5_1
theorem u5_1 : vcK P t5_1 k e w = vcK P b5_1 k e w := rfl
abbrev b5_2 : X := (.cond (.t 47) (.seq (.reg [4] (.c (.q 4 [] (.mv (.c (.bool false)))) .nil)) .ret) .skip)
def t5_2 := b5_2
theorem u5_2 : vcK P t5_2 k e w = vcK P b5_2 k e w := rfl
abbrev b5_3 : X := (.cond (.t 49) (.seq (.reg [4] (.c (.q 4 [] (.mv (.c (.bool true)))) .nil)) .ret) .skip)
def t5_3 := b5_3
theorem u5_3 : vcK P t5_3 k e w = vcK P b5_3 k e w := rfl
abbrev b5_4 : X := (.seq (.reg [4] (.c (.q 57 [] (.mv (.t 13))) (.c (.q 58 [] (.mv (.t 57))) (.c (.q 59 [(58, true)] (.fa 2 (.t 12))) (.c (.q 60 [(58, true)] (.ld (.t 59))) (.c (.q 61 [] (.pick (.t 58) (.t 60) (.c (.bool false)))) (.c (.q 62 [] (.mv (.t 61))) (.c (.q 63 [(62, true)] (.fa 0 (.t 12))) (.c (.q 64 [(62, true)] (.ld (.t 63))) (.c (.q 65 [(62, true)] (.lens (.t 64))) (.c (.q 66 [(62, true)] (.mv (.t 8))) (.c (.q 67 [(62, true)] (.bin .eql (.t 65) (.t 66))) (.c (.q 68 [] (.pick (.t 62) (.t 67) (.c (.bool false)))) (.c (.q 4 [] (.mv (.t 68))) .nil)))))))))))))) .ret)
def t5_4 := b5_4
theorem u5_4 : vcK P t5_4 k e w = vcK P b5_4 k e w := rfl
abbrev b5_5 : X := (.seq (.reg [8, 12, 13] (.c (.q 51 [] (.lda 3 (.t 5))) (.c (.q 52 [] (.lda 2 (.t 6))) (.c (.q 53 [] (.mv (.t 7))) (.c (.e (some 54) [] (.call false 32 [(.t 51), (.t 52), (.t 53), (.c (.int .i64 5000))])) (.c (.q 50 [] (.mv (.t 54))) (.c (.q 55 [] (.ext 0 (.t 50))) (.c (.q 56 [] (.ext 1 (.t 50))) (.c (.e (some 12) [] (.al 52 [(.slice none 0 0), (.slice none 0 0), (.bool false)])) (.c (.e none [] (.st 3 (.t 12) (.t 55))) (.c (.q 13 [] (.mv (.t 56))) .nil))))))))))) t5_4)
def t5_5 := b5_5
theorem u5_5 : vcK P t5_5 k e w = vcK P b5_5 k e w := rfl
abbrev b5_6 : X := (.seq (.seq (.reg [5, 6, 7, 8, 49] (.c (.q 48 [] (.mv (.t 9))) (.c (.q 49 [] (.not (.t 48))) .nil))) t5_3) t5_5)
def t5_6 := b5_6
theorem u5_6 : vcK P t5_6 k e w = vcK P b5_6 k e w := rfl
abbrev b5_7 : X := (.seq (.seq (.reg [5, 6, 7, 8, 9, 47] (.c (.q 40 [] (.mv (.t 9))) (.c (.q 41 [] (.mv (.t 11))) (.c (.q 42 [] (.beq true (.t 40) (.t 41))) (.c (.q 43 [] (.mv (.t 42))) (.c (.q 44 [(43, false)] (.mv (.t 8))) (.c (.q 45 [(43, false)] (.mv (.t 10))) (.c (.q 46 [(43, false)] (.bin .neq (.t 44) (.t 45))) (.c (.q 47 [] (.pick (.t 43) (.c (.bool true)) (.t 46))) .nil))))))))) t5_2) t5_6)
def t5_7 := b5_7
theorem u5_7 : vcK P t5_7 k e w = vcK P b5_7 k e w := rfl
abbrev b5_8 : X := (.seq (.reg [5, 6, 7, 8, 9, 10, 11] (.c (.q 34 [] (.lda 3 (.t 5))) (.c (.q 35 [] (.lda 2 (.t 6))) (.c (.q 36 [] (.mv (.t 7))) (.c (.e (some 37) [] (.call false 31 [(.t 34), (.t 35), (.t 36)])) (.c (.q 33 [] (.mv (.t 37))) (.c (.q 38 [] (.ext 0 (.t 33))) (.c (.q 39 [] (.ext 1 (.t 33))) (.c (.q 10 [] (.mv (.t 38))) (.c (.q 11 [] (.mv (.t 39))) .nil)))))))))) t5_7)
def t5_8 := b5_8
theorem u5_8 : vcK P t5_8 k e w = vcK P b5_8 k e w := rfl
abbrev b5_9 : X := (.seq (.reg [5, 6, 7, 8, 9] (.c (.q 27 [] (.lda 3 (.t 5))) (.c (.q 28 [] (.lda 2 (.t 6))) (.c (.q 29 [] (.mv (.t 7))) (.c (.e (some 30) [] (.call false 30 [(.t 27), (.t 28), (.t 29)])) (.c (.q 26 [] (.mv (.t 30))) (.c (.q 31 [] (.ext 0 (.t 26))) (.c (.q 32 [] (.ext 1 (.t 26))) (.c (.q 8 [] (.mv (.t 31))) (.c (.q 9 [] (.mv (.t 32))) .nil)))))))))) t5_8)
def t5_9 := b5_9
theorem u5_9 : vcK P t5_9 k e w = vcK P b5_9 k e w := rfl
abbrev b5_10 : X := (.seq (.reg [5, 6, 7] (.c (.q 21 [] (.mv (.t 0))) (.c (.e (some 22) [] (.call false 29 [(.t 21)])) (.c (.q 20 [] (.mv (.t 22))) (.c (.q 23 [] (.ext 0 (.t 20))) (.c (.q 24 [] (.ext 1 (.t 20))) (.c (.q 25 [] (.ext 2 (.t 20))) (.c (.e (some 5) [] (.al 44 [(S []), (.int .i64 0), (.slice none 0 0)])) (.c (.e (some 6) [] (.al 46 [(S []), (S [])])) (.c (.e none [] (.st 3 (.t 5) (.t 23))) (.c (.e none [] (.st 2 (.t 6) (.t 24))) (.c (.q 7 [] (.mv (.t 25))) .nil)))))))))))) t5_9)
def t5_10 := b5_10
theorem u5_10 : vcK P t5_10 k e w = vcK P b5_10 k e w := rfl
abbrev b5_11 : X := (.seq (.seq (.reg [0, 19] (.c (.q 14 [] (.mv (.t 0))) (.c (.q 15 [] (.lens (.t 14))) (.c (.q 16 [] (.mv (.t 1))) (.c (.q 17 [] (.lens (.t 16))) (.c (.q 18 [] (.bin .add (.t 15) (.t 17))) (.c (.q 19 [] (.bin .gtr (.t 18) (.c (.int .i64 1048576)))) .nil))))))) t5_1) t5_10)
def t5_11 := b5_11
theorem u5_11 : vcK P t5_11 k e w = vcK P b5_11 k e w := rfl
abbrev b5_0 : X := (.seq (.reg [0, 1] (.c (.q 4 [] (.mv (.c (.bool false)))) .nil)) t5_11)
def x_lFnComplete := b5_0
theorem u5_0 : vcK P x_lFnComplete k e w = vcK P b5_0 k e w := rfl
def r_lFnComplete : List XO := [(.mv (.t 4))]
theorem c_lFnComplete : convF Try.prog [38, 39, 41, 42, 49, 54, 55, 57, 58, 59, 73, 79, 81, 84, 87, 139] Try.f5 [([0, 1], []), ([0, 19], []), ([4], []), ([5, 6, 7], []), ([5, 6, 7, 8, 9], []), ([5, 6, 7, 8, 9, 10, 11], []), ([5, 6, 7, 8, 9, 47], []), ([4], []), ([5, 6, 7, 8, 49], []), ([4], []), ([8, 12, 13], []), ([4], [])] = some (x_lFnComplete, r_lFnComplete) := by kernel_rfl
def us_lFnComplete :=  (aI (aI (aI @u5_0 (aI @u5_1 @u5_2)) (aI @u5_3 (aI @u5_4 @u5_5))) (aI (aI @u5_6 (aI @u5_7 @u5_8)) (aI @u5_9 (aI @u5_10 @u5_11))))
end
theorem lFnComplete_ok (v u : Value) (code more : List UInt8) (hcl : code.length ≤ 140737488355328) (hml : more.length ≤ 140737488355328) (w : World) (h : Sq fU 1 w v code) (h' : Sq fU 1 w u more) : Fn 5 [v, u] w (fun r _ => r = .bool true) := by
  (refine callsV_of mix Try.func5 c_lFnComplete ?_; simp only [↓vsd, vsn, gW, qd, qv, ev, pick, argE, zipE, ne_eq, eq_self, forall_const, implies_true, if_true, if_false, reduceIte, reduceCtorEq, Nat.reduceEqDiff, Nat.reduceAdd, Nat.reduceLT, ↓us_lFnComplete, r_lFnComplete])
  simp only [↓vsd, vsn, gW, qd, qv, ev, pick, argE, zipE, ne_eq, eq_self, forall_const, implies_true, if_true, if_false, reduceIte, reduceCtorEq, Nat.reduceEqDiff, Nat.reduceAdd, Nat.reduceLT, ↓us_lFnComplete, r_lFnComplete, h.facts, h'.facts]
  refine ⟨inR_i64 (by omega), fun _ => Ext.refl _, fun hsm => ?_⟩
  have hlen : code.length ≤ 1048576 ∧ more.length ≤ 1048576 := by omega
  refine m_call (sDrawCountTrue_ok v code hlen.1 _ h) ?_
  rintro _ w1 hx1 ⟨nm, st, x, cs, b, s, n, rfl, ⟨ho1, hnm, hst, hcs, hc8, hbs⟩, hn1, hn9⟩
  simp only [↓vsd, vsn, gW, qd, qv, ev, pick, argE, zipE, ne_eq, eq_self, forall_const, implies_true, if_true, if_false, reduceIte, reduceCtorEq, Nat.reduceEqDiff, Nat.reduceAdd, Nat.reduceLT, ↓us_lFnComplete, r_lFnComplete]
  refine m_al ?_
  rintro bm w2 hbm hblk2 hx2 hs2
  simp only [↓vsd, vsn, gW, qd, qv, ev, pick, argE, zipE, ne_eq, eq_self, forall_const, implies_true, if_true, if_false, reduceIte, reduceCtorEq, Nat.reduceEqDiff, Nat.reduceAdd, Nat.reduceLT, ↓us_lFnComplete, r_lFnComplete]
  refine m_al ?_
  rintro bk w3 hbk hblk3 hx3 hs3
  simp only [↓vsd, vsn, gW, qd, qv, ev, pick, argE, zipE, ne_eq, eq_self, forall_const, implies_true, if_true, if_false, reduceIte, reduceCtorEq, Nat.reduceEqDiff, Nat.reduceAdd, Nat.reduceLT, ↓us_lFnComplete, r_lFnComplete]
  refine m_st (Blk.ext hblk2 hx3) rfl (Nat.le_refl 3) (fM_one nm st x ho1.sq.one') ?_
  rintro w4 hblk4 hu4
  have hm4 : Blk w4 bm (fM nm st x) 44 := hblk4
  simp only [↓vsd, vsn, gW, qd, qv, ev, pick, argE, zipE, ne_eq, eq_self, forall_const, implies_true, if_true, if_false, reduceIte, reduceCtorEq, Nat.reduceEqDiff, Nat.reduceAdd, Nat.reduceLT, ↓us_lFnComplete, r_lFnComplete]
  refine m_st (hu4.blk hblk3 (by omega)) rfl (Nat.le_refl 2) (fQ_one b s) ?_
  rintro w5 hblk5 hu5
  have hk5 : Blk w5 bk (fQ b s) 46 := hblk5
  have hm5 := hu5.blk hm4 (by omega)
  have ho5 := (((ho1.ext hx2).ext hx3).upd hu4 (ho1.away (by omega))).upd hu5 (ho1.away (by omega))
  have hx5 : Ext w w5 := hu5.below (hu4.below ((hx1.trans hx2).trans hx3) (by have := hx1.size; omega)) (by have := hx1.size; omega)
  have hnm' : nm.length ≤ 1048576 := by omega
  have hc8' : ∀ c ∈ cs, c.length ≤ 1048576 := fun c hc => by have := hc8 c hc; omega
  have hcs' : cs.length ≤ 1000000000 := by omega
  have hbs' : b.length ≤ 1048576 ∧ s.length ≤ 1048576 := by omega
  simp only [↓vsd, vsn, gW, qd, qv, ev, pick, argE, zipE, ne_eq, eq_self, forall_const, implies_true, if_true, if_false, reduceIte, reduceCtorEq, Nat.reduceEqDiff, Nat.reduceAdd, Nat.reduceLT, ↓us_lFnComplete, r_lFnComplete, hm5.facts, hk5.facts, fMg, fQg]
  refine m_call (iCountTrue_ok nm st x cs b s n hnm' hc8' hcs' hbs' _ ho5.sq) ?_
  rintro _ w6 hx6 rfl
  have hm6 := hm5.ext hx6
  have hk6 := hk5.ext hx6
  have ho6 := ho5.ext hx6
  by_cases hS : SeOk nm st cs b s n
  · obtain ⟨N, rfl⟩ : ∃ N : Nat, n = N := ⟨n.toNat, by have := hS.2.1; omega⟩
    obtain ⟨St, rfl⟩ : ∃ N : Nat, st = N := ⟨st.toNat, by omega⟩
    have hct : ctV nm St cs b s N = .tuple ⟨[.int .i64 (ctN St cs b s N : Nat), .bool true]⟩ := by rw [ctV, if_pos hS]; rfl
    rw [hct]
    simp only [↓vsd, vsn, gW, qd, qv, ev, pick, argE, zipE, ne_eq, eq_self, forall_const, implies_true, if_true, if_false, reduceIte, reduceCtorEq, Nat.reduceEqDiff, Nat.reduceAdd, Nat.reduceLT, ↓us_lFnComplete, r_lFnComplete, hm6.facts, hk6.facts, fMg, fQg]
    refine m_call (sCountTrue_ok nm St x cs b s N hnm' hc8' hcs' hbs' _ ho6.sq) ?_
    rintro _ w7 hx7 rfl
    have hm7 := hm6.ext hx7
    have hk7 := hk6.ext hx7
    have ho7 := ho6.ext hx7
    rw [hct]
    simp only [↓vsd, vsn, gW, qd, qv, ev, pick, argE, zipE, ne_eq, eq_self, forall_const, implies_true, if_true, if_false, reduceIte, reduceCtorEq, Nat.reduceEqDiff, Nat.reduceAdd, Nat.reduceLT, ↓us_lFnComplete, r_lFnComplete, hm7.facts, hk7.facts, fMg, fQg]
    refine m_call (iSearchTouches_ok nm St x cs b s N hS hnm' hc8' hcs' hbs' _ ho7.sq) ?_
    rintro _ w8 hx8 ⟨vt, vc, T, rfl, hqT, hvc, hTl, hT5⟩
    have hx58 := (hx6.trans hx7).trans hx8
    simp only [↓vsd, vsn, gW, qd, qv, ev, pick, argE, zipE, ne_eq, eq_self, forall_const, implies_true, if_true, if_false, reduceIte, reduceCtorEq, Nat.reduceEqDiff, Nat.reduceAdd, Nat.reduceLT, ↓us_lFnComplete, r_lFnComplete]
    refine m_al ?_
    rintro bf w9 hbf hblk9 hx9 hs9
    simp only [↓vsd, vsn, gW, qd, qv, ev, pick, argE, zipE, ne_eq, eq_self, forall_const, implies_true, if_true, if_false, reduceIte, reduceCtorEq, Nat.reduceEqDiff, Nat.reduceAdd, Nat.reduceLT, ↓us_lFnComplete, r_lFnComplete]
    have hone : ∀ u ∈ [vt, vc, .bool true], u.oneCell' = true := fun u hu => by
      simp only [List.mem_cons, List.not_mem_nil, or_false] at hu
      rcases hu with rfl | rfl | rfl
      · exact hqT.one'
      · exact hvc
      · rfl
    refine m_st hblk9 rfl (Nat.le_of_ble_eq_true rfl) hone ?_
    rintro w10 hb10 hu10
    have hb10 : Blk w10 bf [vt, vc, .bool true] 52 := hb10
    have hx810 : Ext w8 w10 := hu10.below hx9 (Nat.le_of_eq hbf.symm)
    have hq10 := hqT.ext hx810
    have hTI : ((T.length : Nat) : Int) = (ctN St cs b s N : Nat) := by rw [hTl]
    have gg : (∀ u, [vt, vc, .bool true].getD 0 u = vt) ∧ (∀ u, [vt, vc, .bool true].getD 2 u = .bool true) ∧ [vt, vc, .bool true].length = 3 := ⟨fun _ => rfl, fun _ => rfl, rfl⟩
    simp only [↓vsd, vsn, gW, qd, qv, ev, pick, argE, zipE, ne_eq, eq_self, forall_const, implies_true, if_true, if_false, reduceIte, reduceCtorEq, Nat.reduceEqDiff, Nat.reduceAdd, Nat.reduceLT, ↓us_lFnComplete, r_lFnComplete, hb10.facts, gg, hq10.facts, hTI]
    exact (hx5.trans hx58).trans hx810
  · have hct : ctV nm st cs b s n = .tuple ⟨[.int .i64 0, .bool false]⟩ := by rw [ctV, if_neg hS]
    rw [hct]
    simp only [↓vsd, vsn, gW, qd, qv, ev, pick, argE, zipE, ne_eq, eq_self, forall_const, implies_true, if_true, if_false, reduceIte, reduceCtorEq, Nat.reduceEqDiff, Nat.reduceAdd, Nat.reduceLT, ↓us_lFnComplete, r_lFnComplete, hm6.facts, hk6.facts, fMg, fQg]
    refine m_call (sCountTrue_ok nm st x cs b s n hnm' hc8' hcs' hbs' _ ho6.sq) ?_
    rintro _ w7 hx7 rfl
    rw [hct]
    simp only [↓vsd, vsn, gW, qd, qv, ev, pick, argE, zipE, ne_eq, eq_self, forall_const, implies_true, if_true, if_false, reduceIte, reduceCtorEq, Nat.reduceEqDiff, Nat.reduceAdd, Nat.reduceLT, ↓us_lFnComplete, r_lFnComplete]
    exact (hx5.trans hx6).trans hx7
end Go.Proofs.Ytfklonhjgkahdaa
