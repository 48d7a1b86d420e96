/-
  The drawing of a count of true touches.
  Conditions: none.
-/
import Derived.Test.YtfklonhjgkahdaaKD22
import Derived.Test.YtfklonhjgkahdaaKD31
set_option linter.unusedSimpArgs false
set_option linter.unusedVariables false
set_option linter.defProp false
namespace Go.Proofs.Ytfklonhjgkahdaa
open Go Go.RowKit
section
variable (P : Program) (k : KT) (e : Env) (w : World)
abbrev b29_1 : X := (.cond (.t 17) (.reg [2, 3, 5, 6, 7] (.c (.q 18 [] (.mv (.t 5))) (.c (.e (some 19) [] (.bsl 3 1 [(.c (.int .i64 0)), (.c (.int .i64 4)), (.c (.int .i64 7))])) (.c (.e (some 20) [] (.call true 58 [(.t 18), (.t 19)])) (.c (.q 7 [] (.mv (.t 20))) .nil))))) .skip)
def t29_1 := b29_1
theorem u29_1 : vcK P t29_1 k e w = vcK P b29_1 k e w := rfl
abbrev b29_2 : X := (.seq (.drw [2, 3, 4] (.c (.q 22 [] (.mv (.t 5))) (.c (.q 23 [] (.lda 3 (.t 6))) (.c (.q 25 [] (.mv (.t 7))) (.alt (.c (.p 21 [] (.lda 3 (.t 6))) (.c (.e (some 24) [] (.call true 59 [(.t 22), (.t 23)])) (.c (.e none [] (.st 3 (.t 2) (.t 21))) (.c (.e none [] (.st 2 (.t 3) (.t 24))) (.c (.q 4 [] (.mv (.t 25))) .nil))))) (.c (.e (some 24) [] (.call true 59 [(.t 22), (.t 23)])) (.c (.p 21 [] (.lda 3 (.t 6))) (.c (.e none [] (.st 3 (.t 2) (.t 21))) (.c (.e none [] (.st 2 (.t 3) (.t 24))) (.c (.q 4 [] (.mv (.t 25))) .nil)))))))))) .ret)
def t29_2 := b29_2
theorem u29_2 : vcK P t29_2 k e w = vcK P b29_2 k e w := rfl
abbrev b29_3 : X := (.seq (.seq (.reg [2, 3, 5, 6, 7, 17] (.c (.q 16 [] (.mv (.t 5))) (.c (.e (some 17) [] (.call true 38 [(.t 16), (.c (.int .i64 16))])) .nil))) t29_1) t29_2)
def t29_3 := b29_3
theorem u29_3 : vcK P t29_3 k e w = vcK P b29_3 k e w := rfl
abbrev b29_4 : X := (.seq (.reg [2, 3, 5, 6, 7] (.c (.q 13 [] (.mv (.t 5))) (.c (.e (some 14) [] (.call true 39 [(.t 13), (.c (.int .i64 3))])) (.c (.q 15 [] (.bin .add (.c (.int .i64 1)) (.t 14))) (.c (.q 7 [] (.mv (.t 15))) .nil))))) t29_3)
def t29_4 := b29_4
theorem u29_4 : vcK P t29_4 k e w = vcK P b29_4 k e w := rfl
abbrev b29_5 : X := (.seq (.reg [2, 3, 5, 6] (.c (.q 11 [] (.mv (.t 5))) (.c (.e (some 12) [] (.call true 57 [(.t 11)])) (.c (.e (some 6) [] (.al 44 [(S []), (.int .i64 0), (.slice none 0 0)])) (.c (.e none [] (.st 3 (.t 6) (.t 12))) .nil))))) t29_4)
def t29_5 := b29_5
theorem u29_5 : vcK P t29_5 k e w = vcK P b29_5 k e w := rfl
abbrev b29_6 : X := (.seq (.reg [2, 3, 5] (.c (.q 8 [] (.mv (.t 0))) (.c (.q 9 [] (.bld [(.slice none 0 0), (.int .i64 0), (.int .u64 0)] [(0, 0, (.t 8))])) (.c (.e (some 10) [] (.box 61 (.t 9))) (.c (.q 5 [] (.mv (.t 10))) .nil))))) t29_5)
def t29_6 := b29_6
theorem u29_6 : vcK P t29_6 k e w = vcK P b29_6 k e w := rfl
abbrev b29_0 : X := (.seq (.reg [0, 2, 3] (.c (.e (some 2) [] (.al 44 [(S []), (.int .i64 0), (.slice none 0 0)])) (.c (.e (some 3) [] (.al 46 [(S []), (S [])])) (.c (.q 4 [] (.mv (.c (.int .i64 0)))) .nil)))) t29_6)
def x_sDrawCountTrue := b29_0
theorem u29_0 : vcK P x_sDrawCountTrue k e w = vcK P b29_0 k e w := rfl
def r_sDrawCountTrue : List XO := [(.lda 3 (.t 2)), (.lda 2 (.t 3)), (.mv (.t 4))]
theorem c_sDrawCountTrue : convF Try.prog [38, 39, 41, 42, 49, 54, 55, 57, 58, 59, 73, 79, 81, 84, 87, 139] Try.f29 [([0, 2, 3], []), ([2, 3, 5], []), ([2, 3, 5, 6], []), ([2, 3, 5, 6, 7], []), ([2, 3, 5, 6, 7, 17], []), ([2, 3, 5, 6, 7], []), ([2, 3, 4], [])] = some (x_sDrawCountTrue, r_sDrawCountTrue) := by kernel_rfl
def us_sDrawCountTrue :=  (aI (aI @u29_0 (aI @u29_1 @u29_2)) (aI (aI @u29_3 @u29_4) (aI @u29_5 @u29_6)))
end
theorem sDrawCountTrue_ok (v : Value) (code : List UInt8) (hl : code.length ≤ 1048576) (w : World) (h : Sq fU 1 w v code) : Fn 29 [v] w (fun r w' => ∃ nm st x cs p q, ∃ n : Int, r = .tuple ⟨[mV nm st x, kV p q, .int .i64 n]⟩ ∧ AnyK w.heap.size nm st x cs p q w' ∧ -1 ≤ n ∧ n ≤ 9) := by
  (refine callsV_of mix Try.func29 c_sDrawCountTrue ?_; simp only [↓vsd, vsn, gW, qd, qv, ev, pick, argE, zipE, ne_eq, eq_self, forall_const, implies_true, if_true, if_false, reduceIte, reduceCtorEq, Nat.reduceEqDiff, Nat.reduceAdd, Nat.reduceLT, ↓us_sDrawCountTrue, r_sDrawCountTrue])
  refine m_al ?_
  rintro b2 w2 hb2 hblk2 hx2 hs2
  simp only [↓vsd, vsn, gW, qd, qv, ev, pick, argE, zipE, ne_eq, eq_self, forall_const, implies_true, if_true, if_false, reduceIte, reduceCtorEq, Nat.reduceEqDiff, Nat.reduceAdd, Nat.reduceLT, ↓us_sDrawCountTrue, r_sDrawCountTrue]
  refine m_al ?_
  rintro b3 w3 hb3 hblk3 hx3 hs3
  have hx13 := hx2.trans hx3
  have h3 := h.ext hx13
  simp only [↓vsd, vsn, gW, qd, qv, ev, pick, argE, zipE, ne_eq, eq_self, forall_const, implies_true, if_true, if_false, reduceIte, reduceCtorEq, Nat.reduceEqDiff, Nat.reduceAdd, Nat.reduceLT, ↓us_sDrawCountTrue, r_sDrawCountTrue, h3.facts]
  refine m_al ?_
  rintro b w4 hb hblk4 hx4 hs4
  have hc := Cur.new h3 hl hb hblk4 hx4
  simp only [↓vsd, vsn, gW, qd, qv, ev, pick, argE, zipE, ne_eq, eq_self, forall_const, implies_true, if_true, if_false, reduceIte, reduceCtorEq, Nat.reduceEqDiff, Nat.reduceAdd, Nat.reduceLT, ↓us_sDrawCountTrue, r_sDrawCountTrue]
  refine m_callw (by first | exact .inl rfl | exact .inr rfl) (sl1Cur_anyMethod_ok w3 b _ w4 (by omega) hc) ?_
  rintro _ w5 ⟨hc5, hg5, nm, st, x, cs, rfl, ho5, hnm, hst, hcs, hc8⟩
  simp only [↓vsd, vsn, gW, qd, qv, ev, pick, argE, zipE, ne_eq, eq_self, forall_const, implies_true, if_true, if_false, reduceIte, reduceCtorEq, Nat.reduceEqDiff, Nat.reduceAdd, Nat.reduceLT, ↓us_sDrawCountTrue, r_sDrawCountTrue]
  refine m_al ?_
  rintro b6 w6 hb6 hblk6 hx6 hs6
  simp only [↓vsd, vsn, gW, qd, qv, ev, pick, argE, zipE, ne_eq, eq_self, forall_const, implies_true, if_true, if_false, reduceIte, reduceCtorEq, Nat.reduceEqDiff, Nat.reduceAdd, Nat.reduceLT, ↓us_sDrawCountTrue, r_sDrawCountTrue]
  refine m_st hblk6 rfl (Nat.le_refl 3) (fM_one nm st x ho5.sq.one') ?_
  rintro w7 hblk7 hu7
  have h7 : Blk w7 b6 (fM nm st x) 44 := hblk7
  have hlt5 := hc5.lt
  have ho7 := (ho5.ext hx6).upd hu7 (ho5.away (by omega))
  have hc7 := (hc5.ext hx6).keep hu7.grown (fun c hc => by have := Option.some.inj hc; omega)
  have h5s := hg5.size
  have hbb : w3.heap.size ≤ b := by omega
  have hF : Ext w3 w7 := by
    have e5 := ext_grow' hx4 hg5 (fun c hc => by have := Option.some.inj hc; omega)
    exact hu7.below (e5.trans hx6) (by have := e5.size; omega)
  have h7l := h7.lt
  have hb23 := hblk2.lt
  have key : ∀ w8, w7.grownBy w8 (some b) → Blk w8 b2 (fM [] 0 (.slice none 0 0)) 44 ∧ Blk w8 b3 (fQ [] []) 46 ∧ Blk w8 b6 (fM nm st x) 44 ∧ Own fS 1 9 (b + 1) w8 x cs ∧ Ext w w8 := fun w8 hg => by
    have hE := ext_grow' hF hg (fun c hc => by have := Option.some.inj hc; omega)
    exact ⟨(Blk.ext hblk2 hx3).ext hE, Blk.ext hblk3 hE, h7.same (hg.block b6 h7.lt (fun e => by have := Option.some.inj e; omega)), (ho7.keep hg (fun c hc => by have := Option.some.inj hc; omega)).mono (by omega), hx13.trans hE⟩
  simp only [↓vsd, vsn, gW, qd, qv, ev, pick, argE, zipE, ne_eq, eq_self, forall_const, implies_true, if_true, if_false, reduceIte, reduceCtorEq, Nat.reduceEqDiff, Nat.reduceAdd, Nat.reduceLT, ↓us_sDrawCountTrue, r_sDrawCountTrue]
  refine m_callw (by first | exact .inl rfl | exact .inr rfl) (sl1Cur_pick_ok w3 b _ 3 (by omega) _ (by omega) hc7) ?_
  rintro _ w8 ⟨hc8', hg8, p3, rfl, hp3⟩
  have hp3 : p3 < 3 := by omega
  simp only [↓vsd, vsn, gW, qd, qv, ev, pick, argE, zipE, ne_eq, eq_self, forall_const, implies_true, if_true, if_false, reduceIte, reduceCtorEq, Nat.reduceEqDiff, Nat.reduceAdd, Nat.reduceLT, ↓us_sDrawCountTrue, r_sDrawCountTrue]
  refine ⟨inR_i64 (by omega), ?_⟩
  refine m_callw (by first | exact .inl rfl | exact .inr rfl) (sl1Cur_one_ok w3 b _ 16 (by omega) _ (by omega) hc8') ?_
  rintro _ w9 ⟨hc9, hg9, z, rfl⟩
  have hg79 := grown_trans hg8 hg9
  cases z
  · simp only [↓vsd, vsn, gW, qd, qv, ev, pick, argE, zipE, ne_eq, eq_self, forall_const, implies_true, if_true, if_false, reduceIte, reduceCtorEq, Nat.reduceEqDiff, Nat.reduceAdd, Nat.reduceLT, ↓us_sDrawCountTrue, r_sDrawCountTrue]
    have hgz := hg79
    have hcz := hc9
    obtain ⟨k2, k3, k6, ko, kx⟩ := key _ hgz
    have hz7 := hgz.size
    simp only [↓vsd, vsn, gW, qd, qv, ev, pick, argE, zipE, ne_eq, eq_self, forall_const, implies_true, if_true, if_false, reduceIte, reduceCtorEq, Nat.reduceEqDiff, Nat.reduceAdd, Nat.reduceLT, ↓us_sDrawCountTrue, r_sDrawCountTrue, k6.facts, fMg]
    refine ⟨?_, ?_⟩
    all_goals
      refine m_callw (.inr rfl) (sl1Cur_anyCalls_ok w3 b _ nm st x cs hnm hcs hc8 _ (by omega) (hcz.ext (dr (Ext.refl _))) (fun w' hg => (ho7.keep (grown_trans hgz (gud (by first | exact hg | exact gdr hg))) (fun c hc => by have := Option.some.inj hc; omega)).sq)) ?_
      rintro _ wb ⟨hcb, hgb, p, q, rfl, hp8, hq8⟩
      obtain ⟨k2, k3, k6, ko, kx⟩ := key wb (grown_trans hgz (by first | exact hgb | exact gud hgb))
      simp only [↓vsd, vsn, gW, qd, qv, ev, pick, argE, zipE, ne_eq, eq_self, forall_const, implies_true, if_true, if_false, reduceIte, reduceCtorEq, Nat.reduceEqDiff, Nat.reduceAdd, Nat.reduceLT, ↓us_sDrawCountTrue, r_sDrawCountTrue, k6.facts, fMg]
      refine m_st k2 rfl (Nat.le_refl 3) (fM_one nm st x ho5.sq.one') ?_
      rintro wc hblkc huc
      have h9 : Blk wc b2 (fM nm st x) 44 := hblkc
      simp only [↓vsd, vsn, gW, qd, qv, ev, pick, argE, zipE, ne_eq, eq_self, forall_const, implies_true, if_true, if_false, reduceIte, reduceCtorEq, Nat.reduceEqDiff, Nat.reduceAdd, Nat.reduceLT, ↓us_sDrawCountTrue, r_sDrawCountTrue]
      refine m_st (huc.blk k3 (by omega)) rfl (Nat.le_refl 2) (fQ_one p q) ?_
      rintro wa hblka hua
      have ha : Blk wa b3 (fQ p q) 46 := hblka
      have h9a := hua.blk h9 (by omega)
      simp only [↓vsd, vsn, gW, qd, qv, ev, pick, argE, zipE, ne_eq, eq_self, forall_const, implies_true, if_true, if_false, reduceIte, reduceCtorEq, Nat.reduceEqDiff, Nat.reduceAdd, Nat.reduceLT, ↓us_sDrawCountTrue, r_sDrawCountTrue, h9a.facts, ha.facts, fMg, fQg]
      exact ⟨hua.below (huc.below kx (by omega)) (by have := hx2.size; omega), nm, st, x, cs, p, q, _, rfl, ⟨((ko.upd huc (ko.away' (by omega))).upd hua (ko.away' (by omega))).mono (by have := hx13.size; omega), hnm, hst, hcs, hc8, hp8, hq8⟩, by omega, by omega⟩
  · simp only [↓vsd, vsn, gW, qd, qv, ev, pick, argE, zipE, ne_eq, eq_self, forall_const, implies_true, if_true, if_false, reduceIte, reduceCtorEq, Nat.reduceEqDiff, Nat.reduceAdd, Nat.reduceLT, ↓us_sDrawCountTrue, r_sDrawCountTrue]
    refine m_bsl (fun p hp => by simp only [List.mem_cons, List.not_mem_nil, or_false] at hp; rcases hp with rfl | rfl | rfl <;> rfl) ?_
    rintro b10 w10 hb10 hblk10 hx10 hs10
    simp only [↓vsd, vsn, gW, qd, qv, ev, pick, argE, zipE, ne_eq, eq_self, forall_const, implies_true, if_true, if_false, reduceIte, reduceCtorEq, Nat.reduceEqDiff, Nat.reduceAdd, Nat.reduceLT, ↓us_sDrawCountTrue, r_sDrawCountTrue]
    have hlt9 := hc9.lt
    refine m_callw (by first | exact .inl rfl | exact .inr rfl) (sl1Cur_among_ok w3 b _ _ [0, 4, 7] w10 (by omega) (by decide) (hc9.ext hx10) (Sq.litC _ _ fI_len hblk10 rfl rfl (by omega))) ?_
    rintro _ w11 ⟨hc11, hg11, y, rfl, hy⟩
    have hyb : 0 ≤ y ∧ y ≤ 7 := by
      simp only [List.mem_cons, List.not_mem_nil, or_false] at hy; omega
    have hgz := grown_trans (grown_trans hg79 (grown_ext _ hx10)) hg11
    have hcz := hc11
    simp only [↓vsd, vsn, gW, qd, qv, ev, pick, argE, zipE, ne_eq, eq_self, forall_const, implies_true, if_true, if_false, reduceIte, reduceCtorEq, Nat.reduceEqDiff, Nat.reduceAdd, Nat.reduceLT, ↓us_sDrawCountTrue, r_sDrawCountTrue]
    obtain ⟨k2, k3, k6, ko, kx⟩ := key _ hgz
    have hz7 := hgz.size
    simp only [↓vsd, vsn, gW, qd, qv, ev, pick, argE, zipE, ne_eq, eq_self, forall_const, implies_true, if_true, if_false, reduceIte, reduceCtorEq, Nat.reduceEqDiff, Nat.reduceAdd, Nat.reduceLT, ↓us_sDrawCountTrue, r_sDrawCountTrue, k6.facts, fMg]
    refine ⟨?_, ?_⟩
    all_goals
      refine m_callw (.inr rfl) (sl1Cur_anyCalls_ok w3 b _ nm st x cs hnm hcs hc8 _ (by omega) (hcz.ext (dr (Ext.refl _))) (fun w' hg => (ho7.keep (grown_trans hgz (gud (by first | exact hg | exact gdr hg))) (fun c hc => by have := Option.some.inj hc; omega)).sq)) ?_
      rintro _ wb ⟨hcb, hgb, p, q, rfl, hp8, hq8⟩
      obtain ⟨k2, k3, k6, ko, kx⟩ := key wb (grown_trans hgz (by first | exact hgb | exact gud hgb))
      simp only [↓vsd, vsn, gW, qd, qv, ev, pick, argE, zipE, ne_eq, eq_self, forall_const, implies_true, if_true, if_false, reduceIte, reduceCtorEq, Nat.reduceEqDiff, Nat.reduceAdd, Nat.reduceLT, ↓us_sDrawCountTrue, r_sDrawCountTrue, k6.facts, fMg]
      refine m_st k2 rfl (Nat.le_refl 3) (fM_one nm st x ho5.sq.one') ?_
      rintro wc hblkc huc
      have h9 : Blk wc b2 (fM nm st x) 44 := hblkc
      simp only [↓vsd, vsn, gW, qd, qv, ev, pick, argE, zipE, ne_eq, eq_self, forall_const, implies_true, if_true, if_false, reduceIte, reduceCtorEq, Nat.reduceEqDiff, Nat.reduceAdd, Nat.reduceLT, ↓us_sDrawCountTrue, r_sDrawCountTrue]
      refine m_st (huc.blk k3 (by omega)) rfl (Nat.le_refl 2) (fQ_one p q) ?_
      rintro wa hblka hua
      have ha : Blk wa b3 (fQ p q) 46 := hblka
      have h9a := hua.blk h9 (by omega)
      simp only [↓vsd, vsn, gW, qd, qv, ev, pick, argE, zipE, ne_eq, eq_self, forall_const, implies_true, if_true, if_false, reduceIte, reduceCtorEq, Nat.reduceEqDiff, Nat.reduceAdd, Nat.reduceLT, ↓us_sDrawCountTrue, r_sDrawCountTrue, h9a.facts, ha.facts, fMg, fQg]
      exact ⟨hua.below (huc.below kx (by omega)) (by have := hx2.size; omega), nm, st, x, cs, p, q, _, rfl, ⟨((ko.upd huc (ko.away' (by omega))).upd hua (ko.away' (by omega))).mono (by have := hx13.size; omega), hnm, hst, hcs, hc8, hp8, hq8⟩, by omega, by omega⟩
end Go.Proofs.Ytfklonhjgkahdaa
