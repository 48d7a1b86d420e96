/-
  Called leads and their heads.
  Conditions: none.
-/
import Derived.Test.YtfklonhjgkahdaaKA17
import Derived.Test.YtfklonhjgkahdaaKA25
set_option linter.unusedSimpArgs false
set_option linter.unusedVariables false
set_option linter.defProp false
namespace Go.Proofs.Ytfklonhjgkahdaa
open Go Go.RowKit
section
variable (P : Program) (k : KT) (e : Env) (w : World)
abbrev b104_1 : X := (.cond (.t 28) (.reg [6, 7] (.c (.q 30 [] (.fa 2 (.t 7))) (.c (.q 31 [] (.ld (.t 30))) (.c (.q 32 [] (.mv (.t 8))) (.c (.q 33 [] (.fa 1 (.t 4))) (.c (.q 34 [] (.ld (.t 33))) (.c (.q 35 [] (.ia 1 (.t 31) (.t 32))) (.c (.e none [] (.st 1 (.t 35) (.t 34))) .nil)))))))) .skip)
def t104_1 := b104_1
theorem u104_1 : vcK P t104_1 k e w = vcK P b104_1 k e w := rfl
abbrev b104_2 : X := (.cond (.t 20) (.reg [6, 7] (.c (.q 22 [] (.fa 2 (.t 7))) (.c (.q 23 [] (.ld (.t 22))) (.c (.q 24 [] (.mv (.t 8))) (.c (.q 25 [] (.fa 0 (.t 4))) (.c (.q 26 [] (.ld (.t 25))) (.c (.q 27 [] (.ia 1 (.t 23) (.t 24))) (.c (.e none [] (.st 1 (.t 27) (.t 26))) .nil)))))))) (.seq (.reg [4, 6, 7, 8, 28] (.c (.q 29 [] (.bin .eql (.t 19) (.s [115]))) (.c (.q 28 [] (.mv (.t 29))) .nil))) t104_1))
def t104_2 := b104_2
theorem u104_2 : vcK P t104_2 k e w = vcK P b104_2 k e w := rfl
abbrev b104_3 : X := (.blk 0 (.seq (.reg [4, 6, 7, 8, 19, 20] (.c (.q 21 [] (.bin .eql (.t 19) (.s [98]))) (.c (.q 20 [] (.mv (.t 21))) .nil))) t104_2))
def t104_3 := b104_3
theorem u104_3 : vcK P t104_3 k e w = vcK P b104_3 k e w := rfl
abbrev b104_4 : X := (.seq (.reg [6] (.c (.q 36 [] (.lda 3 (.t 7))) (.c (.e none [] (.st 3 (.t 6) (.t 36))) .nil))) .ret)
def t104_4 := b104_4
theorem u104_4 : vcK P t104_4 k e w = vcK P b104_4 k e w := rfl
abbrev b104_5 : X := (.seq (.seq (.reg [4, 6, 7, 8, 19] (.c (.q 19 [] (.mv (.t 2))) .nil)) t104_3) t104_4)
def t104_5 := b104_5
theorem u104_5 : vcK P t104_5 k e w = vcK P b104_5 k e w := rfl
abbrev b104_6 : X := (.seq (.reg [2, 4, 6, 7, 8] (.c (.q 15 [] (.fa 2 (.t 7))) (.c (.q 16 [] (.ld (.t 15))) (.c (.q 17 [] (.lens (.t 16))) (.c (.q 18 [] (.bin .sub (.t 17) (.c (.int .i64 1)))) (.c (.q 8 [] (.mv (.t 18))) .nil)))))) t104_5)
def t104_6 := b104_6
theorem u104_6 : vcK P t104_6 k e w = vcK P b104_6 k e w := rfl
abbrev b104_7 : X := (.seq (.drw [2, 4, 6, 7] (.c (.q 9 [] (.lda 3 (.t 3))) (.c (.q 11 [] (.fa 2 (.t 3))) (.c (.q 12 [] (.ld (.t 11))) (.alt (.c (.e (some 10) [] (.bsl 9 1 [])) (.alt (.c (.e (some 13) [] (.apf 24 9 1 16 [(S [])] 24 (.t 10) (.t 12))) (.alt (.c (.e (some 14) [] (.call false 113 [(.t 9), (.t 13)])) (.c (.e (some 7) [] (.al 44 [(S []), (.int .i64 0), (.slice none 0 0)])) (.c (.e none [] (.st 3 (.t 7) (.t 14))) .nil))) (.c (.e (some 7) [] (.al 44 [(S []), (.int .i64 0), (.slice none 0 0)])) (.c (.e (some 14) [] (.call false 113 [(.t 9), (.t 13)])) (.c (.e none [] (.st 3 (.t 7) (.t 14))) .nil))))) (.c (.e (some 7) [] (.al 44 [(S []), (.int .i64 0), (.slice none 0 0)])) (.c (.e (some 13) [] (.apf 24 9 1 16 [(S [])] 24 (.t 10) (.t 12))) (.c (.e (some 14) [] (.call false 113 [(.t 9), (.t 13)])) (.c (.e none [] (.st 3 (.t 7) (.t 14))) .nil)))))) (.c (.e (some 7) [] (.al 44 [(S []), (.int .i64 0), (.slice none 0 0)])) (.c (.e (some 10) [] (.bsl 9 1 [])) (.c (.e (some 13) [] (.apf 24 9 1 16 [(S [])] 24 (.t 10) (.t 12))) (.c (.e (some 14) [] (.call false 113 [(.t 9), (.t 13)])) (.c (.e none [] (.st 3 (.t 7) (.t 14))) .nil)))))))))) t104_6)
def t104_7 := b104_7
theorem u104_7 : vcK P t104_7 k e w = vcK P b104_7 k e w := rfl
abbrev b104_0 : X := (.seq (.reg [2, 3, 4, 6] (.c (.e (some 3) [] (.box 44 (.t 0))) (.c (.e (some 4) [] (.box 46 (.t 1))) (.c (.e (some 6) [] (.al 44 [(S []), (.int .i64 0), (.slice none 0 0)])) .nil)))) t104_7)
def x_icalledLead := b104_0
theorem u104_0 : vcK P x_icalledLead k e w = vcK P b104_0 k e w := rfl
def r_icalledLead : List XO := [(.lda 3 (.t 6))]
theorem c_icalledLead : convF Try.prog [38, 39, 41, 42, 49, 54, 55, 57, 58, 59, 73, 79, 81, 84, 87, 139, 1000000] Try.f104 [([2, 3, 4, 6], []), ([2, 4, 6, 7], []), ([2, 4, 6, 7, 8], []), ([4, 6, 7, 8, 19], []), ([4, 6, 7, 8, 19, 20], []), ([6, 7], []), ([4, 6, 7, 8, 28], []), ([6, 7], []), ([6], [])] = some (x_icalledLead, r_icalledLead) := by kernel_rfl
def us_icalledLead :=  (aI (aI (aI @u104_0 @u104_1) (aI @u104_2 @u104_3)) (aI (aI @u104_4 @u104_5) (aI @u104_6 @u104_7)))
abbrev b89_1 : X := (.seq (.reg [6] (.c (.q 7 [] (.lda 3 (.t 3))) (.c (.q 8 [] (.lda 2 (.t 4))) (.c (.q 9 [] (.mv (.t 2))) (.c (.e (some 10) [] (.call false 104 [(.t 7), (.t 8), (.t 9)])) (.c (.e (some 11) [] (.call false 103 [(.t 10)])) (.c (.q 6 [] (.mv (.t 11))) .nil))))))) .ret)
def t89_1 := b89_1
theorem u89_1 : vcK P t89_1 k e w = vcK P b89_1 k e w := rfl
abbrev b89_0 : X := (.seq (.reg [2, 3, 4] (.c (.e (some 3) [] (.box 44 (.t 0))) (.c (.e (some 4) [] (.box 46 (.t 1))) (.c (.q 6 [] (.mv (.s []))) .nil)))) t89_1)
def x_icallHead := b89_0
theorem u89_0 : vcK P x_icallHead k e w = vcK P b89_0 k e w := rfl
def r_icallHead : List XO := [(.mv (.t 6))]
theorem c_icallHead : convF Try.prog [38, 39, 41, 42, 49, 54, 55, 57, 58, 59, 73, 79, 81, 84, 87, 139] Try.f89 [([2, 3, 4], []), ([6], [])] = some (x_icallHead, r_icallHead) := by kernel_rfl
def us_icallHead :=  (aI @u89_0 @u89_1)
end
theorem set_last {α : Type} {cs : List α} (h : 1 ≤ cs.length) (x : α) : cs.set (cs.length - 1) x = cs.take (cs.length - 1) ++ [x] := by
  rw [List.set_eq_take_append_cons_drop, if_pos (by omega), List.drop_eq_nil_of_le (by omega)]
theorem take_last {α : Type} {cs : List α} (d : α) (h : 1 ≤ cs.length) : cs.take (cs.length - 1) ++ [cs.getD (cs.length - 1) d] = cs := by
  have := set_last h (cs.getD (cs.length - 1) d)
  rw [← this]
  apply List.ext_getElem?
  intro i
  rw [List.getElem?_set]
  by_cases hi : cs.length - 1 = i
  · subst hi; rw [if_pos rfl, if_pos (by omega), List.getD_eq_getElem?_getD, List.getElem?_eq_getElem (by omega)]; rfl
  · rw [if_neg hi]
theorem icalledLead_ok (nm : List UInt8) (st : Int) (v : Value) (cs : List (List UInt8)) (b s call : List UInt8) (hc : 1 ≤ cs.length ∧ cs.length ≤ 40) (w : World) (h : Sq fS 1 w v cs) : Fn 104 [mV nm st v, kV b s, S call] w (fun r w' => ∃ x, r = mV nm st x ∧ Own fS 1 9 w.heap.size w' x (calledCs cs b s call)) := by
  (refine callsV_of mix Try.func104 c_icalledLead ?_; simp only [↓vsd, vsn, gW, qd, qv, ev, pick, argE, zipE, ne_eq, eq_self, forall_const, implies_true, if_true, if_false, reduceIte, reduceCtorEq, Nat.reduceEqDiff, Nat.reduceAdd, Nat.reduceLT, ↓us_icalledLead, r_icalledLead])
  refine m_al ?_
  rintro b1 w1 hb1 hblk1 hx1 hs1
  have h1 : Blk w1 b1 (fM nm st v) 44 := hblk1
  simp only [↓vsd, vsn, gW, qd, qv, ev, pick, argE, zipE, ne_eq, eq_self, forall_const, implies_true, if_true, if_false, reduceIte, reduceCtorEq, Nat.reduceEqDiff, Nat.reduceAdd, Nat.reduceLT, ↓us_icalledLead, r_icalledLead, h1.facts, fMg]
  refine m_al ?_
  rintro b2 w2 hb2 hblk2 hx2 hs2
  have h2 : Blk w2 b2 (fQ b s) 46 := hblk2
  have h12 := h1.ext hx2
  have hx12 := hx1.trans hx2
  simp only [↓vsd, vsn, gW, qd, qv, ev, pick, argE, zipE, ne_eq, eq_self, forall_const, implies_true, if_true, if_false, reduceIte, reduceCtorEq, Nat.reduceEqDiff, Nat.reduceAdd, Nat.reduceLT, ↓us_icalledLead, r_icalledLead, h12.facts, h2.facts, fMg, fQg]
  refine m_al ?_
  rintro b3 w3 hb3 hblk3 hx3 hs3
  have hb3' : Blk w3 b3 (fM [] 0 (.slice none 0 0)) 44 := hblk3
  have h13 := h12.ext hx3
  have h23 := h2.ext hx3
  have hx13 := hx12.trans hx3
  have hI : ((cs.length : Nat) : Int) - 1 = ((cs.length - 1 : Nat) : Int) := by omega
  simp only [↓vsd, vsn, gW, qd, qv, ev, pick, argE, zipE, ne_eq, eq_self, forall_const, implies_true, if_true, if_false, reduceIte, reduceCtorEq, Nat.reduceEqDiff, Nat.reduceAdd, Nat.reduceLT, ↓us_icalledLead, r_icalledLead, h13.facts, h23.facts, fMg, fQg]
  have hq := h.ext hx13
  refine ⟨?_, ?_⟩
  · refine m_bsl (by simp) ?_
    rintro b4 w4 hb4 hblk4 hx4 hs4
    have hx4 := ud hx4
    have hb4 : b4 = w3.heap.size := hb4
    simp only [↓vsd, vsn, gW, qd, qv, ev, pick, argE, zipE, ne_eq, eq_self, forall_const, implies_true, if_true, if_false, reduceIte, reduceCtorEq, Nat.reduceEqDiff, Nat.reduceAdd, Nat.reduceLT, ↓us_icalledLead, r_icalledLead]
    refine ⟨?_, ?_⟩
    · refine m_apf (B := w3.heap.size) fS_len hblk4 (by omega) (hq.ext hx4) fS_one (by decide) (by omega) (by decide) ?_
      rintro x w5 ho5 hx5 _
      simp only [↓vsd, vsn, gW, qd, qv, ev, pick, argE, zipE, ne_eq, eq_self, forall_const, implies_true, if_true, if_false, reduceIte, reduceCtorEq, Nat.reduceEqDiff, Nat.reduceAdd, Nat.reduceLT, ↓us_icalledLead, r_icalledLead]
      refine ⟨?_, ?_⟩
      · refine m_call (iwithChanges_ok nm st v x _ ho5.sq.one' (of_eq_true ho5.sq.oneC)) ?_
        rintro _ w6 hx6 rfl
        simp only [↓vsd, vsn, gW, qd, qv, ev, pick, argE, zipE, ne_eq, eq_self, forall_const, implies_true, if_true, if_false, reduceIte, reduceCtorEq, Nat.reduceEqDiff, Nat.reduceAdd, Nat.reduceLT, ↓us_icalledLead, r_icalledLead]
        refine m_al ?_
        rintro bo wt hbe hblko hx7 hs7
        have hbo : Blk wt bo (fM [] 0 (.slice none 0 0)) 44 := hblko
        have hxt : Ext w3 wt := ((hx4.trans hx5).trans hx6).trans hx7
        have hot := (ho5.ext hx6).ext hx7
        have haw : Away x bo := (ho5.ext hx6).away (by omega)
        have h36 := ((hx4.trans hx5).trans hx6).size
        simp only [↓vsd, vsn, gW, qd, qv, ev, pick, argE, zipE, ne_eq, eq_self, forall_const, implies_true, if_true, if_false, reduceIte, reduceCtorEq, Nat.reduceEqDiff, Nat.reduceAdd, Nat.reduceLT, ↓us_icalledLead, r_icalledLead]
        refine m_st hbo rfl (Nat.le_refl 3) (fM_one nm st x hot.sq.one') ?_
        rintro wu hbu' hu
        have hbu : Blk wu bo (fM nm st x) 44 := hbu'
        have hou := hot.upd hu haw
        have hxu : Ext w3 wu := hu.below hxt (by omega)
        have h2u := h23.ext hxu
        have h3u := hu.blk (hb3'.ext hxt) (by omega)
        simp only [↓vsd, vsn, gW, qd, qv, ev, pick, argE, zipE, ne_eq, eq_self, forall_const, implies_true, if_true, if_false, reduceIte, reduceCtorEq, Nat.reduceEqDiff, Nat.reduceAdd, Nat.reduceLT, ↓us_icalledLead, r_icalledLead, hbu.facts, h2u.facts, fMg, fQg, hou.sq.facts, hI]
        refine ⟨inR_i64 (by omega), fun hc1 => ⟨by omega, m_set1 (cs.length - 1) b hou rfl (by omega) rfl fS_one ?_⟩, fun hc1 => ⟨fun hc2 => ⟨by omega, m_set1 (cs.length - 1) s hou rfl (by omega) rfl fS_one ?_⟩, fun hc2 => ?_⟩⟩
        · rintro wa hoa hga _
          have hxa : Ext w3 wa := hou.grown hxu (Nat.le_refl _) hga
          have hba := hbu.same (hga.block bo hbu.lt (fun e => haw e.symm))
          have h3a := h3u.same (hga.block b3 h3u.lt (fun e => by have := (hou.bound b3 e.symm).1; omega))
          simp only [↓vsd, vsn, gW, qd, qv, ev, pick, argE, zipE, ne_eq, eq_self, forall_const, implies_true, if_true, if_false, reduceIte, reduceCtorEq, Nat.reduceEqDiff, Nat.reduceAdd, Nat.reduceLT, ↓us_icalledLead, r_icalledLead, hba.facts, fMg]
          refine m_st h3a rfl (Nat.le_refl 3) (fM_one nm st x hoa.sq.one') ?_
          rintro wb hbb hub
          have hbb' : Blk wb b3 (fM nm st x) 44 := hbb
          have hxb : Ext w wb := hub.below (hx13.trans hxa) (by have := hx12.size; omega)
          have hob := hoa.upd hub (hoa.away' (by omega))
          simp only [↓vsd, vsn, gW, qd, qv, ev, pick, argE, zipE, ne_eq, eq_self, forall_const, implies_true, if_true, if_false, reduceIte, reduceCtorEq, Nat.reduceEqDiff, Nat.reduceAdd, Nat.reduceLT, ↓us_icalledLead, r_icalledLead, hbb'.facts, fMg]
          exact ⟨hxb, x, rfl, (hob.mono hx13.size).to (by rw [set_last hc.1, calledCs, chgOf, if_pos hc1])⟩
        · rintro wa hoa hga _
          have hxa : Ext w3 wa := hou.grown hxu (Nat.le_refl _) hga
          have hba := hbu.same (hga.block bo hbu.lt (fun e => haw e.symm))
          have h3a := h3u.same (hga.block b3 h3u.lt (fun e => by have := (hou.bound b3 e.symm).1; omega))
          simp only [↓vsd, vsn, gW, qd, qv, ev, pick, argE, zipE, ne_eq, eq_self, forall_const, implies_true, if_true, if_false, reduceIte, reduceCtorEq, Nat.reduceEqDiff, Nat.reduceAdd, Nat.reduceLT, ↓us_icalledLead, r_icalledLead, hba.facts, fMg]
          refine m_st h3a rfl (Nat.le_refl 3) (fM_one nm st x hoa.sq.one') ?_
          rintro wb hbb hub
          have hbb' : Blk wb b3 (fM nm st x) 44 := hbb
          have hxb : Ext w wb := hub.below (hx13.trans hxa) (by have := hx12.size; omega)
          have hob := hoa.upd hub (hoa.away' (by omega))
          simp only [↓vsd, vsn, gW, qd, qv, ev, pick, argE, zipE, ne_eq, eq_self, forall_const, implies_true, if_true, if_false, reduceIte, reduceCtorEq, Nat.reduceEqDiff, Nat.reduceAdd, Nat.reduceLT, ↓us_icalledLead, r_icalledLead, hbb'.facts, fMg]
          exact ⟨hxb, x, rfl, (hob.mono hx13.size).to (by rw [set_last hc.1, calledCs, chgOf, if_neg hc1, if_pos hc2])⟩
        · refine m_st h3u rfl (Nat.le_refl 3) (fM_one nm st x hou.sq.one') ?_
          rintro wb hbb hub
          have hbb' : Blk wb b3 (fM nm st x) 44 := hbb
          have hxb : Ext w wb := hub.below (hx13.trans hxu) (by have := hx12.size; omega)
          have hob := hou.upd hub (hou.away' (by omega))
          simp only [↓vsd, vsn, gW, qd, qv, ev, pick, argE, zipE, ne_eq, eq_self, forall_const, implies_true, if_true, if_false, reduceIte, reduceCtorEq, Nat.reduceEqDiff, Nat.reduceAdd, Nat.reduceLT, ↓us_icalledLead, r_icalledLead, hbb'.facts, fMg]
          exact ⟨hxb, x, rfl, (hob.mono hx13.size).to (by rw [calledCs, chgOf, if_neg hc1, if_neg hc2, take_last _ hc.1])⟩
      · refine m_al ?_
        rintro bo w6 hbe hblko hx6 hs6
        simp only [↓vsd, vsn, gW, qd, qv, ev, pick, argE, zipE, ne_eq, eq_self, forall_const, implies_true, if_true, if_false, reduceIte, reduceCtorEq, Nat.reduceEqDiff, Nat.reduceAdd, Nat.reduceLT, ↓us_icalledLead, r_icalledLead]
        refine m_call (iwithChanges_ok nm st v x _ ho5.sq.one' (of_eq_true ho5.sq.oneC)) ?_
        rintro _ wt hx7 rfl
        have hbo : Blk wt bo (fM [] 0 (.slice none 0 0)) 44 := Blk.ext hblko hx7
        have hxt : Ext w3 wt := ((hx4.trans hx5).trans hx6).trans hx7
        have hot := (ho5.ext hx6).ext hx7
        have haw : Away x bo := ho5.away (by omega)
        have h36 := (hx4.trans hx5).size
        simp only [↓vsd, vsn, gW, qd, qv, ev, pick, argE, zipE, ne_eq, eq_self, forall_const, implies_true, if_true, if_false, reduceIte, reduceCtorEq, Nat.reduceEqDiff, Nat.reduceAdd, Nat.reduceLT, ↓us_icalledLead, r_icalledLead]
        refine m_st hbo rfl (Nat.le_refl 3) (fM_one nm st x hot.sq.one') ?_
        rintro wu hbu' hu
        have hbu : Blk wu bo (fM nm st x) 44 := hbu'
        have hou := hot.upd hu haw
        have hxu : Ext w3 wu := hu.below hxt (by omega)
        have h2u := h23.ext hxu
        have h3u := hu.blk (hb3'.ext hxt) (by omega)
        simp only [↓vsd, vsn, gW, qd, qv, ev, pick, argE, zipE, ne_eq, eq_self, forall_const, implies_true, if_true, if_false, reduceIte, reduceCtorEq, Nat.reduceEqDiff, Nat.reduceAdd, Nat.reduceLT, ↓us_icalledLead, r_icalledLead, hbu.facts, h2u.facts, fMg, fQg, hou.sq.facts, hI]
        refine ⟨inR_i64 (by omega), fun hc1 => ⟨by omega, m_set1 (cs.length - 1) b hou rfl (by omega) rfl fS_one ?_⟩, fun hc1 => ⟨fun hc2 => ⟨by omega, m_set1 (cs.length - 1) s hou rfl (by omega) rfl fS_one ?_⟩, fun hc2 => ?_⟩⟩
        · rintro wa hoa hga _
          have hxa : Ext w3 wa := hou.grown hxu (Nat.le_refl _) hga
          have hba := hbu.same (hga.block bo hbu.lt (fun e => haw e.symm))
          have h3a := h3u.same (hga.block b3 h3u.lt (fun e => by have := (hou.bound b3 e.symm).1; omega))
          simp only [↓vsd, vsn, gW, qd, qv, ev, pick, argE, zipE, ne_eq, eq_self, forall_const, implies_true, if_true, if_false, reduceIte, reduceCtorEq, Nat.reduceEqDiff, Nat.reduceAdd, Nat.reduceLT, ↓us_icalledLead, r_icalledLead, hba.facts, fMg]
          refine m_st h3a rfl (Nat.le_refl 3) (fM_one nm st x hoa.sq.one') ?_
          rintro wb hbb hub
          have hbb' : Blk wb b3 (fM nm st x) 44 := hbb
          have hxb : Ext w wb := hub.below (hx13.trans hxa) (by have := hx12.size; omega)
          have hob := hoa.upd hub (hoa.away' (by omega))
          simp only [↓vsd, vsn, gW, qd, qv, ev, pick, argE, zipE, ne_eq, eq_self, forall_const, implies_true, if_true, if_false, reduceIte, reduceCtorEq, Nat.reduceEqDiff, Nat.reduceAdd, Nat.reduceLT, ↓us_icalledLead, r_icalledLead, hbb'.facts, fMg]
          exact ⟨hxb, x, rfl, (hob.mono hx13.size).to (by rw [set_last hc.1, calledCs, chgOf, if_pos hc1])⟩
        · rintro wa hoa hga _
          have hxa : Ext w3 wa := hou.grown hxu (Nat.le_refl _) hga
          have hba := hbu.same (hga.block bo hbu.lt (fun e => haw e.symm))
          have h3a := h3u.same (hga.block b3 h3u.lt (fun e => by have := (hou.bound b3 e.symm).1; omega))
          simp only [↓vsd, vsn, gW, qd, qv, ev, pick, argE, zipE, ne_eq, eq_self, forall_const, implies_true, if_true, if_false, reduceIte, reduceCtorEq, Nat.reduceEqDiff, Nat.reduceAdd, Nat.reduceLT, ↓us_icalledLead, r_icalledLead, hba.facts, fMg]
          refine m_st h3a rfl (Nat.le_refl 3) (fM_one nm st x hoa.sq.one') ?_
          rintro wb hbb hub
          have hbb' : Blk wb b3 (fM nm st x) 44 := hbb
          have hxb : Ext w wb := hub.below (hx13.trans hxa) (by have := hx12.size; omega)
          have hob := hoa.upd hub (hoa.away' (by omega))
          simp only [↓vsd, vsn, gW, qd, qv, ev, pick, argE, zipE, ne_eq, eq_self, forall_const, implies_true, if_true, if_false, reduceIte, reduceCtorEq, Nat.reduceEqDiff, Nat.reduceAdd, Nat.reduceLT, ↓us_icalledLead, r_icalledLead, hbb'.facts, fMg]
          exact ⟨hxb, x, rfl, (hob.mono hx13.size).to (by rw [set_last hc.1, calledCs, chgOf, if_neg hc1, if_pos hc2])⟩
        · refine m_st h3u rfl (Nat.le_refl 3) (fM_one nm st x hou.sq.one') ?_
          rintro wb hbb hub
          have hbb' : Blk wb b3 (fM nm st x) 44 := hbb
          have hxb : Ext w wb := hub.below (hx13.trans hxu) (by have := hx12.size; omega)
          have hob := hou.upd hub (hou.away' (by omega))
          simp only [↓vsd, vsn, gW, qd, qv, ev, pick, argE, zipE, ne_eq, eq_self, forall_const, implies_true, if_true, if_false, reduceIte, reduceCtorEq, Nat.reduceEqDiff, Nat.reduceAdd, Nat.reduceLT, ↓us_icalledLead, r_icalledLead, hbb'.facts, fMg]
          exact ⟨hxb, x, rfl, (hob.mono hx13.size).to (by rw [calledCs, chgOf, if_neg hc1, if_neg hc2, take_last _ hc.1])⟩
    · refine m_al ?_
      rintro bo w5 hbe hblko hx5 hs5
      simp only [↓vsd, vsn, gW, qd, qv, ev, pick, argE, zipE, ne_eq, eq_self, forall_const, implies_true, if_true, if_false, reduceIte, reduceCtorEq, Nat.reduceEqDiff, Nat.reduceAdd, Nat.reduceLT, ↓us_icalledLead, r_icalledLead]
      refine m_apf (B := w3.heap.size) fS_len (hblk4.ext hx5) (by omega) ((hq.ext hx4).ext hx5) fS_one (by decide) (by omega) (by decide) ?_
      rintro x w6 ho6 hx6 hbx
      simp only [↓vsd, vsn, gW, qd, qv, ev, pick, argE, zipE, ne_eq, eq_self, forall_const, implies_true, if_true, if_false, reduceIte, reduceCtorEq, Nat.reduceEqDiff, Nat.reduceAdd, Nat.reduceLT, ↓us_icalledLead, r_icalledLead]
      refine m_call (iwithChanges_ok nm st v x _ ho6.sq.one' (of_eq_true ho6.sq.oneC)) ?_
      rintro _ wt hx7 rfl
      have hbo : Blk wt bo (fM [] 0 (.slice none 0 0)) 44 := (Blk.ext hblko hx6).ext hx7
      have hxt : Ext w3 wt := ((hx4.trans hx5).trans hx6).trans hx7
      have hot := ho6.ext hx7
      have h36 := hx4.size
      have haw : Away x bo := fun e => by rcases hbx bo e with h | h <;> omega
      simp only [↓vsd, vsn, gW, qd, qv, ev, pick, argE, zipE, ne_eq, eq_self, forall_const, implies_true, if_true, if_false, reduceIte, reduceCtorEq, Nat.reduceEqDiff, Nat.reduceAdd, Nat.reduceLT, ↓us_icalledLead, r_icalledLead]
      refine m_st hbo rfl (Nat.le_refl 3) (fM_one nm st x hot.sq.one') ?_
      rintro wu hbu' hu
      have hbu : Blk wu bo (fM nm st x) 44 := hbu'
      have hou := hot.upd hu haw
      have hxu : Ext w3 wu := hu.below hxt (by omega)
      have h2u := h23.ext hxu
      have h3u := hu.blk (hb3'.ext hxt) (by omega)
      simp only [↓vsd, vsn, gW, qd, qv, ev, pick, argE, zipE, ne_eq, eq_self, forall_const, implies_true, if_true, if_false, reduceIte, reduceCtorEq, Nat.reduceEqDiff, Nat.reduceAdd, Nat.reduceLT, ↓us_icalledLead, r_icalledLead, hbu.facts, h2u.facts, fMg, fQg, hou.sq.facts, hI]
      refine ⟨inR_i64 (by omega), fun hc1 => ⟨by omega, m_set1 (cs.length - 1) b hou rfl (by omega) rfl fS_one ?_⟩, fun hc1 => ⟨fun hc2 => ⟨by omega, m_set1 (cs.length - 1) s hou rfl (by omega) rfl fS_one ?_⟩, fun hc2 => ?_⟩⟩
      · rintro wa hoa hga _
        have hxa : Ext w3 wa := hou.grown hxu (Nat.le_refl _) hga
        have hba := hbu.same (hga.block bo hbu.lt (fun e => haw e.symm))
        have h3a := h3u.same (hga.block b3 h3u.lt (fun e => by have := (hou.bound b3 e.symm).1; omega))
        simp only [↓vsd, vsn, gW, qd, qv, ev, pick, argE, zipE, ne_eq, eq_self, forall_const, implies_true, if_true, if_false, reduceIte, reduceCtorEq, Nat.reduceEqDiff, Nat.reduceAdd, Nat.reduceLT, ↓us_icalledLead, r_icalledLead, hba.facts, fMg]
        refine m_st h3a rfl (Nat.le_refl 3) (fM_one nm st x hoa.sq.one') ?_
        rintro wb hbb hub
        have hbb' : Blk wb b3 (fM nm st x) 44 := hbb
        have hxb : Ext w wb := hub.below (hx13.trans hxa) (by have := hx12.size; omega)
        have hob := hoa.upd hub (hoa.away' (by omega))
        simp only [↓vsd, vsn, gW, qd, qv, ev, pick, argE, zipE, ne_eq, eq_self, forall_const, implies_true, if_true, if_false, reduceIte, reduceCtorEq, Nat.reduceEqDiff, Nat.reduceAdd, Nat.reduceLT, ↓us_icalledLead, r_icalledLead, hbb'.facts, fMg]
        exact ⟨hxb, x, rfl, (hob.mono hx13.size).to (by rw [set_last hc.1, calledCs, chgOf, if_pos hc1])⟩
      · rintro wa hoa hga _
        have hxa : Ext w3 wa := hou.grown hxu (Nat.le_refl _) hga
        have hba := hbu.same (hga.block bo hbu.lt (fun e => haw e.symm))
        have h3a := h3u.same (hga.block b3 h3u.lt (fun e => by have := (hou.bound b3 e.symm).1; omega))
        simp only [↓vsd, vsn, gW, qd, qv, ev, pick, argE, zipE, ne_eq, eq_self, forall_const, implies_true, if_true, if_false, reduceIte, reduceCtorEq, Nat.reduceEqDiff, Nat.reduceAdd, Nat.reduceLT, ↓us_icalledLead, r_icalledLead, hba.facts, fMg]
        refine m_st h3a rfl (Nat.le_refl 3) (fM_one nm st x hoa.sq.one') ?_
        rintro wb hbb hub
        have hbb' : Blk wb b3 (fM nm st x) 44 := hbb
        have hxb : Ext w wb := hub.below (hx13.trans hxa) (by have := hx12.size; omega)
        have hob := hoa.upd hub (hoa.away' (by omega))
        simp only [↓vsd, vsn, gW, qd, qv, ev, pick, argE, zipE, ne_eq, eq_self, forall_const, implies_true, if_true, if_false, reduceIte, reduceCtorEq, Nat.reduceEqDiff, Nat.reduceAdd, Nat.reduceLT, ↓us_icalledLead, r_icalledLead, hbb'.facts, fMg]
        exact ⟨hxb, x, rfl, (hob.mono hx13.size).to (by rw [set_last hc.1, calledCs, chgOf, if_neg hc1, if_pos hc2])⟩
      · refine m_st h3u rfl (Nat.le_refl 3) (fM_one nm st x hou.sq.one') ?_
        rintro wb hbb hub
        have hbb' : Blk wb b3 (fM nm st x) 44 := hbb
        have hxb : Ext w wb := hub.below (hx13.trans hxu) (by have := hx12.size; omega)
        have hob := hou.upd hub (hou.away' (by omega))
        simp only [↓vsd, vsn, gW, qd, qv, ev, pick, argE, zipE, ne_eq, eq_self, forall_const, implies_true, if_true, if_false, reduceIte, reduceCtorEq, Nat.reduceEqDiff, Nat.reduceAdd, Nat.reduceLT, ↓us_icalledLead, r_icalledLead, hbb'.facts, fMg]
        exact ⟨hxb, x, rfl, (hob.mono hx13.size).to (by rw [calledCs, chgOf, if_neg hc1, if_neg hc2, take_last _ hc.1])⟩
  · refine m_al ?_
    rintro bo w4 hbe hblko hx4 hs4
    have hx4 := ud hx4
    have hbe : bo = w3.heap.size := hbe
    simp only [↓vsd, vsn, gW, qd, qv, ev, pick, argE, zipE, ne_eq, eq_self, forall_const, implies_true, if_true, if_false, reduceIte, reduceCtorEq, Nat.reduceEqDiff, Nat.reduceAdd, Nat.reduceLT, ↓us_icalledLead, r_icalledLead]
    refine m_bsl (by simp) ?_
    rintro b4 w5 hb4 hblk4 hx5 hs5
    simp only [↓vsd, vsn, gW, qd, qv, ev, pick, argE, zipE, ne_eq, eq_self, forall_const, implies_true, if_true, if_false, reduceIte, reduceCtorEq, Nat.reduceEqDiff, Nat.reduceAdd, Nat.reduceLT, ↓us_icalledLead, r_icalledLead]
    refine m_apf (B := b4) fS_len hblk4 (Nat.le_refl _) ((hq.ext hx4).ext hx5) fS_one (by decide) (by omega) (by decide) ?_
    rintro x w6 ho6 hx6 _
    simp only [↓vsd, vsn, gW, qd, qv, ev, pick, argE, zipE, ne_eq, eq_self, forall_const, implies_true, if_true, if_false, reduceIte, reduceCtorEq, Nat.reduceEqDiff, Nat.reduceAdd, Nat.reduceLT, ↓us_icalledLead, r_icalledLead]
    refine m_call (iwithChanges_ok nm st v x _ ho6.sq.one' (of_eq_true ho6.sq.oneC)) ?_
    rintro _ wt hx7 rfl
    have hbo : Blk wt bo (fM [] 0 (.slice none 0 0)) 44 := ((Blk.ext hblko hx5).ext hx6).ext hx7
    have hxt : Ext w3 wt := ((hx4.trans hx5).trans hx6).trans hx7
    have hot := (ho6.ext hx7).mono (B' := w3.heap.size) (by omega)
    have h36 := hx4.size
    have haw : Away x bo := ho6.away' (by omega)
    simp only [↓vsd, vsn, gW, qd, qv, ev, pick, argE, zipE, ne_eq, eq_self, forall_const, implies_true, if_true, if_false, reduceIte, reduceCtorEq, Nat.reduceEqDiff, Nat.reduceAdd, Nat.reduceLT, ↓us_icalledLead, r_icalledLead]
    refine m_st hbo rfl (Nat.le_refl 3) (fM_one nm st x hot.sq.one') ?_
    rintro wu hbu' hu
    have hbu : Blk wu bo (fM nm st x) 44 := hbu'
    have hou := hot.upd hu haw
    have hxu : Ext w3 wu := hu.below hxt (by omega)
    have h2u := h23.ext hxu
    have h3u := hu.blk (hb3'.ext hxt) (by omega)
    simp only [↓vsd, vsn, gW, qd, qv, ev, pick, argE, zipE, ne_eq, eq_self, forall_const, implies_true, if_true, if_false, reduceIte, reduceCtorEq, Nat.reduceEqDiff, Nat.reduceAdd, Nat.reduceLT, ↓us_icalledLead, r_icalledLead, hbu.facts, h2u.facts, fMg, fQg, hou.sq.facts, hI]
    refine ⟨inR_i64 (by omega), fun hc1 => ⟨by omega, m_set1 (cs.length - 1) b hou rfl (by omega) rfl fS_one ?_⟩, fun hc1 => ⟨fun hc2 => ⟨by omega, m_set1 (cs.length - 1) s hou rfl (by omega) rfl fS_one ?_⟩, fun hc2 => ?_⟩⟩
    · rintro wa hoa hga _
      have hxa : Ext w3 wa := hou.grown hxu (Nat.le_refl _) hga
      have hba := hbu.same (hga.block bo hbu.lt (fun e => haw e.symm))
      have h3a := h3u.same (hga.block b3 h3u.lt (fun e => by have := (hou.bound b3 e.symm).1; omega))
      simp only [↓vsd, vsn, gW, qd, qv, ev, pick, argE, zipE, ne_eq, eq_self, forall_const, implies_true, if_true, if_false, reduceIte, reduceCtorEq, Nat.reduceEqDiff, Nat.reduceAdd, Nat.reduceLT, ↓us_icalledLead, r_icalledLead, hba.facts, fMg]
      refine m_st h3a rfl (Nat.le_refl 3) (fM_one nm st x hoa.sq.one') ?_
      rintro wb hbb hub
      have hbb' : Blk wb b3 (fM nm st x) 44 := hbb
      have hxb : Ext w wb := hub.below (hx13.trans hxa) (by have := hx12.size; omega)
      have hob := hoa.upd hub (hoa.away' (by omega))
      simp only [↓vsd, vsn, gW, qd, qv, ev, pick, argE, zipE, ne_eq, eq_self, forall_const, implies_true, if_true, if_false, reduceIte, reduceCtorEq, Nat.reduceEqDiff, Nat.reduceAdd, Nat.reduceLT, ↓us_icalledLead, r_icalledLead, hbb'.facts, fMg]
      exact ⟨hxb, x, rfl, (hob.mono hx13.size).to (by rw [set_last hc.1, calledCs, chgOf, if_pos hc1])⟩
    · rintro wa hoa hga _
      have hxa : Ext w3 wa := hou.grown hxu (Nat.le_refl _) hga
      have hba := hbu.same (hga.block bo hbu.lt (fun e => haw e.symm))
      have h3a := h3u.same (hga.block b3 h3u.lt (fun e => by have := (hou.bound b3 e.symm).1; omega))
      simp only [↓vsd, vsn, gW, qd, qv, ev, pick, argE, zipE, ne_eq, eq_self, forall_const, implies_true, if_true, if_false, reduceIte, reduceCtorEq, Nat.reduceEqDiff, Nat.reduceAdd, Nat.reduceLT, ↓us_icalledLead, r_icalledLead, hba.facts, fMg]
      refine m_st h3a rfl (Nat.le_refl 3) (fM_one nm st x hoa.sq.one') ?_
      rintro wb hbb hub
      have hbb' : Blk wb b3 (fM nm st x) 44 := hbb
      have hxb : Ext w wb := hub.below (hx13.trans hxa) (by have := hx12.size; omega)
      have hob := hoa.upd hub (hoa.away' (by omega))
      simp only [↓vsd, vsn, gW, qd, qv, ev, pick, argE, zipE, ne_eq, eq_self, forall_const, implies_true, if_true, if_false, reduceIte, reduceCtorEq, Nat.reduceEqDiff, Nat.reduceAdd, Nat.reduceLT, ↓us_icalledLead, r_icalledLead, hbb'.facts, fMg]
      exact ⟨hxb, x, rfl, (hob.mono hx13.size).to (by rw [set_last hc.1, calledCs, chgOf, if_neg hc1, if_pos hc2])⟩
    · refine m_st h3u rfl (Nat.le_refl 3) (fM_one nm st x hou.sq.one') ?_
      rintro wb hbb hub
      have hbb' : Blk wb b3 (fM nm st x) 44 := hbb
      have hxb : Ext w wb := hub.below (hx13.trans hxu) (by have := hx12.size; omega)
      have hob := hou.upd hub (hou.away' (by omega))
      simp only [↓vsd, vsn, gW, qd, qv, ev, pick, argE, zipE, ne_eq, eq_self, forall_const, implies_true, if_true, if_false, reduceIte, reduceCtorEq, Nat.reduceEqDiff, Nat.reduceAdd, Nat.reduceLT, ↓us_icalledLead, r_icalledLead, hbb'.facts, fMg]
      exact ⟨hxb, x, rfl, (hob.mono hx13.size).to (by rw [calledCs, chgOf, if_neg hc1, if_neg hc2, take_last _ hc.1])⟩
theorem icallHead_ok (nm : List UInt8) (st : Nat) (v : Value) (cs : List (List UInt8)) (b s call : List UInt8) (hm : IsMC nm st cs b s) (w : World) (h : Sq fS 1 w v cs) : Fn 89 [mV nm st v, kV b s, S call] w (fun r _ => r = S (headC st cs b s call)) := by
  (refine callsV_of mix Try.func89 c_icallHead ?_; simp only [↓vsd, vsn, gW, qd, qv, ev, pick, argE, zipE, ne_eq, eq_self, forall_const, implies_true, if_true, if_false, reduceIte, reduceCtorEq, Nat.reduceEqDiff, Nat.reduceAdd, Nat.reduceLT, ↓us_icallHead, r_icallHead])
  refine m_al ?_
  rintro b1 w1 hb1 hblk1 hx1 hs1
  have h1 : Blk w1 b1 (fM nm st v) 44 := hblk1
  simp only [↓vsd, vsn, gW, qd, qv, ev, pick, argE, zipE, ne_eq, eq_self, forall_const, implies_true, if_true, if_false, reduceIte, reduceCtorEq, Nat.reduceEqDiff, Nat.reduceAdd, Nat.reduceLT, ↓us_icallHead, r_icallHead, h1.facts, fMg]
  refine m_al ?_
  rintro b2 w2 hb2 hblk2 hx2 hs2
  have h2 : Blk w2 b2 (fQ b s) 46 := hblk2
  have h12 := h1.ext hx2
  have hx12 := hx1.trans hx2
  simp only [↓vsd, vsn, gW, qd, qv, ev, pick, argE, zipE, ne_eq, eq_self, forall_const, implies_true, if_true, if_false, reduceIte, reduceCtorEq, Nat.reduceEqDiff, Nat.reduceAdd, Nat.reduceLT, ↓us_icallHead, r_icallHead, h12.facts, h2.facts, fMg, fQg]
  refine m_call (icalledLead_ok nm st v cs b s call hm.1.2.2.1 _ (h.ext hx12)) ?_
  rintro _ w3 hx3 ⟨x, rfl, ho⟩
  simp only [↓vsd, vsn, gW, qd, qv, ev, pick, argE, zipE, ne_eq, eq_self, forall_const, implies_true, if_true, if_false, reduceIte, reduceCtorEq, Nat.reduceEqDiff, Nat.reduceAdd, Nat.reduceLT, ↓us_icallHead, r_icallHead]
  refine m_call (ileadHead_ok nm st x _ (hm.called call) _ ho.sq) ?_
  rintro _ w4 hx4 rfl
  simp only [↓vsd, vsn, gW, qd, qv, ev, pick, argE, zipE, ne_eq, eq_self, forall_const, implies_true, if_true, if_false, reduceIte, reduceCtorEq, Nat.reduceEqDiff, Nat.reduceAdd, Nat.reduceLT, ↓us_icallHead, r_icallHead]
  exact ⟨(hx12.trans hx3).trans hx4, rfl⟩
end Go.Proofs.Ytfklonhjgkahdaa
