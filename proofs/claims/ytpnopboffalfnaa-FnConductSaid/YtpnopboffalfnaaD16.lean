/-
  The draws of FnCourse.
  Conditions: none.
-/
import Derived.Test.YtpnopboffalfnaaD15
import Derived.Test.YtpnopboffalfnaaA12
import Derived.Test.YtpnopboffalfnaaPe
set_option linter.unusedSimpArgs false
set_option linter.unusedVariables false
set_option linter.defProp false
namespace Go.Proofs.Ytpnopboffalfnaa
open Go Go.RowKit
section
variable (P : Program) (k : KT) (e : Env) (w : World)
abbrev b306_1 : X := (.cond (.t 23) .skip (.exit 0))
def t306_1 := b306_1
theorem u306_1 : vcK P t306_1 k e w = vcK P b306_1 k e w := rfl
abbrev b306_2 : X := (.reg [0, 2, 3, 4] (.c (.q 24 [] (.mv (.t 4))) (.c (.q 25 [] (.bin .add (.t 24) (.c (.int .i64 1)))) (.c (.q 4 [] (.mv (.t 25))) .nil))))
def t306_2 := b306_2
theorem u306_2 : vcK P t306_2 k e w = vcK P b306_2 k e w := rfl
abbrev b306_3 : X := (.seq (.blk 1 (.reg [0, 2, 3, 4] (.c (.q 26 [] (.mv (.t 0))) (.c (.e (some 27) [] (.call true 208 [(.t 26)])) (.c (.e none [] (.st 3 (.t 3) (.t 27))) .nil))))) t306_2)
def t306_3 := b306_3
theorem u306_3 : vcK P t306_3 k e w = vcK P b306_3 k e w := rfl
abbrev b306_4 : X := (.seq (.seq (.reg [0, 2, 3, 4, 23] (.c (.q 7 [] (.mv (.t 4))) (.c (.q 8 [] (.bin .lss (.t 7) (.c (.int .i64 30)))) (.c (.q 9 [] (.mv (.t 8))) (.c (.q 10 [(9, true)] (.fa 1 (.t 3))) (.c (.q 11 [(9, true)] (.ld (.t 10))) (.c (.q 12 [(9, true)] (.bin .lss (.t 11) (.c (.int .i64 4)))) (.c (.q 13 [(9, true)] (.mv (.t 12))) (.c (.q 14 [(13, false), (9, true)] (.mv (.t 0))) (.c (.e (some 15) [(13, false), (9, true)] (.call true 207 [(.t 14), (.c (.int .i64 9))])) (.c (.q 16 [(13, false), (9, true)] (.not (.t 15))) (.c (.q 17 [(13, false), (9, true)] (.mv (.t 16))) (.c (.q 18 [(17, true), (13, false), (9, true)] (.lda 3 (.t 3))) (.c (.e (some 19) [(17, true), (13, false), (9, true)] (.call false 319 [(.t 18)])) (.c (.q 20 [(17, true), (13, false), (9, true)] (.bin .eql (.t 19) (.c (.int .i64 0)))) (.c (.q 21 [(13, false), (9, true)] (.pick (.t 17) (.t 20) (.c (.bool false)))) (.c (.q 22 [(9, true)] (.pick (.t 13) (.c (.bool true)) (.t 21))) (.c (.q 23 [] (.pick (.t 9) (.t 22) (.c (.bool false)))) .nil)))))))))))))))))) t306_1) t306_3)
def t306_4 := b306_4
theorem u306_4 : vcK P t306_4 k e w = vcK P b306_4 k e w := rfl
abbrev b306_5 : X := (.blk 0 (.loop [4] [0, 2, 3] t306_4))
def t306_5 := b306_5
theorem u306_5 : vcK P t306_5 k e w = vcK P b306_5 k e w := rfl
abbrev b306_6 : X := (.seq (.reg [2] (.c (.q 28 [] (.lda 3 (.t 3))) (.c (.e none [] (.st 3 (.t 2) (.t 28))) .nil))) .ret)
def t306_6 := b306_6
theorem u306_6 : vcK P t306_6 k e w = vcK P b306_6 k e w := rfl
abbrev b306_7 : X := (.seq (.seq (.reg [0, 2, 3, 4] (.c (.q 4 [] (.mv (.c (.int .i64 0)))) .nil)) t306_5) t306_6)
def t306_7 := b306_7
theorem u306_7 : vcK P t306_7 k e w = vcK P b306_7 k e w := rfl
abbrev b306_8 : X := (.seq (.reg [0, 2, 3] (.c (.q 5 [] (.mv (.t 0))) (.c (.e (some 6) [] (.call true 208 [(.t 5)])) (.c (.e (some 3) [] (.al 41 [(S []), (.int .i64 0), (.slice none 0 0)])) (.c (.e none [] (.st 3 (.t 3) (.t 6))) .nil))))) t306_7)
def t306_8 := b306_8
theorem u306_8 : vcK P t306_8 k e w = vcK P b306_8 k e w := rfl
abbrev b306_0 : X := (.seq (.reg [0, 2] (.c (.e (some 2) [] (.al 41 [(S []), (.int .i64 0), (.slice none 0 0)])) .nil)) t306_8)
def x_sl1Cur_regular := b306_0
theorem u306_0 : vcK P x_sl1Cur_regular k e w = vcK P b306_0 k e w := rfl
def r_sl1Cur_regular : List XO := [(.lda 3 (.t 2))]
theorem c_sl1Cur_regular : convF Try.prog [169, 170, 207, 208, 210, 227, 232, 233, 255, 259, 268, 269, 270, 280, 281, 296, 299, 306, 307, 309] Try.f306 [([0, 2], []), ([0, 2, 3], []), ([0, 2, 3, 4], []), ([4], [0, 2, 3]), ([0, 2, 3, 4, 23], []), ([0, 2, 3, 4], []), ([0, 2, 3, 4], []), ([2], [])] = some (x_sl1Cur_regular, r_sl1Cur_regular) := by kernel_rfl
def us_sl1Cur_regular := aI @u306_0 (aI @u306_1 (aI @u306_2 (aI @u306_3 (aI @u306_4 (aI @u306_5 (aI @u306_6 (aI @u306_7 @u306_8)))))))
abbrev b258_1 : X := (.cond (.t 8) (.seq (.reg [2] (.c (.q 9 [] (.mv (.t 3))) (.c (.e (some 10) [] (.call true 169 [(.t 9)])) (.c (.e none [] (.st 3 (.t 2) (.t 10))) .nil)))) .ret) .skip)
def t258_1 := b258_1
theorem u258_1 : vcK P t258_1 k e w = vcK P b258_1 k e w := rfl
abbrev b258_2 : X := (.seq (.reg [2] (.c (.q 11 [] (.mv (.t 3))) (.c (.e (some 12) [] (.call true 306 [(.t 11)])) (.c (.e none [] (.st 3 (.t 2) (.t 12))) .nil)))) .ret)
def t258_2 := b258_2
theorem u258_2 : vcK P t258_2 k e w = vcK P b258_2 k e w := rfl
abbrev b258_3 : X := (.seq (.seq (.reg [2, 3, 8] (.c (.q 7 [] (.mv (.t 3))) (.c (.e (some 8) [] (.call true 207 [(.t 7), (.c (.int .i64 6))])) .nil))) t258_1) t258_2)
def t258_3 := b258_3
theorem u258_3 : vcK P t258_3 k e w = vcK P b258_3 k e w := rfl
abbrev b258_4 : X := (.seq (.reg [2, 3] (.c (.q 4 [] (.mv (.t 0))) (.c (.q 5 [] (.bld [(.slice none 0 0), (.int .i64 0), (.int .u64 0)] [(0, 0, (.t 4))])) (.c (.e (some 6) [] (.box 132 (.t 5))) (.c (.q 3 [] (.mv (.t 6))) .nil))))) t258_3)
def t258_4 := b258_4
theorem u258_4 : vcK P t258_4 k e w = vcK P b258_4 k e w := rfl
abbrev b258_0 : X := (.seq (.reg [0, 2] (.c (.e (some 2) [] (.al 41 [(S []), (.int .i64 0), (.slice none 0 0)])) .nil)) t258_4)
def x_sDrawIsRegular := b258_0
theorem u258_0 : vcK P x_sDrawIsRegular k e w = vcK P b258_0 k e w := rfl
def r_sDrawIsRegular : List XO := [(.lda 3 (.t 2))]
theorem c_sDrawIsRegular : convF Try.prog [169, 170, 207, 208, 210, 227, 232, 233, 255, 259, 268, 269, 270, 280, 281, 296, 299, 306, 307, 309] Try.f258 [([0, 2], []), ([2, 3], []), ([2, 3, 8], []), ([2], []), ([2], [])] = some (x_sDrawIsRegular, r_sDrawIsRegular) := by kernel_rfl
def us_sDrawIsRegular := aI @u258_0 (aI @u258_1 (aI @u258_2 (aI @u258_3 @u258_4)))
end

theorem sl1Cur_row_okr (W : World) (b n : Nat) (m : Nat) (hm : 3 ≤ m ∧ m ≤ 8) (w : World) (hn : n ≤ 800000000) (hc : Cur W b n w) : CurFn 232 [cV b, .int .i64 m] W b n 2 w (fun r _ => ∃ x, r = S x ∧ IsRow x ∧ x.length = m) := by
  (refine callsV_of mix Try.func232 c_sl1Cur_row ?_; simp only [↓vsd, vsn, gW, qd, qv, ev, pick, argE, zipE, ne_eq, eq_self, forall_const, implies_true, if_true, if_false, reduceIte, reduceCtorEq, Nat.reduceEqDiff, Nat.reduceAdd, Nat.reduceLT, ↓us_sl1Cur_row, r_sl1Cur_row])
  refine m_call (sl1Fact_ok m (by omega) _) ?_
  rintro _ w1 hx1 rfl
  simp only [↓vsd, vsn, gW, qd, qv, ev, pick, argE, zipE, ne_eq, eq_self, forall_const, implies_true, if_true, if_false, reduceIte, reduceCtorEq, Nat.reduceEqDiff, Nat.reduceAdd, Nat.reduceLT, ↓us_sl1Cur_row, r_sl1Cur_row]
  have hf := factL_le m (by omega)
  refine m_callw (.inl rfl) (sl1Cur_pick_ok W b n (factL m : Nat) (by omega) w1 (by omega) (hc.ext hx1)) ?_
  rintro _ w2 ⟨hc2, hg2, x, rfl, hx⟩
  simp only [↓vsd, vsn, gW, qd, qv, ev, pick, argE, zipE, ne_eq, eq_self, forall_const, implies_true, if_true, if_false, reduceIte, reduceCtorEq, Nat.reduceEqDiff, Nat.reduceAdd, Nat.reduceLT, ↓us_sl1Cur_row, r_sl1Cur_row]
  refine m_call (sRowOf_ok m x (by omega) (by omega) _) ?_
  rintro _ w3 hx3 rfl
  simp only [↓vsd, vsn, gW, qd, qv, ev, pick, argE, zipE, ne_eq, eq_self, forall_const, implies_true, if_true, if_false, reduceIte, reduceCtorEq, Nat.reduceEqDiff, Nat.reduceAdd, Nat.reduceLT, ↓us_sl1Cur_row, r_sl1Cur_row]
  exact ⟨hc2.ext hx3, grown_trans (grown_trans (grown_ext _ hx1) hg2) (grown_ext _ hx3), _, rfl, rowGo_row m x hm (by omega), rowGo_len _ _ _⟩
theorem sl1Cur_regular_ok (W : World) (b n : Nat) (w : World) (hn : n ≤ 600000000) (hc : Cur W b n w) : CurFn 306 [cV b] W b n 4000 w (fun r w' => MethV w.heap.size r w') := by
  (refine callsV_of mix Try.func306 c_sl1Cur_regular ?_; simp only [↓vsd, vsn, gW, qd, qv, ev, pick, argE, zipE, ne_eq, eq_self, forall_const, implies_true, if_true, if_false, reduceIte, reduceCtorEq, Nat.reduceEqDiff, Nat.reduceAdd, Nat.reduceLT, ↓us_sl1Cur_regular, r_sl1Cur_regular])
  refine m_al ?_
  rintro b1 w1 hb1 hblk1 hx1 hs1
  have hr1 : Blk w1 b1 (fM [] 0 (.slice none 0 0)) 41 := hblk1
  have hlt := hc.lt
  simp only [↓vsd, vsn, gW, qd, qv, ev, pick, argE, zipE, ne_eq, eq_self, forall_const, implies_true, if_true, if_false, reduceIte, reduceCtorEq, Nat.reduceEqDiff, Nat.reduceAdd, Nat.reduceLT, ↓us_sl1Cur_regular, r_sl1Cur_regular]
  refine m_callw (.inl rfl) (sl1Cur_method_ok W b _ _ (by omega) (hc.ext hx1)) ?_
  rintro _ w2 ⟨hc2, hg2, nm, st, x, cs, rfl, ho2, hm, hst6⟩
  have hr2 := hr1.same (hg2.block b1 hr1.lt (fun e => by have := Option.some.inj e; omega))
  simp only [↓vsd, vsn, gW, qd, qv, ev, pick, argE, zipE, ne_eq, eq_self, forall_const, implies_true, if_true, if_false, reduceIte, reduceCtorEq, Nat.reduceEqDiff, Nat.reduceAdd, Nat.reduceLT, ↓us_sl1Cur_regular, r_sl1Cur_regular]
  refine m_al ?_
  rintro bm w3 hbm hblk3 hx3 hs3
  simp only [↓vsd, vsn, gW, qd, qv, ev, pick, argE, zipE, ne_eq, eq_self, forall_const, implies_true, if_true, if_false, reduceIte, reduceCtorEq, Nat.reduceEqDiff, Nat.reduceAdd, Nat.reduceLT, ↓us_sl1Cur_regular, r_sl1Cur_regular]
  refine m_st hblk3 rfl (Nat.le_refl 3) (fM_one nm st _ ho2.sq.one') ?_
  rintro w4 hblk4 hu4
  have hM4 : Blk w4 bm (fM nm st x) 41 := hblk4
  have h12 := hg2.size
  have ms : MT W b (n + 60) w b1 bm nm st x x cs w4 := ⟨(hc2.ext hx3).keep hu4.grown (fun c hc => by have := Option.some.inj hc; omega), ⟨_, hu4.blk (hr2.ext hx3) (by have := hr2.lt; omega), rfl⟩, hM4, ((ho2.ext hx3).upd hu4 (ho2.away (by omega))).mono (by omega), ho2.away (by omega),
    grown_new (grown_trans (grown_trans (grown_ext _ hx1) hg2) (grown_ext _ hx3)) hu4.grown (fun c hc => by have := Option.some.inj hc; have := hx1.size; omega), by have := hr2.lt; omega⟩
  simp only [↓vsd, vsn, gW, qd, qv, ev, pick, argE, zipE, ne_eq, eq_self, forall_const, implies_true, if_true, if_false, reduceIte, reduceCtorEq, Nat.reduceEqDiff, Nat.reduceAdd, Nat.reduceLT, ↓us_sl1Cur_regular, r_sl1Cur_regular]
  refine m_upto 30 (fun i vs w' => ∃ nm st x cs, vs = [.int .i64 i] ∧ MT W b (n + 70 + 120 * i) w b1 bm nm st x x cs w' ∧ IsMethod nm st cs ∧ st ≤ 6) ⟨nm, st, x, cs, rfl, ms.mono (by omega), hm, hst6⟩ ?_
  clear ms hM4 hm hst6 ho2
  rintro i vs w5 hi ⟨nm, st, x, cs, rfl, ms, hm, hst6⟩
  by_cases hlt : i < 30
  · have hltI : (i : Int) < 30 := by omega
    have hltJ : ¬ 30 ≤ (i : Int) := by omega
    obtain ⟨s, rfl⟩ : ∃ s : Nat, st = s := ⟨st.toNat, by have := hm.2.1; omega⟩
    by_cases hs4 : (s : Int) < 4
    · have hs4J : ¬ 4 ≤ (s : Int) := by omega
      simp only [↓vsd, vsn, gW, qd, qv, ev, pick, argE, zipE, ne_eq, eq_self, forall_const, implies_true, if_true, if_false, reduceIte, reduceCtorEq, Nat.reduceEqDiff, Nat.reduceAdd, Nat.reduceLT, ↓us_sl1Cur_regular, r_sl1Cur_regular, hltI, hltJ, ms.blk.facts, fMg, hs4, hs4J]
      refine m_callw (.inl rfl) (sl1Cur_method_ok W b _ _ (by omega) ms.cur) ?_
      rintro _ wa ⟨hca, hga, nm', st', x', cs', rfl, hoa, hm', hst6'⟩
      have hsz := ms.blk.lt
      have hlo := ms.lo
      have ms := ms.draw hca hga
      simp only [↓vsd, vsn, gW, qd, qv, ev, pick, argE, zipE, ne_eq, eq_self, forall_const, implies_true, if_true, if_false, reduceIte, reduceCtorEq, Nat.reduceEqDiff, Nat.reduceAdd, Nat.reduceLT, ↓us_sl1Cur_regular, r_sl1Cur_regular]
      refine m_st ms.blk rfl (Nat.le_refl 3) (fM_one nm' st' _ hoa.sq.one') ?_
      rintro wb hbb hub
      have hbb' : Blk wb bm (fM nm' st' x') 41 := hbb
      have ms := ((ms.new (hoa.mono (by omega)) (hoa.away' (by omega))).put hub hbb').mono (M := n + 70 + 120 * (i + 1)) (by omega)
      simp only [↓vsd, vsn, gW, qd, qv, ev, pick, argE, zipE, ne_eq, eq_self, forall_const, implies_true, if_true, if_false, reduceIte, reduceCtorEq, Nat.reduceEqDiff, Nat.reduceAdd, Nat.reduceLT, ↓us_sl1Cur_regular, r_sl1Cur_regular]
      exact ⟨inR_i64 (by omega), UpTo.next hlt ⟨nm', st', x', cs', rfl, ms, hm', hst6'⟩⟩
    · have hs4J : 4 ≤ (s : Int) := by omega
      simp only [↓vsd, vsn, gW, qd, qv, ev, pick, argE, zipE, ne_eq, eq_self, forall_const, implies_true, if_true, if_false, reduceIte, reduceCtorEq, Nat.reduceEqDiff, Nat.reduceAdd, Nat.reduceLT, ↓us_sl1Cur_regular, r_sl1Cur_regular, hltI, hltJ, ms.blk.facts, fMg, hs4, hs4J]
      refine m_callw (.inl rfl) (sl1Cur_one_ok W b _ 9 (by omega) _ (by omega) ms.cur) ?_
      rintro _ w6 ⟨hc6, hg6, y6, rfl⟩
      have ms := ms.draw hc6 hg6
      cases y6
      · simp only [↓vsd, vsn, gW, qd, qv, ev, pick, argE, zipE, ne_eq, eq_self, forall_const, implies_true, if_true, if_false, reduceIte, reduceCtorEq, Nat.reduceEqDiff, Nat.reduceAdd, Nat.reduceLT, ↓us_sl1Cur_regular, r_sl1Cur_regular, ms.blk.facts, fMg]
        refine m_call (sl15Turn_ok nm s x cs ⟨hm, hs4J⟩ _ ms.own.sq) ?_
        rintro _ w7 hx7 rfl
        have ms := ms.ext hx7
        simp only [↓vsd, vsn, gW, qd, qv, ev, pick, argE, zipE, ne_eq, eq_self, forall_const, implies_true, if_true, if_false, reduceIte, reduceCtorEq, Nat.reduceEqDiff, Nat.reduceAdd, Nat.reduceLT, ↓us_sl1Cur_regular, r_sl1Cur_regular, ms.blk.facts, fMg]
        refine ⟨fun h0 => ?_, fun h0 => ?_⟩
        · skip
          refine m_callw (.inl rfl) (sl1Cur_method_ok W b _ _ (by omega) ms.cur) ?_
          rintro _ wa ⟨hca, hga, nm', st', x', cs', rfl, hoa, hm', hst6'⟩
          have hsz := ms.blk.lt
          have hlo := ms.lo
          have ms := ms.draw hca hga
          simp only [↓vsd, vsn, gW, qd, qv, ev, pick, argE, zipE, ne_eq, eq_self, forall_const, implies_true, if_true, if_false, reduceIte, reduceCtorEq, Nat.reduceEqDiff, Nat.reduceAdd, Nat.reduceLT, ↓us_sl1Cur_regular, r_sl1Cur_regular]
          refine m_st ms.blk rfl (Nat.le_refl 3) (fM_one nm' st' _ hoa.sq.one') ?_
          rintro wb hbb hub
          have hbb' : Blk wb bm (fM nm' st' x') 41 := hbb
          have ms := ((ms.new (hoa.mono (by omega)) (hoa.away' (by omega))).put hub hbb').mono (M := n + 70 + 120 * (i + 1)) (by omega)
          simp only [↓vsd, vsn, gW, qd, qv, ev, pick, argE, zipE, ne_eq, eq_self, forall_const, implies_true, if_true, if_false, reduceIte, reduceCtorEq, Nat.reduceEqDiff, Nat.reduceAdd, Nat.reduceLT, ↓us_sl1Cur_regular, r_sl1Cur_regular]
          exact ⟨inR_i64 (by omega), UpTo.next hlt ⟨nm', st', x', cs', rfl, ms, hm', hst6'⟩⟩
        · skip
          have ms := ms.mono (M := n + 4000) (by omega)
          try simp only [↓vsd, vsn, gW, qd, qv, ev, pick, argE, zipE, ne_eq, eq_self, forall_const, implies_true, if_true, if_false, reduceIte, reduceCtorEq, Nat.reduceEqDiff, Nat.reduceAdd, Nat.reduceLT, ↓us_sl1Cur_regular, r_sl1Cur_regular, ms.blk.facts, fMg]
          obtain ⟨rc, hrc, hrl⟩ := ms.res
          obtain ⟨a1, a2, a3, rfl⟩ : ∃ a b c, rc = [a, b, c] := by match rc, hrl with | [a, b, c], _ => exact ⟨a, b, c, rfl⟩
          refine m_st hrc rfl (Nat.le_refl 3) (fM_one _ _ _ ms.own.sq.one') ?_
          rintro wr hbr hur
          have hbr' : Blk wr b1 (fM _ _ _) 41 := hbr
          have hlo := ms.lo
          simp only [↓vsd, vsn, gW, qd, qv, ev, pick, argE, zipE, ne_eq, eq_self, forall_const, implies_true, if_true, if_false, reduceIte, reduceCtorEq, Nat.reduceEqDiff, Nat.reduceAdd, Nat.reduceLT, ↓us_sl1Cur_regular, r_sl1Cur_regular, hbr'.facts, fMg]
          exact ⟨ms.cur.keep hur.grown (fun c hc => by have := Option.some.inj hc; omega), grown_new ms.gr hur.grown (fun c hc => by have := Option.some.inj hc; omega), _, _, _, _, rfl, (ms.own.upd hur (ms.own.away' (by omega))).mono (by omega), hm, hst6⟩
      · simp only [↓vsd, vsn, gW, qd, qv, ev, pick, argE, zipE, ne_eq, eq_self, forall_const, implies_true, if_true, if_false, reduceIte, reduceCtorEq, Nat.reduceEqDiff, Nat.reduceAdd, Nat.reduceLT, ↓us_sl1Cur_regular, r_sl1Cur_regular, ms.blk.facts, fMg]
        have ms := ms.mono (M := n + 4000) (by omega)
        try simp only [↓vsd, vsn, gW, qd, qv, ev, pick, argE, zipE, ne_eq, eq_self, forall_const, implies_true, if_true, if_false, reduceIte, reduceCtorEq, Nat.reduceEqDiff, Nat.reduceAdd, Nat.reduceLT, ↓us_sl1Cur_regular, r_sl1Cur_regular, ms.blk.facts, fMg]
        obtain ⟨rc, hrc, hrl⟩ := ms.res
        obtain ⟨a1, a2, a3, rfl⟩ : ∃ a b c, rc = [a, b, c] := by match rc, hrl with | [a, b, c], _ => exact ⟨a, b, c, rfl⟩
        refine m_st hrc rfl (Nat.le_refl 3) (fM_one _ _ _ ms.own.sq.one') ?_
        rintro wr hbr hur
        have hbr' : Blk wr b1 (fM _ _ _) 41 := hbr
        have hlo := ms.lo
        simp only [↓vsd, vsn, gW, qd, qv, ev, pick, argE, zipE, ne_eq, eq_self, forall_const, implies_true, if_true, if_false, reduceIte, reduceCtorEq, Nat.reduceEqDiff, Nat.reduceAdd, Nat.reduceLT, ↓us_sl1Cur_regular, r_sl1Cur_regular, hbr'.facts, fMg]
        exact ⟨ms.cur.keep hur.grown (fun c hc => by have := Option.some.inj hc; omega), grown_new ms.gr hur.grown (fun c hc => by have := Option.some.inj hc; omega), _, _, _, _, rfl, (ms.own.upd hur (ms.own.away' (by omega))).mono (by omega), hm, hst6⟩
  · obtain rfl : i = 30 := by omega
    have hltI : ¬ ((30 : Nat) : Int) < 30 := by omega
    simp only [↓vsd, vsn, gW, qd, qv, ev, pick, argE, zipE, ne_eq, eq_self, forall_const, implies_true, if_true, if_false, reduceIte, reduceCtorEq, Nat.reduceEqDiff, Nat.reduceAdd, Nat.reduceLT, ↓us_sl1Cur_regular, r_sl1Cur_regular, hltI, ms.blk.facts, fMg]
    have ms := ms.mono (M := n + 4000) (by omega)
    try simp only [↓vsd, vsn, gW, qd, qv, ev, pick, argE, zipE, ne_eq, eq_self, forall_const, implies_true, if_true, if_false, reduceIte, reduceCtorEq, Nat.reduceEqDiff, Nat.reduceAdd, Nat.reduceLT, ↓us_sl1Cur_regular, r_sl1Cur_regular, ms.blk.facts, fMg]
    obtain ⟨rc, hrc, hrl⟩ := ms.res
    obtain ⟨a1, a2, a3, rfl⟩ : ∃ a b c, rc = [a, b, c] := by match rc, hrl with | [a, b, c], _ => exact ⟨a, b, c, rfl⟩
    refine m_st hrc rfl (Nat.le_refl 3) (fM_one _ _ _ ms.own.sq.one') ?_
    rintro wr hbr hur
    have hbr' : Blk wr b1 (fM _ _ _) 41 := hbr
    have hlo := ms.lo
    simp only [↓vsd, vsn, gW, qd, qv, ev, pick, argE, zipE, ne_eq, eq_self, forall_const, implies_true, if_true, if_false, reduceIte, reduceCtorEq, Nat.reduceEqDiff, Nat.reduceAdd, Nat.reduceLT, ↓us_sl1Cur_regular, r_sl1Cur_regular, hbr'.facts, fMg]
    exact ⟨ms.cur.keep hur.grown (fun c hc => by have := Option.some.inj hc; omega), grown_new ms.gr hur.grown (fun c hc => by have := Option.some.inj hc; omega), _, _, _, _, rfl, (ms.own.upd hur (ms.own.away' (by omega))).mono (by omega), hm, hst6⟩
theorem sDrawIsRegular_ok (v : Value) (code : List UInt8) (hl : code.length ≤ 1048576) (w : World) (h : Sq fU 1 w v code) : Fn 258 [v] w (fun r w' => AnyM w.heap.size r w') := by
  (refine callsV_of mix Try.func258 c_sDrawIsRegular ?_; simp only [↓vsd, vsn, gW, qd, qv, ev, pick, argE, zipE, ne_eq, eq_self, forall_const, implies_true, if_true, if_false, reduceIte, reduceCtorEq, Nat.reduceEqDiff, Nat.reduceAdd, Nat.reduceLT, ↓us_sDrawIsRegular, r_sDrawIsRegular])
  refine m_al ?_
  rintro b0 w0 hb0 hblk0 hx0 hs0
  have h0 := h.ext hx0
  simp only [↓vsd, vsn, gW, qd, qv, ev, pick, argE, zipE, ne_eq, eq_self, forall_const, implies_true, if_true, if_false, reduceIte, reduceCtorEq, Nat.reduceEqDiff, Nat.reduceAdd, Nat.reduceLT, ↓us_sDrawIsRegular, r_sDrawIsRegular, h0.facts]
  refine m_al ?_
  rintro b w1 hb hblk hx1 hs1
  have hc := Cur.new h0 hl hb hblk hx1
  simp only [↓vsd, vsn, gW, qd, qv, ev, pick, argE, zipE, ne_eq, eq_self, forall_const, implies_true, if_true, if_false, reduceIte, reduceCtorEq, Nat.reduceEqDiff, Nat.reduceAdd, Nat.reduceLT, ↓us_sDrawIsRegular, r_sDrawIsRegular]
  refine m_callw (.inl rfl) (sl1Cur_one_ok w0 b _ 6 (by omega) w1 (by omega) hc) ?_
  rintro _ w2 ⟨hc2, hg2, y, rfl⟩
  have hs2 : w.heap.size ≤ w2.heap.size := by have := hg2.size; omega
  have hb02 := (Blk.ext hblk0 hx1).same (hg2.block b0 (Blk.ext hblk0 hx1).lt (fun e => by have := Option.some.inj e; omega))
  cases y
  · simp only [↓vsd, vsn, gW, qd, qv, ev, pick, argE, zipE, ne_eq, eq_self, forall_const, implies_true, if_true, if_false, reduceIte, reduceCtorEq, Nat.reduceEqDiff, Nat.reduceAdd, Nat.reduceLT, ↓us_sDrawIsRegular, r_sDrawIsRegular]
    refine m_callw (.inl rfl) (sl1Cur_regular_ok w0 b _ w2 (by omega) hc2) ?_
    rintro _ w3 ⟨hc3, hg3, nm, st, x, cs, rfl, ho, hm, hst⟩
    have hb03 := hb02.same (hg3.block b0 hb02.lt (fun e => by have := Option.some.inj e; omega))
    simp only [↓vsd, vsn, gW, qd, qv, ev, pick, argE, zipE, ne_eq, eq_self, forall_const, implies_true, if_true, if_false, reduceIte, reduceCtorEq, Nat.reduceEqDiff, Nat.reduceAdd, Nat.reduceLT, ↓us_sDrawIsRegular, r_sDrawIsRegular]
    refine m_st hb03 rfl (Nat.le_refl 3) (fM_one nm st _ ho.sq.one') ?_
    rintro w4 hblk4 hu4
    have hb4 : Blk w4 b0 (fM nm st x) 41 := hblk4
    simp only [↓vsd, vsn, gW, qd, qv, ev, pick, argE, zipE, ne_eq, eq_self, forall_const, implies_true, if_true, if_false, reduceIte, reduceCtorEq, Nat.reduceEqDiff, Nat.reduceAdd, Nat.reduceLT, ↓us_sDrawIsRegular, r_sDrawIsRegular, hb4.facts, fMg]
    exact ⟨hu4.below (hx0.trans hc3.base) (by omega), nm, st, x, cs, rfl, (ho.upd hu4 (ho.away' (by have := hb02.lt; omega))).mono hs2, by have := hm.1.2; omega, by have := hm.2.1; omega, by have := hm.2.2.1; omega, fun c hc => by have := (hm.2.2.2 c hc).len; have := hm.2.1; omega⟩
  · simp only [↓vsd, vsn, gW, qd, qv, ev, pick, argE, zipE, ne_eq, eq_self, forall_const, implies_true, if_true, if_false, reduceIte, reduceCtorEq, Nat.reduceEqDiff, Nat.reduceAdd, Nat.reduceLT, ↓us_sDrawIsRegular, r_sDrawIsRegular]
    refine m_callw (.inl rfl) (sl1Cur_anyMethod_ok w0 b _ w2 (by omega) hc2) ?_
    rintro _ w3 ⟨hc3, hg3, nm, st, x, cs, rfl, ho, hm⟩
    have hb03 := hb02.same (hg3.block b0 hb02.lt (fun e => by have := Option.some.inj e; omega))
    simp only [↓vsd, vsn, gW, qd, qv, ev, pick, argE, zipE, ne_eq, eq_self, forall_const, implies_true, if_true, if_false, reduceIte, reduceCtorEq, Nat.reduceEqDiff, Nat.reduceAdd, Nat.reduceLT, ↓us_sDrawIsRegular, r_sDrawIsRegular]
    refine m_st hb03 rfl (Nat.le_refl 3) (fM_one nm st _ ho.sq.one') ?_
    rintro w4 hblk4 hu4
    have hb4 : Blk w4 b0 (fM nm st x) 41 := hblk4
    simp only [↓vsd, vsn, gW, qd, qv, ev, pick, argE, zipE, ne_eq, eq_self, forall_const, implies_true, if_true, if_false, reduceIte, reduceCtorEq, Nat.reduceEqDiff, Nat.reduceAdd, Nat.reduceLT, ↓us_sDrawIsRegular, r_sDrawIsRegular, hb4.facts, fMg]
    exact ⟨hu4.below (hx0.trans hc3.base) (by omega), nm, st, x, cs, rfl, (ho.upd hu4 (ho.away' (by have := hb02.lt; omega))).mono hs2, hm⟩
end Go.Proofs.Ytpnopboffalfnaa
