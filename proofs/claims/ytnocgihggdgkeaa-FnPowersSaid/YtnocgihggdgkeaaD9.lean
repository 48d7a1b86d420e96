/-
  The call of the law FnPowers.
  Conditions: none.
-/
import Derived.Test.YtnocgihggdgkeaaD8
set_option linter.unusedSimpArgs false
set_option linter.unusedVariables false
set_option linter.defProp false
namespace Go.Proofs.Ytnocgihggdgkeaa
open Go Go.RowKit
theorem powV_m1 {a : List UInt8} (ha : IsRow a) : powV a (-1) = .tuple ⟨[S (turnL a), .bool true]⟩ := by
  rw [powV, if_pos ⟨ha, by decide, by decide⟩, powZ, if_pos (by decide)]
  have h := rounds_times (turnL_row ha)
  rw [turnL_len] at h
  have e : (-(-1 : Int)).toNat = 1 := rfl
  rw [e, powL, powL, turnL_len, h]
theorem evenV_pos {a : List UInt8} (ha : IsRow a) : evenV a = .tuple ⟨[.bool (evB (invL a)), .bool true]⟩ := by rw [evenV, if_pos ha]
theorem evB_times {a b : List UInt8} (ha : IsRow a) (hb : IsRow b) (hl : a.length = b.length) : evB (invL (timesL a b)) = decide (evB (invL a) = evB (invL b)) := by
  have h := sign_times ha (invL b) b (Nat.le_refl _) hb hl
  unfold evB
  rw [← decide_eq_decide.2 (by omega : (invL a + invL b) % 2 = 0 ↔ invL (timesL a b) % 2 = 0)]
  by_cases h1 : invL a % 2 = 0 <;> by_cases h2 : invL b % 2 = 0
  · rw [decide_eq_true h1, decide_eq_true h2, decide_eq_true (by omega)]; rfl
  · rw [decide_eq_true h1, decide_eq_false h2, decide_eq_false (by omega)]; rfl
  · rw [decide_eq_false h1, decide_eq_true h2, decide_eq_false (by omega)]; rfl
  · rw [decide_eq_false h1, decide_eq_false h2, decide_eq_true (by omega)]; rfl
theorem lFnPowers_ok (v u : Value) (code more : List UInt8) (hcl : code.length ≤ 9223372036854775807) (hml : more.length ≤ 9223372036854775807) (w : World) (h : Sq fU 1 w v code) (h' : Sq fU 1 w u more) : Fn 5 [v, u] w (fun r _ => r = .bool true) := by
  (refine callsV_of mix Try.func5 c_lFnPowers ?_; simp only [↓vsd, vsn, gW, qd, qv, ev, pick, argE, List.map_cons, List.map_nil, Option.map_some, Option.map_none, zipE, List.cons_append, List.nil_append, ne_eq, eq_self, forall_const, implies_true, if_true, if_false, reduceIte, List.cons.injEq, reduceCtorEq, Nat.reduceEqDiff, List.length_nil, List.length_cons, Nat.reduceAdd, Nat.reduceLT, List.set_cons_zero, List.set_cons_succ, ↓us_lFnPowers, r_lFnPowers])
  refine m_call (lbig_ok v u code more hcl hml _ h h') ?_
  rintro _ w1 hx1 rfl
  simp only [↓vsd, vsn, gW, qd, qv, ev, pick, argE, List.map_cons, List.map_nil, Option.map_some, Option.map_none, zipE, List.cons_append, List.nil_append, ne_eq, eq_self, forall_const, implies_true, if_true, if_false, reduceIte, List.cons.injEq, reduceCtorEq, Nat.reduceEqDiff, List.length_nil, List.length_cons, Nat.reduceAdd, Nat.reduceLT, List.set_cons_zero, List.set_cons_succ, ↓us_lFnPowers, r_lFnPowers]
  refine ⟨fun _ => hx1, fun hsm => ?_⟩
  have hlen : code.length ≤ 1048576 ∧ more.length ≤ 1048576 := by omega
  refine m_call (sDrawOrderOf_ok v code hlen.1 _ (h.ext hx1)) ?_
  rintro _ w2 hx2 ⟨a, rfl, ha10⟩
  simp only [↓vsd, vsn, gW, qd, qv, ev, pick, argE, List.map_cons, List.map_nil, Option.map_some, Option.map_none, zipE, List.cons_append, List.nil_append, ne_eq, eq_self, forall_const, implies_true, if_true, if_false, reduceIte, List.cons.injEq, reduceCtorEq, Nat.reduceEqDiff, List.length_nil, List.length_cons, Nat.reduceAdd, Nat.reduceLT, List.set_cons_zero, List.set_cons_succ, ↓us_lFnPowers, r_lFnPowers]
  obtain ⟨n, ho⟩ : ∃ n, IsRow a → IsOrd a n := by
    by_cases ha : IsRow a
    · obtain ⟨n, hn⟩ := ord_exists ha; exact ⟨n, fun _ => hn⟩
    · exact ⟨0, fun h => absurd h ha⟩
  refine m_call (iOrderOf_ok a n ho _) ?_
  rintro r3 w3 hx3 hr3
  by_cases ha : IsRow a
  · rw [ordV, if_pos ha] at hr3
    subst hr3
    simp only [↓vsd, vsn, gW, qd, qv, ev, pick, argE, List.map_cons, List.map_nil, Option.map_some, Option.map_none, zipE, List.cons_append, List.nil_append, ne_eq, eq_self, forall_const, implies_true, if_true, if_false, reduceIte, List.cons.injEq, reduceCtorEq, Nat.reduceEqDiff, List.length_nil, List.length_cons, Nat.reduceAdd, Nat.reduceLT, List.set_cons_zero, List.set_cons_succ, ↓us_lFnPowers, r_lFnPowers]
    refine m_call (sOrderOf_ok a n ho _) ?_
    rintro r4 w4 hx4 hr4
    rw [ordV, if_pos ha] at hr4
    subst hr4
    have hon := ho ha
    have h8 := ha.1
    simp only [↓vsd, vsn, gW, qd, qv, ev, pick, argE, List.map_cons, List.map_nil, Option.map_some, Option.map_none, zipE, List.cons_append, List.nil_append, ne_eq, eq_self, forall_const, implies_true, if_true, if_false, reduceIte, List.cons.injEq, reduceCtorEq, Nat.reduceEqDiff, List.length_nil, List.length_cons, Nat.reduceAdd, Nat.reduceLT, List.set_cons_zero, List.set_cons_succ, ↓us_lFnPowers, r_lFnPowers]
    refine m_call (iRoundsOf_ok (a.length : Nat) _) ?_
    rintro r w5 hx5 hr
    rw [roundsV_pos h8] at hr
    subst hr
    simp only [↓vsd, vsn, gW, qd, qv, ev, pick, argE, List.map_cons, List.map_nil, Option.map_some, Option.map_none, zipE, List.cons_append, List.nil_append, ne_eq, eq_self, forall_const, implies_true, if_true, if_false, reduceIte, List.cons.injEq, reduceCtorEq, Nat.reduceEqDiff, List.length_nil, List.length_cons, Nat.reduceAdd, Nat.reduceLT, List.set_cons_zero, List.set_cons_succ, ↓us_lFnPowers, r_lFnPowers]
    refine m_call (iPowerOf_ok a (n : Nat) _) ?_
    rintro r6 w6 hx6 hr
    rw [powV_pos ha (by have := hon.2.1; omega), hon.2.2.1] at hr
    subst hr
    simp only [↓vsd, vsn, gW, qd, qv, ev, pick, argE, List.map_cons, List.map_nil, Option.map_some, Option.map_none, zipE, List.cons_append, List.nil_append, ne_eq, eq_self, forall_const, implies_true, if_true, if_false, reduceIte, List.cons.injEq, reduceCtorEq, Nat.reduceEqDiff, List.length_nil, List.length_cons, Nat.reduceAdd, Nat.reduceLT, List.set_cons_zero, List.set_cons_succ, ↓us_lFnPowers, r_lFnPowers]
    refine m_call (iPowerOf_ok a (-1) _) ?_
    rintro r7 w7 hx7 hr
    rw [powV_m1 ha] at hr
    subst hr
    simp only [↓vsd, vsn, gW, qd, qv, ev, pick, argE, List.map_cons, List.map_nil, Option.map_some, Option.map_none, zipE, List.cons_append, List.nil_append, ne_eq, eq_self, forall_const, implies_true, if_true, if_false, reduceIte, List.cons.injEq, reduceCtorEq, Nat.reduceEqDiff, List.length_nil, List.length_cons, Nat.reduceAdd, Nat.reduceLT, List.set_cons_zero, List.set_cons_succ, ↓us_lFnPowers, r_lFnPowers]
    refine m_call (iTurnRow_ok a _) ?_
    rintro r8 w8 hx8 hr
    rw [turnRV_pos ha] at hr
    subst hr
    have h1n : 1 ≤ (n : Int) := by have := hon.1; omega
    have hx18 := hx1.trans (hx2.trans (hx3.trans (hx4.trans (hx5.trans (hx6.trans (hx7.trans hx8))))))
    simp only [↓vsd, vsn, gW, qd, qv, ev, pick, argE, List.map_cons, List.map_nil, Option.map_some, Option.map_none, zipE, List.cons_append, List.nil_append, ne_eq, eq_self, forall_const, implies_true, if_true, if_false, reduceIte, List.cons.injEq, reduceCtorEq, Nat.reduceEqDiff, List.length_nil, List.length_cons, Nat.reduceAdd, Nat.reduceLT, List.set_cons_zero, List.set_cons_succ, ↓us_lFnPowers, r_lFnPowers, h1n]
    refine ⟨fun hlt => by omega, ?_⟩
    refine m_upto (n - 1) (fun i vs w' => vs = [.int .i64 (i + 1 : Nat)] ∧ Ext w w') ⟨rfl, hx18⟩ ?_
    rintro i vs w9 hi ⟨rfl, hx9⟩
    by_cases hlt : i < n - 1
    · have hltI : ((i + 1 : Nat) : Int) < n := by omega
      have hltJ : ¬ (n : Int) ≤ (i + 1 : Nat) := by omega
      simp only [↓vsd, vsn, gW, qd, qv, ev, pick, argE, List.map_cons, List.map_nil, Option.map_some, Option.map_none, zipE, List.cons_append, List.nil_append, ne_eq, eq_self, forall_const, implies_true, if_true, if_false, reduceIte, List.cons.injEq, reduceCtorEq, Nat.reduceEqDiff, List.length_nil, List.length_cons, Nat.reduceAdd, Nat.reduceLT, List.set_cons_zero, List.set_cons_succ, ↓us_lFnPowers, r_lFnPowers, hltI, hltJ]
      refine m_call (iPowerOf_ok a (i + 1 : Nat) _) ?_
      rintro rz wz hxz hrz
      have hn840 := hon.2.1
      have hne := hon.2.2.2 (i + 1) (by omega) (by omega)
      rw [powV_pos ha (by have := hon.2.1; omega)] at hrz
      subst hrz
      simp only [↓vsd, vsn, gW, qd, qv, ev, pick, argE, List.map_cons, List.map_nil, Option.map_some, Option.map_none, zipE, List.cons_append, List.nil_append, ne_eq, eq_self, forall_const, implies_true, if_true, if_false, reduceIte, List.cons.injEq, reduceCtorEq, Nat.reduceEqDiff, List.length_nil, List.length_cons, Nat.reduceAdd, Nat.reduceLT, List.set_cons_zero, List.set_cons_succ, ↓us_lFnPowers, r_lFnPowers, hne]
      exact ⟨inR_i64 (by omega), UpTo.next hlt ⟨rfl, hx9.trans hxz⟩⟩
    · have hltI : ¬ ((i + 1 : Nat) : Int) < n := by omega
      simp only [↓vsd, vsn, gW, qd, qv, ev, pick, argE, List.map_cons, List.map_nil, Option.map_some, Option.map_none, zipE, List.cons_append, List.nil_append, ne_eq, eq_self, forall_const, implies_true, if_true, if_false, reduceIte, List.cons.injEq, reduceCtorEq, Nat.reduceEqDiff, List.length_nil, List.length_cons, Nat.reduceAdd, Nat.reduceLT, List.set_cons_zero, List.set_cons_succ, ↓us_lFnPowers, r_lFnPowers, hltI]
      have hxT := hx9
      refine m_call (sDrawTimes_ok u more hlen.2 _ (h'.ext hxT)) ?_
      rintro _ wa hxa ⟨b, c, rfl, hb10, hc10⟩
      simp only [↓vsd, vsn, gW, qd, qv, ev, pick, argE, List.map_cons, List.map_nil, Option.map_some, Option.map_none, zipE, List.cons_append, List.nil_append, ne_eq, eq_self, forall_const, implies_true, if_true, if_false, reduceIte, List.cons.injEq, reduceCtorEq, Nat.reduceEqDiff, List.length_nil, List.length_cons, Nat.reduceAdd, Nat.reduceLT, List.set_cons_zero, List.set_cons_succ, ↓us_lFnPowers, r_lFnPowers]
      refine m_call (iTimes_ok b c _) ?_
      rintro rb wb hxb hrb
      by_cases hbc : IsRow b ∧ IsRow c ∧ b.length = c.length
      · rw [timesV_pos hbc.1 hbc.2.1 hbc.2.2] at hrb
        subst hrb
        simp only [↓vsd, vsn, gW, qd, qv, ev, pick, argE, List.map_cons, List.map_nil, Option.map_some, Option.map_none, zipE, List.cons_append, List.nil_append, ne_eq, eq_self, forall_const, implies_true, if_true, if_false, reduceIte, List.cons.injEq, reduceCtorEq, Nat.reduceEqDiff, List.length_nil, List.length_cons, Nat.reduceAdd, Nat.reduceLT, List.set_cons_zero, List.set_cons_succ, ↓us_lFnPowers, r_lFnPowers]
        refine m_call (iIsEven_ok b _) ?_
        rintro rc wc hxc hrc
        rw [evenV_pos hbc.1] at hrc
        subst hrc
        simp only [↓vsd, vsn, gW, qd, qv, ev, pick, argE, List.map_cons, List.map_nil, Option.map_some, Option.map_none, zipE, List.cons_append, List.nil_append, ne_eq, eq_self, forall_const, implies_true, if_true, if_false, reduceIte, List.cons.injEq, reduceCtorEq, Nat.reduceEqDiff, List.length_nil, List.length_cons, Nat.reduceAdd, Nat.reduceLT, List.set_cons_zero, List.set_cons_succ, ↓us_lFnPowers, r_lFnPowers]
        refine m_call (iIsEven_ok c _) ?_
        rintro rd wd hxd hrd
        rw [evenV_pos hbc.2.1] at hrd
        subst hrd
        simp only [↓vsd, vsn, gW, qd, qv, ev, pick, argE, List.map_cons, List.map_nil, Option.map_some, Option.map_none, zipE, List.cons_append, List.nil_append, ne_eq, eq_self, forall_const, implies_true, if_true, if_false, reduceIte, List.cons.injEq, reduceCtorEq, Nat.reduceEqDiff, List.length_nil, List.length_cons, Nat.reduceAdd, Nat.reduceLT, List.set_cons_zero, List.set_cons_succ, ↓us_lFnPowers, r_lFnPowers]
        refine m_call (iIsEven_ok (timesL b c) _) ?_
        rintro re we hxe hre
        rw [evenV_pos (timesL_row hbc.1 hbc.2.1 hbc.2.2), evB_times hbc.1 hbc.2.1 hbc.2.2] at hre
        subst hre
        have hxU := hxT.trans (hxa.trans (hxb.trans (hxc.trans (hxd.trans hxe))))
        simp only [↓vsd, vsn, gW, qd, qv, ev, pick, argE, List.map_cons, List.map_nil, Option.map_some, Option.map_none, zipE, List.cons_append, List.nil_append, ne_eq, eq_self, forall_const, implies_true, if_true, if_false, reduceIte, List.cons.injEq, reduceCtorEq, Nat.reduceEqDiff, List.length_nil, List.length_cons, Nat.reduceAdd, Nat.reduceLT, List.set_cons_zero, List.set_cons_succ, ↓us_lFnPowers, r_lFnPowers]
        refine m_call (sDrawPowerOf_ok u more hlen.2 _ (h'.ext hxU)) ?_
        rintro _ wf hxf ⟨d, k, rfl, hd10⟩
        simp only [↓vsd, vsn, gW, qd, qv, ev, pick, argE, List.map_cons, List.map_nil, Option.map_some, Option.map_none, zipE, List.cons_append, List.nil_append, ne_eq, eq_self, forall_const, implies_true, if_true, if_false, reduceIte, List.cons.injEq, reduceCtorEq, Nat.reduceEqDiff, List.length_nil, List.length_cons, Nat.reduceAdd, Nat.reduceLT, List.set_cons_zero, List.set_cons_succ, ↓us_lFnPowers, r_lFnPowers]
        obtain ⟨px, pb, ep⟩ := powV_two d k
        refine m_call (iPowerOf_ok d k _) ?_
        rintro rg wg hxg hrg
        rw [ep] at hrg
        subst hrg
        simp only [↓vsd, vsn, gW, qd, qv, ev, pick, argE, List.map_cons, List.map_nil, Option.map_some, Option.map_none, zipE, List.cons_append, List.nil_append, ne_eq, eq_self, forall_const, implies_true, if_true, if_false, reduceIte, List.cons.injEq, reduceCtorEq, Nat.reduceEqDiff, List.length_nil, List.length_cons, Nat.reduceAdd, Nat.reduceLT, List.set_cons_zero, List.set_cons_succ, ↓us_lFnPowers, r_lFnPowers]
        refine m_call (sPowerOf_ok d k _) ?_
        rintro rh wh hxh hrh
        rw [ep] at hrh
        subst hrh
        simp only [↓vsd, vsn, gW, qd, qv, ev, pick, argE, List.map_cons, List.map_nil, Option.map_some, Option.map_none, zipE, List.cons_append, List.nil_append, ne_eq, eq_self, forall_const, implies_true, if_true, if_false, reduceIte, List.cons.injEq, reduceCtorEq, Nat.reduceEqDiff, List.length_nil, List.length_cons, Nat.reduceAdd, Nat.reduceLT, List.set_cons_zero, List.set_cons_succ, ↓us_lFnPowers, r_lFnPowers]
        refine m_call (sDrawIsEven_ok u more hlen.2 _ (h'.ext (hxU.trans (hxf.trans (hxg.trans hxh))))) ?_
        rintro _ wi hxi ⟨e, rfl, he10⟩
        simp only [↓vsd, vsn, gW, qd, qv, ev, pick, argE, List.map_cons, List.map_nil, Option.map_some, Option.map_none, zipE, List.cons_append, List.nil_append, ne_eq, eq_self, forall_const, implies_true, if_true, if_false, reduceIte, List.cons.injEq, reduceCtorEq, Nat.reduceEqDiff, List.length_nil, List.length_cons, Nat.reduceAdd, Nat.reduceLT, List.set_cons_zero, List.set_cons_succ, ↓us_lFnPowers, r_lFnPowers]
        obtain ⟨ex, eb, ee⟩ := evenV_two e
        refine m_call (iIsEven_ok e _) ?_
        rintro rj wj hxj hrj
        rw [ee] at hrj
        subst hrj
        simp only [↓vsd, vsn, gW, qd, qv, ev, pick, argE, List.map_cons, List.map_nil, Option.map_some, Option.map_none, zipE, List.cons_append, List.nil_append, ne_eq, eq_self, forall_const, implies_true, if_true, if_false, reduceIte, List.cons.injEq, reduceCtorEq, Nat.reduceEqDiff, List.length_nil, List.length_cons, Nat.reduceAdd, Nat.reduceLT, List.set_cons_zero, List.set_cons_succ, ↓us_lFnPowers, r_lFnPowers]
        refine m_call (sIsEven_ok e _) ?_
        rintro rk wk hxk hrk
        rw [ee] at hrk
        subst hrk
        simp only [↓vsd, vsn, gW, qd, qv, ev, pick, argE, List.map_cons, List.map_nil, Option.map_some, Option.map_none, zipE, List.cons_append, List.nil_append, ne_eq, eq_self, forall_const, implies_true, if_true, if_false, reduceIte, List.cons.injEq, reduceCtorEq, Nat.reduceEqDiff, List.length_nil, List.length_cons, Nat.reduceAdd, Nat.reduceLT, List.set_cons_zero, List.set_cons_succ, ↓us_lFnPowers, r_lFnPowers]
        exact hxU.trans (hxf.trans (hxg.trans (hxh.trans (hxi.trans (hxj.trans hxk)))))
      · rw [timesV, if_neg hbc] at hrb
        subst hrb
        have hxU := hxT.trans (hxa.trans hxb)
        simp only [↓vsd, vsn, gW, qd, qv, ev, pick, argE, List.map_cons, List.map_nil, Option.map_some, Option.map_none, zipE, List.cons_append, List.nil_append, ne_eq, eq_self, forall_const, implies_true, if_true, if_false, reduceIte, List.cons.injEq, reduceCtorEq, Nat.reduceEqDiff, List.length_nil, List.length_cons, Nat.reduceAdd, Nat.reduceLT, List.set_cons_zero, List.set_cons_succ, ↓us_lFnPowers, r_lFnPowers]
        refine m_call (sDrawPowerOf_ok u more hlen.2 _ (h'.ext hxU)) ?_
        rintro _ wf hxf ⟨d, k, rfl, hd10⟩
        simp only [↓vsd, vsn, gW, qd, qv, ev, pick, argE, List.map_cons, List.map_nil, Option.map_some, Option.map_none, zipE, List.cons_append, List.nil_append, ne_eq, eq_self, forall_const, implies_true, if_true, if_false, reduceIte, List.cons.injEq, reduceCtorEq, Nat.reduceEqDiff, List.length_nil, List.length_cons, Nat.reduceAdd, Nat.reduceLT, List.set_cons_zero, List.set_cons_succ, ↓us_lFnPowers, r_lFnPowers]
        obtain ⟨px, pb, ep⟩ := powV_two d k
        refine m_call (iPowerOf_ok d k _) ?_
        rintro rg wg hxg hrg
        rw [ep] at hrg
        subst hrg
        simp only [↓vsd, vsn, gW, qd, qv, ev, pick, argE, List.map_cons, List.map_nil, Option.map_some, Option.map_none, zipE, List.cons_append, List.nil_append, ne_eq, eq_self, forall_const, implies_true, if_true, if_false, reduceIte, List.cons.injEq, reduceCtorEq, Nat.reduceEqDiff, List.length_nil, List.length_cons, Nat.reduceAdd, Nat.reduceLT, List.set_cons_zero, List.set_cons_succ, ↓us_lFnPowers, r_lFnPowers]
        refine m_call (sPowerOf_ok d k _) ?_
        rintro rh wh hxh hrh
        rw [ep] at hrh
        subst hrh
        simp only [↓vsd, vsn, gW, qd, qv, ev, pick, argE, List.map_cons, List.map_nil, Option.map_some, Option.map_none, zipE, List.cons_append, List.nil_append, ne_eq, eq_self, forall_const, implies_true, if_true, if_false, reduceIte, List.cons.injEq, reduceCtorEq, Nat.reduceEqDiff, List.length_nil, List.length_cons, Nat.reduceAdd, Nat.reduceLT, List.set_cons_zero, List.set_cons_succ, ↓us_lFnPowers, r_lFnPowers]
        refine m_call (sDrawIsEven_ok u more hlen.2 _ (h'.ext (hxU.trans (hxf.trans (hxg.trans hxh))))) ?_
        rintro _ wi hxi ⟨e, rfl, he10⟩
        simp only [↓vsd, vsn, gW, qd, qv, ev, pick, argE, List.map_cons, List.map_nil, Option.map_some, Option.map_none, zipE, List.cons_append, List.nil_append, ne_eq, eq_self, forall_const, implies_true, if_true, if_false, reduceIte, List.cons.injEq, reduceCtorEq, Nat.reduceEqDiff, List.length_nil, List.length_cons, Nat.reduceAdd, Nat.reduceLT, List.set_cons_zero, List.set_cons_succ, ↓us_lFnPowers, r_lFnPowers]
        obtain ⟨ex, eb, ee⟩ := evenV_two e
        refine m_call (iIsEven_ok e _) ?_
        rintro rj wj hxj hrj
        rw [ee] at hrj
        subst hrj
        simp only [↓vsd, vsn, gW, qd, qv, ev, pick, argE, List.map_cons, List.map_nil, Option.map_some, Option.map_none, zipE, List.cons_append, List.nil_append, ne_eq, eq_self, forall_const, implies_true, if_true, if_false, reduceIte, List.cons.injEq, reduceCtorEq, Nat.reduceEqDiff, List.length_nil, List.length_cons, Nat.reduceAdd, Nat.reduceLT, List.set_cons_zero, List.set_cons_succ, ↓us_lFnPowers, r_lFnPowers]
        refine m_call (sIsEven_ok e _) ?_
        rintro rk wk hxk hrk
        rw [ee] at hrk
        subst hrk
        simp only [↓vsd, vsn, gW, qd, qv, ev, pick, argE, List.map_cons, List.map_nil, Option.map_some, Option.map_none, zipE, List.cons_append, List.nil_append, ne_eq, eq_self, forall_const, implies_true, if_true, if_false, reduceIte, List.cons.injEq, reduceCtorEq, Nat.reduceEqDiff, List.length_nil, List.length_cons, Nat.reduceAdd, Nat.reduceLT, List.set_cons_zero, List.set_cons_succ, ↓us_lFnPowers, r_lFnPowers]
        exact hxU.trans (hxf.trans (hxg.trans (hxh.trans (hxi.trans (hxj.trans hxk)))))
  · rw [ordV, if_neg ha] at hr3
    subst hr3
    simp only [↓vsd, vsn, gW, qd, qv, ev, pick, argE, List.map_cons, List.map_nil, Option.map_some, Option.map_none, zipE, List.cons_append, List.nil_append, ne_eq, eq_self, forall_const, implies_true, if_true, if_false, reduceIte, List.cons.injEq, reduceCtorEq, Nat.reduceEqDiff, List.length_nil, List.length_cons, Nat.reduceAdd, Nat.reduceLT, List.set_cons_zero, List.set_cons_succ, ↓us_lFnPowers, r_lFnPowers]
    refine m_call (sOrderOf_ok a n ho _) ?_
    rintro r4 w4 hx4 hr4
    rw [ordV, if_neg ha] at hr4
    subst hr4
    simp only [↓vsd, vsn, gW, qd, qv, ev, pick, argE, List.map_cons, List.map_nil, Option.map_some, Option.map_none, zipE, List.cons_append, List.nil_append, ne_eq, eq_self, forall_const, implies_true, if_true, if_false, reduceIte, List.cons.injEq, reduceCtorEq, Nat.reduceEqDiff, List.length_nil, List.length_cons, Nat.reduceAdd, Nat.reduceLT, List.set_cons_zero, List.set_cons_succ, ↓us_lFnPowers, r_lFnPowers]
    have hxT := hx1.trans (hx2.trans (hx3.trans hx4))
    refine m_call (sDrawTimes_ok u more hlen.2 _ (h'.ext hxT)) ?_
    rintro _ wa hxa ⟨b, c, rfl, hb10, hc10⟩
    simp only [↓vsd, vsn, gW, qd, qv, ev, pick, argE, List.map_cons, List.map_nil, Option.map_some, Option.map_none, zipE, List.cons_append, List.nil_append, ne_eq, eq_self, forall_const, implies_true, if_true, if_false, reduceIte, List.cons.injEq, reduceCtorEq, Nat.reduceEqDiff, List.length_nil, List.length_cons, Nat.reduceAdd, Nat.reduceLT, List.set_cons_zero, List.set_cons_succ, ↓us_lFnPowers, r_lFnPowers]
    refine m_call (iTimes_ok b c _) ?_
    rintro rb wb hxb hrb
    by_cases hbc : IsRow b ∧ IsRow c ∧ b.length = c.length
    · rw [timesV_pos hbc.1 hbc.2.1 hbc.2.2] at hrb
      subst hrb
      simp only [↓vsd, vsn, gW, qd, qv, ev, pick, argE, List.map_cons, List.map_nil, Option.map_some, Option.map_none, zipE, List.cons_append, List.nil_append, ne_eq, eq_self, forall_const, implies_true, if_true, if_false, reduceIte, List.cons.injEq, reduceCtorEq, Nat.reduceEqDiff, List.length_nil, List.length_cons, Nat.reduceAdd, Nat.reduceLT, List.set_cons_zero, List.set_cons_succ, ↓us_lFnPowers, r_lFnPowers]
      refine m_call (iIsEven_ok b _) ?_
      rintro rc wc hxc hrc
      rw [evenV_pos hbc.1] at hrc
      subst hrc
      simp only [↓vsd, vsn, gW, qd, qv, ev, pick, argE, List.map_cons, List.map_nil, Option.map_some, Option.map_none, zipE, List.cons_append, List.nil_append, ne_eq, eq_self, forall_const, implies_true, if_true, if_false, reduceIte, List.cons.injEq, reduceCtorEq, Nat.reduceEqDiff, List.length_nil, List.length_cons, Nat.reduceAdd, Nat.reduceLT, List.set_cons_zero, List.set_cons_succ, ↓us_lFnPowers, r_lFnPowers]
      refine m_call (iIsEven_ok c _) ?_
      rintro rd wd hxd hrd
      rw [evenV_pos hbc.2.1] at hrd
      subst hrd
      simp only [↓vsd, vsn, gW, qd, qv, ev, pick, argE, List.map_cons, List.map_nil, Option.map_some, Option.map_none, zipE, List.cons_append, List.nil_append, ne_eq, eq_self, forall_const, implies_true, if_true, if_false, reduceIte, List.cons.injEq, reduceCtorEq, Nat.reduceEqDiff, List.length_nil, List.length_cons, Nat.reduceAdd, Nat.reduceLT, List.set_cons_zero, List.set_cons_succ, ↓us_lFnPowers, r_lFnPowers]
      refine m_call (iIsEven_ok (timesL b c) _) ?_
      rintro re we hxe hre
      rw [evenV_pos (timesL_row hbc.1 hbc.2.1 hbc.2.2), evB_times hbc.1 hbc.2.1 hbc.2.2] at hre
      subst hre
      have hxU := hxT.trans (hxa.trans (hxb.trans (hxc.trans (hxd.trans hxe))))
      simp only [↓vsd, vsn, gW, qd, qv, ev, pick, argE, List.map_cons, List.map_nil, Option.map_some, Option.map_none, zipE, List.cons_append, List.nil_append, ne_eq, eq_self, forall_const, implies_true, if_true, if_false, reduceIte, List.cons.injEq, reduceCtorEq, Nat.reduceEqDiff, List.length_nil, List.length_cons, Nat.reduceAdd, Nat.reduceLT, List.set_cons_zero, List.set_cons_succ, ↓us_lFnPowers, r_lFnPowers]
      refine m_call (sDrawPowerOf_ok u more hlen.2 _ (h'.ext hxU)) ?_
      rintro _ wf hxf ⟨d, k, rfl, hd10⟩
      simp only [↓vsd, vsn, gW, qd, qv, ev, pick, argE, List.map_cons, List.map_nil, Option.map_some, Option.map_none, zipE, List.cons_append, List.nil_append, ne_eq, eq_self, forall_const, implies_true, if_true, if_false, reduceIte, List.cons.injEq, reduceCtorEq, Nat.reduceEqDiff, List.length_nil, List.length_cons, Nat.reduceAdd, Nat.reduceLT, List.set_cons_zero, List.set_cons_succ, ↓us_lFnPowers, r_lFnPowers]
      obtain ⟨px, pb, ep⟩ := powV_two d k
      refine m_call (iPowerOf_ok d k _) ?_
      rintro rg wg hxg hrg
      rw [ep] at hrg
      subst hrg
      simp only [↓vsd, vsn, gW, qd, qv, ev, pick, argE, List.map_cons, List.map_nil, Option.map_some, Option.map_none, zipE, List.cons_append, List.nil_append, ne_eq, eq_self, forall_const, implies_true, if_true, if_false, reduceIte, List.cons.injEq, reduceCtorEq, Nat.reduceEqDiff, List.length_nil, List.length_cons, Nat.reduceAdd, Nat.reduceLT, List.set_cons_zero, List.set_cons_succ, ↓us_lFnPowers, r_lFnPowers]
      refine m_call (sPowerOf_ok d k _) ?_
      rintro rh wh hxh hrh
      rw [ep] at hrh
      subst hrh
      simp only [↓vsd, vsn, gW, qd, qv, ev, pick, argE, List.map_cons, List.map_nil, Option.map_some, Option.map_none, zipE, List.cons_append, List.nil_append, ne_eq, eq_self, forall_const, implies_true, if_true, if_false, reduceIte, List.cons.injEq, reduceCtorEq, Nat.reduceEqDiff, List.length_nil, List.length_cons, Nat.reduceAdd, Nat.reduceLT, List.set_cons_zero, List.set_cons_succ, ↓us_lFnPowers, r_lFnPowers]
      refine m_call (sDrawIsEven_ok u more hlen.2 _ (h'.ext (hxU.trans (hxf.trans (hxg.trans hxh))))) ?_
      rintro _ wi hxi ⟨e, rfl, he10⟩
      simp only [↓vsd, vsn, gW, qd, qv, ev, pick, argE, List.map_cons, List.map_nil, Option.map_some, Option.map_none, zipE, List.cons_append, List.nil_append, ne_eq, eq_self, forall_const, implies_true, if_true, if_false, reduceIte, List.cons.injEq, reduceCtorEq, Nat.reduceEqDiff, List.length_nil, List.length_cons, Nat.reduceAdd, Nat.reduceLT, List.set_cons_zero, List.set_cons_succ, ↓us_lFnPowers, r_lFnPowers]
      obtain ⟨ex, eb, ee⟩ := evenV_two e
      refine m_call (iIsEven_ok e _) ?_
      rintro rj wj hxj hrj
      rw [ee] at hrj
      subst hrj
      simp only [↓vsd, vsn, gW, qd, qv, ev, pick, argE, List.map_cons, List.map_nil, Option.map_some, Option.map_none, zipE, List.cons_append, List.nil_append, ne_eq, eq_self, forall_const, implies_true, if_true, if_false, reduceIte, List.cons.injEq, reduceCtorEq, Nat.reduceEqDiff, List.length_nil, List.length_cons, Nat.reduceAdd, Nat.reduceLT, List.set_cons_zero, List.set_cons_succ, ↓us_lFnPowers, r_lFnPowers]
      refine m_call (sIsEven_ok e _) ?_
      rintro rk wk hxk hrk
      rw [ee] at hrk
      subst hrk
      simp only [↓vsd, vsn, gW, qd, qv, ev, pick, argE, List.map_cons, List.map_nil, Option.map_some, Option.map_none, zipE, List.cons_append, List.nil_append, ne_eq, eq_self, forall_const, implies_true, if_true, if_false, reduceIte, List.cons.injEq, reduceCtorEq, Nat.reduceEqDiff, List.length_nil, List.length_cons, Nat.reduceAdd, Nat.reduceLT, List.set_cons_zero, List.set_cons_succ, ↓us_lFnPowers, r_lFnPowers]
      exact hxU.trans (hxf.trans (hxg.trans (hxh.trans (hxi.trans (hxj.trans hxk)))))
    · rw [timesV, if_neg hbc] at hrb
      subst hrb
      have hxU := hxT.trans (hxa.trans hxb)
      simp only [↓vsd, vsn, gW, qd, qv, ev, pick, argE, List.map_cons, List.map_nil, Option.map_some, Option.map_none, zipE, List.cons_append, List.nil_append, ne_eq, eq_self, forall_const, implies_true, if_true, if_false, reduceIte, List.cons.injEq, reduceCtorEq, Nat.reduceEqDiff, List.length_nil, List.length_cons, Nat.reduceAdd, Nat.reduceLT, List.set_cons_zero, List.set_cons_succ, ↓us_lFnPowers, r_lFnPowers]
      refine m_call (sDrawPowerOf_ok u more hlen.2 _ (h'.ext hxU)) ?_
      rintro _ wf hxf ⟨d, k, rfl, hd10⟩
      simp only [↓vsd, vsn, gW, qd, qv, ev, pick, argE, List.map_cons, List.map_nil, Option.map_some, Option.map_none, zipE, List.cons_append, List.nil_append, ne_eq, eq_self, forall_const, implies_true, if_true, if_false, reduceIte, List.cons.injEq, reduceCtorEq, Nat.reduceEqDiff, List.length_nil, List.length_cons, Nat.reduceAdd, Nat.reduceLT, List.set_cons_zero, List.set_cons_succ, ↓us_lFnPowers, r_lFnPowers]
      obtain ⟨px, pb, ep⟩ := powV_two d k
      refine m_call (iPowerOf_ok d k _) ?_
      rintro rg wg hxg hrg
      rw [ep] at hrg
      subst hrg
      simp only [↓vsd, vsn, gW, qd, qv, ev, pick, argE, List.map_cons, List.map_nil, Option.map_some, Option.map_none, zipE, List.cons_append, List.nil_append, ne_eq, eq_self, forall_const, implies_true, if_true, if_false, reduceIte, List.cons.injEq, reduceCtorEq, Nat.reduceEqDiff, List.length_nil, List.length_cons, Nat.reduceAdd, Nat.reduceLT, List.set_cons_zero, List.set_cons_succ, ↓us_lFnPowers, r_lFnPowers]
      refine m_call (sPowerOf_ok d k _) ?_
      rintro rh wh hxh hrh
      rw [ep] at hrh
      subst hrh
      simp only [↓vsd, vsn, gW, qd, qv, ev, pick, argE, List.map_cons, List.map_nil, Option.map_some, Option.map_none, zipE, List.cons_append, List.nil_append, ne_eq, eq_self, forall_const, implies_true, if_true, if_false, reduceIte, List.cons.injEq, reduceCtorEq, Nat.reduceEqDiff, List.length_nil, List.length_cons, Nat.reduceAdd, Nat.reduceLT, List.set_cons_zero, List.set_cons_succ, ↓us_lFnPowers, r_lFnPowers]
      refine m_call (sDrawIsEven_ok u more hlen.2 _ (h'.ext (hxU.trans (hxf.trans (hxg.trans hxh))))) ?_
      rintro _ wi hxi ⟨e, rfl, he10⟩
      simp only [↓vsd, vsn, gW, qd, qv, ev, pick, argE, List.map_cons, List.map_nil, Option.map_some, Option.map_none, zipE, List.cons_append, List.nil_append, ne_eq, eq_self, forall_const, implies_true, if_true, if_false, reduceIte, List.cons.injEq, reduceCtorEq, Nat.reduceEqDiff, List.length_nil, List.length_cons, Nat.reduceAdd, Nat.reduceLT, List.set_cons_zero, List.set_cons_succ, ↓us_lFnPowers, r_lFnPowers]
      obtain ⟨ex, eb, ee⟩ := evenV_two e
      refine m_call (iIsEven_ok e _) ?_
      rintro rj wj hxj hrj
      rw [ee] at hrj
      subst hrj
      simp only [↓vsd, vsn, gW, qd, qv, ev, pick, argE, List.map_cons, List.map_nil, Option.map_some, Option.map_none, zipE, List.cons_append, List.nil_append, ne_eq, eq_self, forall_const, implies_true, if_true, if_false, reduceIte, List.cons.injEq, reduceCtorEq, Nat.reduceEqDiff, List.length_nil, List.length_cons, Nat.reduceAdd, Nat.reduceLT, List.set_cons_zero, List.set_cons_succ, ↓us_lFnPowers, r_lFnPowers]
      refine m_call (sIsEven_ok e _) ?_
      rintro rk wk hxk hrk
      rw [ee] at hrk
      subst hrk
      simp only [↓vsd, vsn, gW, qd, qv, ev, pick, argE, List.map_cons, List.map_nil, Option.map_some, Option.map_none, zipE, List.cons_append, List.nil_append, ne_eq, eq_self, forall_const, implies_true, if_true, if_false, reduceIte, List.cons.injEq, reduceCtorEq, Nat.reduceEqDiff, List.length_nil, List.length_cons, Nat.reduceAdd, Nat.reduceLT, List.set_cons_zero, List.set_cons_succ, ↓us_lFnPowers, r_lFnPowers]
      exact hxU.trans (hxf.trans (hxg.trans (hxh.trans (hxi.trans (hxj.trans hxk)))))
end Go.Proofs.Ytnocgihggdgkeaa
