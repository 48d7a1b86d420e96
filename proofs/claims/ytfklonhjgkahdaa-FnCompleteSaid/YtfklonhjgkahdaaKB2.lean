/-
  The number of true touches, of both sides.
  Conditions: none.
-/
import Derived.Test.YtfklonhjgkahdaaKA73
import Derived.Test.YtfklonhjgkahdaaKB1
set_option linter.unusedSimpArgs false
set_option linter.unusedVariables false
set_option linter.defProp false
namespace Go.Proofs.Ytfklonhjgkahdaa
open Go Go.RowKit
section
variable (P : Program) (k : KT) (e : Env) (w : World)
abbrev b60_1 : X := (.seq (.reg [6] (.c (.q 7 [] (.lda 3 (.t 3))) (.c (.q 8 [] (.lda 2 (.t 4))) (.c (.e (some 9) [] (.call false 88 [(.t 7), (.t 8)])) (.c (.q 10 [] (.mv (.t 9))) (.c (.q 11 [(10, true)] (.mv (.t 2))) (.c (.e (some 12) [(10, true)] (.call false 71 [(.t 11), (.c (.int .i64 1)), (.c (.int .i64 6))])) (.c (.q 13 [] (.pick (.t 10) (.t 12) (.c (.bool false)))) (.c (.q 6 [] (.mv (.t 13))) .nil))))))))) .ret)
def t60_1 := b60_1
theorem u60_1 : vcK P t60_1 k e w = vcK P b60_1 k e w := rfl
abbrev b60_0 : X := (.seq (.reg [2, 3, 4] (.c (.e (some 3) [] (.box 44 (.t 0))) (.c (.e (some 4) [] (.box 46 (.t 1))) (.c (.q 6 [] (.mv (.c (.bool false)))) .nil)))) t60_1)
def x_igoodSearch := b60_0
theorem u60_0 : vcK P x_igoodSearch k e w = vcK P b60_0 k e w := rfl
def r_igoodSearch : List XO := [(.mv (.t 6))]
theorem c_igoodSearch : convF Try.prog [38, 39, 41, 42, 49, 54, 55, 57, 58, 59, 73, 79, 81, 84, 87, 139] Try.f60 [([2, 3, 4], []), ([6], [])] = some (x_igoodSearch, r_igoodSearch) := by kernel_rfl
def us_igoodSearch :=  (aI @u60_0 @u60_1)
abbrev b30_1 : X := (.cond (.t 16) (.seq (.reg [6, 7] (.c (.q 6 [] (.mv (.c (.int .i64 0)))) (.c (.q 7 [] (.mv (.c (.bool false)))) .nil))) .ret) .skip)
def t30_1 := b30_1
theorem u30_1 : vcK P t30_1 k e w = vcK P b30_1 k e w := rfl
abbrev b30_2 : X := (.cond (.t 43) (.reg [2, 3, 4, 8, 18, 19, 20] (.c (.q 44 [] (.mv (.t 8))) (.c (.q 45 [] (.bin .add (.t 44) (.c (.int .i64 1)))) (.c (.q 8 [] (.mv (.t 45))) .nil)))) .skip)
def t30_2 := b30_2
theorem u30_2 : vcK P t30_2 k e w = vcK P b30_2 k e w := rfl
abbrev b30_3 : X := (.seq (.drw [2, 3, 4, 8, 18, 19, 20, 43] (.c (.q 28 [] (.mv (.t 11))) (.c (.q 29 [] (.mv (.t 2))) (.c (.q 30 [] (.ia 1 (.t 28) (.t 29))) (.c (.q 31 [] (.ld (.t 30))) (.c (.q 32 [] (.fa 1 (.t 3))) (.c (.q 33 [] (.ld (.t 32))) (.c (.e (some 34) [] (.call false 44 [(.t 33)])) (.c (.q 35 [] (.bin .eql (.t 31) (.t 34))) (.c (.q 36 [] (.mv (.t 35))) (.c (.q 37 [(36, true)] (.lda 3 (.t 3))) (.c (.q 38 [(36, true)] (.mv (.t 11))) (.c (.q 39 [(36, true)] (.mv (.t 2))) (.c (.q 40 [(36, true)] (.ssl 1 (.t 38) none (some (.t 39)))) (.c (.e (some 41) [(36, true)] (.call false 64 [(.t 37), (.t 40)])) (.c (.e (some 42) [(36, true)] (.call false 63 [(.t 41)])) (.c (.q 43 [] (.pick (.t 36) (.t 42) (.c (.bool false)))) .nil))))))))))))))))) t30_2)
def t30_3 := b30_3
theorem u30_3 : vcK P t30_3 k e w = vcK P b30_3 k e w := rfl
abbrev b30_4 : X := (.seq (.reg [2, 3, 4, 8, 11, 18, 19, 20] (.c (.q 24 [] (.lda 3 (.t 3))) (.c (.q 25 [] (.lda 2 (.t 4))) (.c (.q 26 [] (.mv (.t 10))) (.c (.e (some 27) [] (.call false 62 [(.t 24), (.t 25), (.t 26)])) (.c (.q 11 [] (.mv (.t 27))) .nil)))))) t30_3)
def t30_4 := b30_4
theorem u30_4 : vcK P t30_4 k e w = vcK P b30_4 k e w := rfl
abbrev b30_5 : X := (.reg [2, 3, 4, 8, 18, 19, 20] (.c (.q 46 [] (.bin .add (.t 20) (.c (.int .i64 1)))) (.c (.q 20 [] (.mv (.t 46))) .nil)))
def t30_5 := b30_5
theorem u30_5 : vcK P t30_5 k e w = vcK P b30_5 k e w := rfl
abbrev b30_6 : X := (.seq (.blk 1 (.seq (.reg [2, 3, 4, 8, 10, 18, 19, 20] (.c (.q 22 [] (.ia 1 (.t 18) (.t 20))) (.c (.q 23 [] (.ld (.t 22))) (.c (.q 10 [] (.mv (.t 23))) .nil)))) t30_4)) t30_5)
def t30_6 := b30_6
theorem u30_6 : vcK P t30_6 k e w = vcK P b30_6 k e w := rfl
abbrev b30_7 : X := (.seq (.cond (.t 21) .skip (.exit 0)) t30_6)
def t30_7 := b30_7
theorem u30_7 : vcK P t30_7 k e w = vcK P b30_7 k e w := rfl
abbrev b30_8 : X := (.seq (.reg [2, 3, 4, 8, 18, 19, 20, 21] (.c (.q 21 [] (.bin .lss (.t 20) (.t 19))) .nil)) t30_7)
def t30_8 := b30_8
theorem u30_8 : vcK P t30_8 k e w = vcK P b30_8 k e w := rfl
abbrev b30_9 : X := (.blk 0 (.loop [8, 20] [2, 3, 4, 18, 19] t30_8))
def t30_9 := b30_9
theorem u30_9 : vcK P t30_9 k e w = vcK P b30_9 k e w := rfl
abbrev b30_10 : X := (.seq (.reg [6, 7] (.c (.q 47 [] (.mv (.t 8))) (.c (.q 6 [] (.mv (.t 47))) (.c (.q 7 [] (.mv (.c (.bool true)))) .nil)))) .ret)
def t30_10 := b30_10
theorem u30_10 : vcK P t30_10 k e w = vcK P b30_10 k e w := rfl
abbrev b30_11 : X := (.seq (.seq (.reg [2, 3, 4, 8, 18, 19, 20] (.c (.q 17 [] (.mv (.t 2))) (.c (.e (some 18) [] (.call false 61 [(.t 17)])) (.c (.q 19 [] (.lens (.t 18))) (.c (.q 20 [] (.mv (.c (.int .i64 0)))) .nil))))) t30_9) t30_10)
def t30_11 := b30_11
theorem u30_11 : vcK P t30_11 k e w = vcK P b30_11 k e w := rfl
abbrev b30_12 : X := (.seq (.reg [2, 3, 4, 8] (.c (.q 8 [] (.mv (.c (.int .i64 0)))) .nil)) t30_11)
def t30_12 := b30_12
theorem u30_12 : vcK P t30_12 k e w = vcK P b30_12 k e w := rfl
abbrev b30_13 : X := (.seq (.seq (.reg [2, 3, 4, 16] (.c (.q 12 [] (.lda 3 (.t 3))) (.c (.q 13 [] (.lda 2 (.t 4))) (.c (.q 14 [] (.mv (.t 2))) (.c (.e (some 15) [] (.call false 60 [(.t 12), (.t 13), (.t 14)])) (.c (.q 16 [] (.not (.t 15))) .nil)))))) t30_1) t30_12)
def t30_13 := b30_13
theorem u30_13 : vcK P t30_13 k e w = vcK P b30_13 k e w := rfl
abbrev b30_0 : X := (.seq (.reg [2, 3, 4] (.c (.e (some 3) [] (.box 44 (.t 0))) (.c (.e (some 4) [] (.box 46 (.t 1))) (.c (.q 6 [] (.mv (.c (.int .i64 0)))) (.c (.q 7 [] (.mv (.c (.bool false)))) .nil))))) t30_13)
def x_iCountTrue := b30_0
theorem u30_0 : vcK P x_iCountTrue k e w = vcK P b30_0 k e w := rfl
def r_iCountTrue : List XO := [(.mv (.t 6)), (.mv (.t 7))]
theorem c_iCountTrue : convF Try.prog [38, 39, 41, 42, 49, 54, 55, 57, 58, 59, 73, 79, 81, 84, 87, 139] Try.f30 [([2, 3, 4], []), ([2, 3, 4, 16], []), ([6, 7], []), ([2, 3, 4, 8], []), ([2, 3, 4, 8, 18, 19, 20], []), ([8, 20], [2, 3, 4, 18, 19]), ([2, 3, 4, 8, 18, 19, 20, 21], []), ([2, 3, 4, 8, 10, 18, 19, 20], []), ([2, 3, 4, 8, 11, 18, 19, 20], []), ([2, 3, 4, 8, 18, 19, 20, 43], []), ([2, 3, 4, 8, 18, 19, 20], []), ([2, 3, 4, 8, 18, 19, 20], []), ([6, 7], [])] = some (x_iCountTrue, r_iCountTrue) := by kernel_rfl
def us_iCountTrue :=  (aI (aI (aI @u30_0 (aI @u30_1 @u30_2)) (aI (aI @u30_3 @u30_4) (aI @u30_5 @u30_6))) (aI (aI @u30_7 (aI @u30_8 @u30_9)) (aI (aI @u30_10 @u30_11) (aI @u30_12 @u30_13))))
abbrev b65_1 : X := (.seq (.reg [6] (.c (.q 7 [] (.lda 3 (.t 3))) (.c (.q 8 [] (.lda 2 (.t 4))) (.c (.e (some 9) [] (.call false 92 [(.t 7), (.t 8)])) (.c (.q 10 [] (.mv (.t 9))) (.c (.q 11 [(10, true)] (.mv (.t 2))) (.c (.e (some 12) [(10, true)] (.call false 45 [(.t 11), (.c (.int .i64 1)), (.c (.int .i64 6))])) (.c (.q 13 [] (.pick (.t 10) (.t 12) (.c (.bool false)))) (.c (.q 6 [] (.mv (.t 13))) .nil))))))))) .ret)
def t65_1 := b65_1
theorem u65_1 : vcK P t65_1 k e w = vcK P b65_1 k e w := rfl
abbrev b65_0 : X := (.seq (.reg [2, 3, 4] (.c (.e (some 3) [] (.box 44 (.t 0))) (.c (.e (some 4) [] (.box 46 (.t 1))) (.c (.q 6 [] (.mv (.c (.bool false)))) .nil)))) t65_1)
def x_sl13Asked := b65_0
theorem u65_0 : vcK P x_sl13Asked k e w = vcK P b65_0 k e w := rfl
def r_sl13Asked : List XO := [(.mv (.t 6))]
theorem c_sl13Asked : convF Try.prog [38, 39, 41, 42, 49, 54, 55, 57, 58, 59, 73, 79, 81, 84, 87, 139] Try.f65 [([2, 3, 4], []), ([6], [])] = some (x_sl13Asked, r_sl13Asked) := by kernel_rfl
def us_sl13Asked :=  (aI @u65_0 @u65_1)
abbrev b31_1 : X := (.cond (.t 15) (.seq (.reg [6, 7] (.c (.q 6 [] (.mv (.c (.int .i64 0)))) (.c (.q 7 [] (.mv (.c (.bool false)))) .nil))) .ret) .skip)
def t31_1 := b31_1
theorem u31_1 : vcK P t31_1 k e w = vcK P b31_1 k e w := rfl
abbrev b31_2 : X := (.cond (.t 37) (.reg [3, 4, 8, 17, 18, 19] (.c (.q 38 [] (.mv (.t 8))) (.c (.q 39 [] (.bin .add (.t 38) (.c (.int .i64 1)))) (.c (.q 8 [] (.mv (.t 39))) .nil)))) .skip)
def t31_2 := b31_2
theorem u31_2 : vcK P t31_2 k e w = vcK P b31_2 k e w := rfl
abbrev b31_3 : X := (.seq (.drw [3, 4, 8, 17, 18, 19, 37] (.c (.q 23 [] (.lda 3 (.t 3))) (.c (.q 24 [] (.lda 2 (.t 4))) (.c (.q 25 [] (.mv (.t 10))) (.c (.q 27 [] (.fa 1 (.t 3))) (.c (.q 28 [] (.ld (.t 27))) (.c (.e (some 26) [] (.call false 67 [(.t 23), (.t 24), (.t 25)])) (.c (.e (some 29) [] (.call false 68 [(.t 28)])) (.c (.q 30 [] (.bin .eql (.t 26) (.t 29))) (.c (.q 31 [] (.mv (.t 30))) (.c (.q 32 [(31, true)] (.lda 3 (.t 3))) (.c (.q 33 [(31, true)] (.lda 2 (.t 4))) (.c (.q 34 [(31, true)] (.mv (.t 10))) (.c (.e (some 35) [(31, true)] (.call false 70 [(.t 32), (.t 33), (.t 34)])) (.c (.e (some 36) [(31, true)] (.call false 69 [(.t 35)])) (.c (.q 37 [] (.pick (.t 31) (.t 36) (.c (.bool false)))) .nil)))))))))))))))) t31_2)
def t31_3 := b31_3
theorem u31_3 : vcK P t31_3 k e w = vcK P b31_3 k e w := rfl
abbrev b31_4 : X := (.reg [3, 4, 8, 17, 18, 19] (.c (.q 40 [] (.bin .add (.t 19) (.c (.int .i64 1)))) (.c (.q 19 [] (.mv (.t 40))) .nil)))
def t31_4 := b31_4
theorem u31_4 : vcK P t31_4 k e w = vcK P b31_4 k e w := rfl
abbrev b31_5 : X := (.seq (.blk 1 (.seq (.reg [3, 4, 8, 10, 17, 18, 19] (.c (.q 21 [] (.ia 1 (.t 17) (.t 19))) (.c (.q 22 [] (.ld (.t 21))) (.c (.q 10 [] (.mv (.t 22))) .nil)))) t31_3)) t31_4)
def t31_5 := b31_5
theorem u31_5 : vcK P t31_5 k e w = vcK P b31_5 k e w := rfl
abbrev b31_6 : X := (.seq (.cond (.t 20) .skip (.exit 0)) t31_5)
def t31_6 := b31_6
theorem u31_6 : vcK P t31_6 k e w = vcK P b31_6 k e w := rfl
abbrev b31_7 : X := (.seq (.reg [3, 4, 8, 17, 18, 19, 20] (.c (.q 20 [] (.bin .lss (.t 19) (.t 18))) .nil)) t31_6)
def t31_7 := b31_7
theorem u31_7 : vcK P t31_7 k e w = vcK P b31_7 k e w := rfl
abbrev b31_8 : X := (.blk 0 (.loop [8, 19] [3, 4, 17, 18] t31_7))
def t31_8 := b31_8
theorem u31_8 : vcK P t31_8 k e w = vcK P b31_8 k e w := rfl
abbrev b31_9 : X := (.seq (.reg [6, 7] (.c (.q 41 [] (.mv (.t 8))) (.c (.q 6 [] (.mv (.t 41))) (.c (.q 7 [] (.mv (.c (.bool true)))) .nil)))) .ret)
def t31_9 := b31_9
theorem u31_9 : vcK P t31_9 k e w = vcK P b31_9 k e w := rfl
abbrev b31_10 : X := (.seq (.seq (.reg [3, 4, 8, 17, 18, 19] (.c (.q 16 [] (.mv (.t 2))) (.c (.e (some 17) [] (.call false 66 [(.t 16)])) (.c (.q 18 [] (.lens (.t 17))) (.c (.q 19 [] (.mv (.c (.int .i64 0)))) .nil))))) t31_8) t31_9)
def t31_10 := b31_10
theorem u31_10 : vcK P t31_10 k e w = vcK P b31_10 k e w := rfl
abbrev b31_11 : X := (.seq (.reg [2, 3, 4, 8] (.c (.q 8 [] (.mv (.c (.int .i64 0)))) .nil)) t31_10)
def t31_11 := b31_11
theorem u31_11 : vcK P t31_11 k e w = vcK P b31_11 k e w := rfl
abbrev b31_12 : X := (.seq (.seq (.reg [2, 3, 4, 15] (.c (.q 11 [] (.lda 3 (.t 3))) (.c (.q 12 [] (.lda 2 (.t 4))) (.c (.q 13 [] (.mv (.t 2))) (.c (.e (some 14) [] (.call false 65 [(.t 11), (.t 12), (.t 13)])) (.c (.q 15 [] (.not (.t 14))) .nil)))))) t31_1) t31_11)
def t31_12 := b31_12
theorem u31_12 : vcK P t31_12 k e w = vcK P b31_12 k e w := rfl
abbrev b31_0 : X := (.seq (.reg [2, 3, 4] (.c (.e (some 3) [] (.box 44 (.t 0))) (.c (.e (some 4) [] (.box 46 (.t 1))) (.c (.q 6 [] (.mv (.c (.int .i64 0)))) (.c (.q 7 [] (.mv (.c (.bool false)))) .nil))))) t31_12)
def x_sCountTrue := b31_0
theorem u31_0 : vcK P x_sCountTrue k e w = vcK P b31_0 k e w := rfl
def r_sCountTrue : List XO := [(.mv (.t 6)), (.mv (.t 7))]
theorem c_sCountTrue : convF Try.prog [38, 39, 41, 42, 49, 54, 55, 57, 58, 59, 73, 79, 81, 84, 87, 139] Try.f31 [([2, 3, 4], []), ([2, 3, 4, 15], []), ([6, 7], []), ([2, 3, 4, 8], []), ([3, 4, 8, 17, 18, 19], []), ([8, 19], [3, 4, 17, 18]), ([3, 4, 8, 17, 18, 19, 20], []), ([3, 4, 8, 10, 17, 18, 19], []), ([3, 4, 8, 17, 18, 19, 37], []), ([3, 4, 8, 17, 18, 19], []), ([3, 4, 8, 17, 18, 19], []), ([6, 7], [])] = some (x_sCountTrue, r_sCountTrue) := by kernel_rfl
def us_sCountTrue :=  (aI (aI (aI @u31_0 (aI @u31_1 @u31_2)) (aI @u31_3 (aI @u31_4 @u31_5))) (aI (aI @u31_6 (aI @u31_7 @u31_8)) (aI (aI @u31_9 @u31_10) (aI @u31_11 @u31_12))))
end
/-- What a search asks for. -/
def SeOk (nm : Bs) (st : Int) (cs : List Bs) (b s : Bs) (n : Int) : Prop := IsMC nm st cs b s ∧ 1 ≤ n ∧ n ≤ 6
instance (nm : Bs) (st : Int) (cs : List Bs) (b s : Bs) (n : Int) : Decidable (SeOk nm st cs b s n) := by unfold SeOk; infer_instance
def ctN (st : Nat) (cs : List Bs) (b s : Bs) (n : Nat) : Nat := ((allT n).filter (goodB st cs b s n)).length
def ctV (nm : Bs) (st : Int) (cs : List Bs) (b s : Bs) (n : Int) : Value := if SeOk nm st cs b s n then .tuple ⟨[.int .i64 (ctN st.toNat cs b s n.toNat : Nat), .bool true]⟩ else .tuple ⟨[.int .i64 0, .bool false]⟩
theorem filt_take (G : Bs → Bool) {l : List Bs} {k : Nat} (hk : k < l.length) : ((l.take (k + 1)).filter G).length = ((l.take k).filter G).length + if G (l.getD k []) = true then 1 else 0 := by
  rw [take_snocB hk, List.filter_append, List.length_append, List.filter_cons]
  split <;> simp
theorem igoodSearch_ok (nm : Bs) (st : Int) (v : Value) (cs : List Bs) (b s : Bs) (n : Int) (hnm : nm.length ≤ 1048576) (hs : ∀ c ∈ cs, c.length ≤ 1048576) (hl : cs.length ≤ 1000000000) (hb : b.length ≤ 1048576 ∧ s.length ≤ 1048576) (w : World) (h : Sq fS 1 w v cs) : Fn 60 [mV nm st v, kV b s, .int .i64 n] w (fun r _ => r = .bool (decide (SeOk nm st cs b s n))) := by
  (refine callsV_of mix Try.func60 c_igoodSearch ?_; simp only [↓vsd, vsn, gW, qd, qv, ev, pick, argE, zipE, ne_eq, eq_self, forall_const, implies_true, if_true, if_false, reduceIte, reduceCtorEq, Nat.reduceEqDiff, Nat.reduceAdd, Nat.reduceLT, ↓us_igoodSearch, r_igoodSearch])
  refine m_al ?_
  rintro b1 w1 hb1 hblk1 hx1 hs1
  have h1 : Blk w1 b1 (fM nm st v) 44 := hblk1
  simp only [↓vsd, vsn, gW, qd, qv, ev, pick, argE, zipE, ne_eq, eq_self, forall_const, implies_true, if_true, if_false, reduceIte, reduceCtorEq, Nat.reduceEqDiff, Nat.reduceAdd, Nat.reduceLT, ↓us_igoodSearch, r_igoodSearch, h1.facts, fMg]
  refine m_al ?_
  rintro b2 w2 hb2 hblk2 hx2 hs2
  have h2 : Blk w2 b2 (fQ b s) 46 := hblk2
  have h12 := h1.ext hx2
  have hx12 := hx1.trans hx2
  simp only [↓vsd, vsn, gW, qd, qv, ev, pick, argE, zipE, ne_eq, eq_self, forall_const, implies_true, if_true, if_false, reduceIte, reduceCtorEq, Nat.reduceEqDiff, Nat.reduceAdd, Nat.reduceLT, ↓us_igoodSearch, r_igoodSearch, h12.facts, h2.facts, fMg, fQg]
  refine m_call (iGoodCalls_ok nm st v cs b s hnm hs hl hb _ (h.ext hx12)) ?_
  rintro _ w3 hx3 rfl
  simp only [↓vsd, vsn, gW, qd, qv, ev, pick, argE, zipE, ne_eq, eq_self, forall_const, implies_true, if_true, if_false, reduceIte, reduceCtorEq, Nat.reduceEqDiff, Nat.reduceAdd, Nat.reduceLT, ↓us_igoodSearch, r_igoodSearch]
  refine ⟨fun hm => m_call (iwithin_ok n 1 6 _) ?_, fun hm => ⟨hx12.trans hx3, by simp [SeOk, hm]⟩⟩
  rintro _ w4 hx4 rfl
  simp only [↓vsd, vsn, gW, qd, qv, ev, pick, argE, zipE, ne_eq, eq_self, forall_const, implies_true, if_true, if_false, reduceIte, reduceCtorEq, Nat.reduceEqDiff, Nat.reduceAdd, Nat.reduceLT, ↓us_igoodSearch, r_igoodSearch]
  exact ⟨(hx12.trans hx3).trans hx4, by simp [SeOk, hm]⟩
theorem sl13Asked_ok (nm : Bs) (st : Int) (v : Value) (cs : List Bs) (b s : Bs) (n : Int) (hnm : nm.length ≤ 1048576) (hs : ∀ c ∈ cs, c.length ≤ 1048576) (hl : cs.length ≤ 1000000000) (hb : b.length ≤ 1048576 ∧ s.length ≤ 1048576) (w : World) (h : Sq fS 1 w v cs) : Fn 65 [mV nm st v, kV b s, .int .i64 n] w (fun r _ => r = .bool (decide (SeOk nm st cs b s n))) := by
  (refine callsV_of mix Try.func65 c_sl13Asked ?_; simp only [↓vsd, vsn, gW, qd, qv, ev, pick, argE, zipE, ne_eq, eq_self, forall_const, implies_true, if_true, if_false, reduceIte, reduceCtorEq, Nat.reduceEqDiff, Nat.reduceAdd, Nat.reduceLT, ↓us_sl13Asked, r_sl13Asked])
  refine m_al ?_
  rintro b1 w1 hb1 hblk1 hx1 hs1
  have h1 : Blk w1 b1 (fM nm st v) 44 := hblk1
  simp only [↓vsd, vsn, gW, qd, qv, ev, pick, argE, zipE, ne_eq, eq_self, forall_const, implies_true, if_true, if_false, reduceIte, reduceCtorEq, Nat.reduceEqDiff, Nat.reduceAdd, Nat.reduceLT, ↓us_sl13Asked, r_sl13Asked, h1.facts, fMg]
  refine m_al ?_
  rintro b2 w2 hb2 hblk2 hx2 hs2
  have h2 : Blk w2 b2 (fQ b s) 46 := hblk2
  have h12 := h1.ext hx2
  have hx12 := hx1.trans hx2
  simp only [↓vsd, vsn, gW, qd, qv, ev, pick, argE, zipE, ne_eq, eq_self, forall_const, implies_true, if_true, if_false, reduceIte, reduceCtorEq, Nat.reduceEqDiff, Nat.reduceAdd, Nat.reduceLT, ↓us_sl13Asked, r_sl13Asked, h12.facts, h2.facts, fMg, fQg]
  refine m_call (sl8Good_ok nm st v cs b s hnm hs hl hb _ (h.ext hx12)) ?_
  rintro _ w3 hx3 rfl
  simp only [↓vsd, vsn, gW, qd, qv, ev, pick, argE, zipE, ne_eq, eq_self, forall_const, implies_true, if_true, if_false, reduceIte, reduceCtorEq, Nat.reduceEqDiff, Nat.reduceAdd, Nat.reduceLT, ↓us_sl13Asked, r_sl13Asked]
  refine ⟨fun hm => m_call (sl1In_ok n 1 6 _) ?_, fun hm => ⟨hx12.trans hx3, by simp [SeOk, hm]⟩⟩
  rintro _ w4 hx4 rfl
  simp only [↓vsd, vsn, gW, qd, qv, ev, pick, argE, zipE, ne_eq, eq_self, forall_const, implies_true, if_true, if_false, reduceIte, reduceCtorEq, Nat.reduceEqDiff, Nat.reduceAdd, Nat.reduceLT, ↓us_sl13Asked, r_sl13Asked]
  exact ⟨(hx12.trans hx3).trans hx4, by simp [SeOk, hm]⟩
theorem iCountTrue_ok (nm : Bs) (st : Int) (v : Value) (cs : List Bs) (b s : Bs) (n : Int) (hnm : nm.length ≤ 1048576) (hs : ∀ c ∈ cs, c.length ≤ 1048576) (hl : cs.length ≤ 1000000000) (hb : b.length ≤ 1048576 ∧ s.length ≤ 1048576) (w : World) (h : Sq fS 1 w v cs) : Fn 30 [mV nm st v, kV b s, .int .i64 n] w (fun r _ => r = ctV nm st cs b s n) := by
  (refine callsV_of mix Try.func30 c_iCountTrue ?_; simp only [↓vsd, vsn, gW, qd, qv, ev, pick, argE, zipE, ne_eq, eq_self, forall_const, implies_true, if_true, if_false, reduceIte, reduceCtorEq, Nat.reduceEqDiff, Nat.reduceAdd, Nat.reduceLT, ↓us_iCountTrue, r_iCountTrue])
  refine m_al ?_
  rintro b1 w1 hb1 hblk1 hx1 hs1
  have h1 : Blk w1 b1 (fM nm st v) 44 := hblk1
  simp only [↓vsd, vsn, gW, qd, qv, ev, pick, argE, zipE, ne_eq, eq_self, forall_const, implies_true, if_true, if_false, reduceIte, reduceCtorEq, Nat.reduceEqDiff, Nat.reduceAdd, Nat.reduceLT, ↓us_iCountTrue, r_iCountTrue, h1.facts, fMg]
  refine m_al ?_
  rintro b2 w2 hb2 hblk2 hx2 hs2
  have h2 : Blk w2 b2 (fQ b s) 46 := hblk2
  have h12 := h1.ext hx2
  have hx12 := hx1.trans hx2
  simp only [↓vsd, vsn, gW, qd, qv, ev, pick, argE, zipE, ne_eq, eq_self, forall_const, implies_true, if_true, if_false, reduceIte, reduceCtorEq, Nat.reduceEqDiff, Nat.reduceAdd, Nat.reduceLT, ↓us_iCountTrue, r_iCountTrue, h12.facts, h2.facts, fMg, fQg]
  refine m_call (igoodSearch_ok nm st v cs b s n hnm hs hl hb _ (h.ext hx12)) ?_
  rintro _ w3 hx3 rfl
  have hx03 := hx12.trans hx3
  by_cases hS : SeOk nm st cs b s n
  · obtain ⟨N, rfl⟩ : ∃ N : Nat, n = N := ⟨n.toNat, by have := hS.2.1; omega⟩
    obtain ⟨St, rfl⟩ : ∃ N : Nat, st = N := ⟨st.toNat, by have := hS.1.1.2.1; omega⟩
    have hN := hS.2
    have hN6 : N ≤ 6 := by omega
    have hst := hS.1.1.2.1
    have hcl := hS.1.1.2.2.1
    simp only [↓vsd, vsn, gW, qd, qv, ev, pick, argE, zipE, ne_eq, eq_self, forall_const, implies_true, if_true, if_false, reduceIte, reduceCtorEq, Nat.reduceEqDiff, Nat.reduceAdd, Nat.reduceLT, ↓us_iCountTrue, r_iCountTrue, hS]
    refine m_call (iallTouches_ok N (by omega) _) ?_
    rintro x w4 hx4 ho4
    have hsm := allT_small (n := N) (by omega)
    have hx04 := hx03.trans hx4
    have h14 := (h12.ext hx3).ext hx4
    have h24 := (h2.ext hx3).ext hx4
    simp only [↓vsd, vsn, gW, qd, qv, ev, pick, argE, zipE, ne_eq, eq_self, forall_const, implies_true, if_true, if_false, reduceIte, reduceCtorEq, Nat.reduceEqDiff, Nat.reduceAdd, Nat.reduceLT, ↓us_iCountTrue, r_iCountTrue, ho4.sq.facts]
    refine m_upto (allT N).length (fun k vs w' => vs = [.int .i64 ((((allT N).take k).filter (goodB St cs b s N)).length : Nat), .int .i64 k] ∧ Ext w4 w') ⟨rfl, Ext.refl _⟩ ?_
    rintro k vs w5 hk ⟨rfl, hx5⟩
    have hq5 := ho4.sq.ext hx5
    have h15 := h14.ext hx5
    have h25 := h24.ext hx5
    have hfl : (((allT N).take k).filter (goodB St cs b s N)).length ≤ 729 := Nat.le_trans (List.length_filter_le _ _) (by rw [List.length_take]; omega)
    by_cases hlt : k < (allT N).length
    · have hltI : (k : Int) < (allT N).length := by omega
      have hltJ : ¬ ((allT N).length : Int) ≤ k := by omega
      have a5 := hq5.at1 [] hlt
      have htk := allT_str (getD_mem [] hlt)
      have hft := filt_take (goodB St cs b s N) hlt
      generalize (allT N).getD k [] = t at *
      have hcall : t.length ≤ 60 ∧ ∀ c ∈ t, IsCall [c] := ⟨by omega, htk.2⟩
      simp only [↓vsd, vsn, gW, qd, qv, ev, pick, argE, zipE, ne_eq, eq_self, forall_const, implies_true, if_true, if_false, reduceIte, reduceCtorEq, Nat.reduceEqDiff, Nat.reduceAdd, Nat.reduceLT, ↓us_iCountTrue, r_iCountTrue, hltI, hltJ, hq5.facts, a5, h15.facts, h25.facts, fMg, fQg]
      refine ⟨by omega, m_call (iheads_ok nm St v cs b s t hS.1 hcall _ (h.ext (hx04.trans hx5))) ?_⟩
      rintro y w6 hx6 ho6
      have h16 := h15.ext hx6
      have h26 := h25.ext hx6
      rw [htk.1] at ho6
      have hq6 := ho6.sq
      have a6 := hq6.at1 [] (i := N) (by rw [headsP_len]; omega)
      rw [headsP_get _ _ _ _ _ _ _ (Nat.lt_succ_self N)] at a6
      simp only [↓vsd, vsn, gW, qd, qv, ev, pick, argE, zipE, ne_eq, eq_self, forall_const, implies_true, if_true, if_false, reduceIte, reduceCtorEq, Nat.reduceEqDiff, Nat.reduceAdd, Nat.reduceLT, ↓us_iCountTrue, r_iCountTrue, hq6.facts, headsP_len, a6, h16.facts, fMg]
      refine ⟨⟨by omega, by omega⟩, m_call (irounds_ok St (by omega) _) ?_⟩
      rintro _ w7 hx7 rfl
      have hx7 : Ext w6 w7 := by first | exact hx7 | exact ud hx7 | exact ud (ud hx7)
      have hx57 := hx6.trans hx7
      have h17 := h16.ext hx7
      have hx47 := hx5.trans hx57
      by_cases he : headP St cs b s t N = roundsL St
      · obtain ⟨hd, hoh, _⟩ := ho6.head .i64 N (by rw [headsP_len]; omega)
        rw [headsP_take] at hoh
        have hcond : goodB St cs b s N t = decide (leadsL cs (headsP St cs b s t N)).Nodup := by rw [goodB, he]; simp
        have hmul : (leadsL cs (headsP St cs b s t N)).length ≤ 240 := by
          rw [leadsL_len, headsP_len]
          exact Nat.le_trans (Nat.mul_le_mul hN6 hcl.2) (by decide)
        simp only [↓vsd, vsn, gW, qd, qv, ev, pick, argE, zipE, ne_eq, eq_self, forall_const, implies_true, if_true, if_false, reduceIte, reduceCtorEq, Nat.reduceEqDiff, Nat.reduceAdd, Nat.reduceLT, ↓us_iCountTrue, r_iCountTrue, he, hd, h16.facts, fMg]
        refine m_call (ileadsFrom_ok nm St v _ cs _ hS.1.1 (headsP_rows hS.1 t N) (by rw [headsP_len]; omega) _ (by first | exact h.ext ((hx04.trans hx5).trans hx57) | exact (h.ext ((hx04.trans hx5).trans hx57)).ext (dr (Ext.refl _))) (by first | exact hoh.sq.ext hx7 | exact (hoh.sq.ext hx7).ext (dr (Ext.refl _)))) ?_
        rintro z w8 hx8 ho8
        have hx8 : Ext w7 w8 := by first | exact hx8 | exact ud hx8 | exact ud (ud hx8)
        simp only [↓vsd, vsn, gW, qd, qv, ev, pick, argE, zipE, ne_eq, eq_self, forall_const, implies_true, if_true, if_false, reduceIte, reduceCtorEq, Nat.reduceEqDiff, Nat.reduceAdd, Nat.reduceLT, ↓us_iCountTrue, r_iCountTrue]
        refine m_call (iisTrue_ok z (leadsL cs (headsP St cs b s t N)) (by omega) _ (by first | exact ho8.sq | exact ho8.sq.ext (dr (Ext.refl _)))) ?_
        rintro _ w9 hx9 rfl
        have hx9 : Ext w8 w9 := by first | exact hx9 | exact ud hx9 | exact ud (ud hx9)
        have hx49 := (hx47.trans hx8).trans hx9
        rw [← hcond]
        by_cases hg : goodB St cs b s N t = true
        · rw [if_pos hg] at hft
          have ef : ((((allT N).take k).filter (goodB St cs b s N)).length : Int) + 1 = ((((allT N).take (k + 1)).filter (goodB St cs b s N)).length : Nat) := by omega
          simp only [↓vsd, vsn, gW, qd, qv, ev, pick, argE, zipE, ne_eq, eq_self, forall_const, implies_true, if_true, if_false, reduceIte, reduceCtorEq, Nat.reduceEqDiff, Nat.reduceAdd, Nat.reduceLT, ↓us_iCountTrue, r_iCountTrue, hg, ef]
          exact ⟨inR_i64 (by omega), inR_i64 (by omega), UpTo.next hlt ⟨rfl, hx49⟩⟩
        · rw [if_neg hg] at hft
          rw [Bool.not_eq_true] at hg
          rw [Nat.add_zero] at hft
          simp only [↓vsd, vsn, gW, qd, qv, ev, pick, argE, zipE, ne_eq, eq_self, forall_const, implies_true, if_true, if_false, reduceIte, reduceCtorEq, Nat.reduceEqDiff, Nat.reduceAdd, Nat.reduceLT, ↓us_iCountTrue, r_iCountTrue, hg]
          exact ⟨inR_i64 (by omega), UpTo.next hlt ⟨by rw [hft]; rfl, hx49⟩⟩
      · have hcond : goodB St cs b s N t = false := by rw [goodB, decide_eq_false he]; rfl
        rw [hcond, if_neg (by decide), Nat.add_zero] at hft
        simp only [↓vsd, vsn, gW, qd, qv, ev, pick, argE, zipE, ne_eq, eq_self, forall_const, implies_true, if_true, if_false, reduceIte, reduceCtorEq, Nat.reduceEqDiff, Nat.reduceAdd, Nat.reduceLT, ↓us_iCountTrue, r_iCountTrue, he]
        exact ⟨inR_i64 (by omega), UpTo.next hlt ⟨by rw [hft]; rfl, hx47⟩⟩
    · obtain rfl : k = (allT N).length := by omega
      have hltI : ¬ (((allT N).length : Nat) : Int) < (allT N).length := by omega
      simp only [↓vsd, vsn, gW, qd, qv, ev, pick, argE, zipE, ne_eq, eq_self, forall_const, implies_true, if_true, if_false, reduceIte, reduceCtorEq, Nat.reduceEqDiff, Nat.reduceAdd, Nat.reduceLT, ↓us_iCountTrue, r_iCountTrue, hltI]
      exact ⟨hx04.trans hx5, by rw [ctV, if_pos hS, ctN, List.take_length]; rfl⟩
  · simp only [↓vsd, vsn, gW, qd, qv, ev, pick, argE, zipE, ne_eq, eq_self, forall_const, implies_true, if_true, if_false, reduceIte, reduceCtorEq, Nat.reduceEqDiff, Nat.reduceAdd, Nat.reduceLT, ↓us_iCountTrue, r_iCountTrue, hS]
    exact ⟨hx03, by rw [ctV, if_neg hS]⟩
theorem sCountTrue_ok (nm : Bs) (st : Int) (v : Value) (cs : List Bs) (b s : Bs) (n : Int) (hnm : nm.length ≤ 1048576) (hs : ∀ c ∈ cs, c.length ≤ 1048576) (hl : cs.length ≤ 1000000000) (hb : b.length ≤ 1048576 ∧ s.length ≤ 1048576) (w : World) (h : Sq fS 1 w v cs) : Fn 31 [mV nm st v, kV b s, .int .i64 n] w (fun r _ => r = ctV nm st cs b s n) := by
  (refine callsV_of mix Try.func31 c_sCountTrue ?_; simp only [↓vsd, vsn, gW, qd, qv, ev, pick, argE, zipE, ne_eq, eq_self, forall_const, implies_true, if_true, if_false, reduceIte, reduceCtorEq, Nat.reduceEqDiff, Nat.reduceAdd, Nat.reduceLT, ↓us_sCountTrue, r_sCountTrue])
  refine m_al ?_
  rintro b1 w1 hb1 hblk1 hx1 hs1
  have h1 : Blk w1 b1 (fM nm st v) 44 := hblk1
  simp only [↓vsd, vsn, gW, qd, qv, ev, pick, argE, zipE, ne_eq, eq_self, forall_const, implies_true, if_true, if_false, reduceIte, reduceCtorEq, Nat.reduceEqDiff, Nat.reduceAdd, Nat.reduceLT, ↓us_sCountTrue, r_sCountTrue, h1.facts, fMg]
  refine m_al ?_
  rintro b2 w2 hb2 hblk2 hx2 hs2
  have h2 : Blk w2 b2 (fQ b s) 46 := hblk2
  have h12 := h1.ext hx2
  have hx12 := hx1.trans hx2
  simp only [↓vsd, vsn, gW, qd, qv, ev, pick, argE, zipE, ne_eq, eq_self, forall_const, implies_true, if_true, if_false, reduceIte, reduceCtorEq, Nat.reduceEqDiff, Nat.reduceAdd, Nat.reduceLT, ↓us_sCountTrue, r_sCountTrue, h12.facts, h2.facts, fMg, fQg]
  refine m_call (sl13Asked_ok nm st v cs b s n hnm hs hl hb _ (h.ext hx12)) ?_
  rintro _ w3 hx3 rfl
  have hx03 := hx12.trans hx3
  by_cases hS : SeOk nm st cs b s n
  · obtain ⟨N, rfl⟩ : ∃ N : Nat, n = N := ⟨n.toNat, by have := hS.2.1; omega⟩
    obtain ⟨St, rfl⟩ : ∃ N : Nat, st = N := ⟨st.toNat, by have := hS.1.1.2.1; omega⟩
    have hN := hS.2
    have hN6 : N ≤ 6 := by omega
    have hst := hS.1.1.2.1
    have hcl := hS.1.1.2.2.1
    simp only [↓vsd, vsn, gW, qd, qv, ev, pick, argE, zipE, ne_eq, eq_self, forall_const, implies_true, if_true, if_false, reduceIte, reduceCtorEq, Nat.reduceEqDiff, Nat.reduceAdd, Nat.reduceLT, ↓us_sCountTrue, r_sCountTrue, hS]
    refine m_call (sl13All_ok N (by omega) _) ?_
    rintro x w4 hx4 ho4
    have hsm := allT_small (n := N) (by omega)
    have hx04 := hx03.trans hx4
    have h14 := (h12.ext hx3).ext hx4
    have h24 := (h2.ext hx3).ext hx4
    simp only [↓vsd, vsn, gW, qd, qv, ev, pick, argE, zipE, ne_eq, eq_self, forall_const, implies_true, if_true, if_false, reduceIte, reduceCtorEq, Nat.reduceEqDiff, Nat.reduceAdd, Nat.reduceLT, ↓us_sCountTrue, r_sCountTrue, ho4.sq.facts]
    refine m_upto (allT N).length (fun k vs w' => vs = [.int .i64 ((((allT N).take k).filter (goodB St cs b s N)).length : Nat), .int .i64 k] ∧ Ext w4 w') ⟨rfl, Ext.refl _⟩ ?_
    rintro k vs w5 hk ⟨rfl, hx5⟩
    have hq5 := ho4.sq.ext hx5
    have h15 := h14.ext hx5
    have h25 := h24.ext hx5
    have hfl : (((allT N).take k).filter (goodB St cs b s N)).length ≤ 729 := Nat.le_trans (List.length_filter_le _ _) (by rw [List.length_take]; omega)
    by_cases hlt : k < (allT N).length
    · have hltI : (k : Int) < (allT N).length := by omega
      have hltJ : ¬ ((allT N).length : Int) ≤ k := by omega
      have a5 := hq5.at1 [] hlt
      have htk := allT_str (getD_mem [] hlt)
      have hft := filt_take (goodB St cs b s N) hlt
      generalize (allT N).getD k [] = t at *
      have hMT : IsMT nm St cs b s t := ⟨hS.1, ⟨by omega, by omega⟩, htk.2⟩
      simp only [↓vsd, vsn, gW, qd, qv, ev, pick, argE, zipE, ne_eq, eq_self, forall_const, implies_true, if_true, if_false, reduceIte, reduceCtorEq, Nat.reduceEqDiff, Nat.reduceAdd, Nat.reduceLT, ↓us_sCountTrue, r_sCountTrue, hltI, hltJ, hq5.facts, a5, h15.facts, h25.facts, fMg, fQg]
      refine ⟨by omega, m_call (sl9End_ok nm St v cs b s t hMT _ (by first | exact h.ext (hx04.trans hx5) | exact (h.ext (hx04.trans hx5)).ext (dr (Ext.refl _)))) ?_⟩
      rintro _ w6 hx6 rfl
      have hx6 : Ext w5 w6 := by first | exact hx6 | exact ud hx6 | exact ud (ud hx6)
      have h16 := h15.ext hx6
      have h26 := h25.ext hx6
      rw [htk.1]
      simp only [↓vsd, vsn, gW, qd, qv, ev, pick, argE, zipE, ne_eq, eq_self, forall_const, implies_true, if_true, if_false, reduceIte, reduceCtorEq, Nat.reduceEqDiff, Nat.reduceAdd, Nat.reduceLT, ↓us_sCountTrue, r_sCountTrue, h16.facts, h26.facts, fMg, fQg]
      refine m_call (sl1Rounds_ok St (by omega) _) ?_
      rintro _ w7 hx7 rfl
      have hx7 : Ext w6 w7 := by first | exact hx7 | exact ud hx7 | exact ud (ud hx7)
      have hx57 := hx6.trans hx7
      have h17 := h16.ext hx7
      have h27 := h26.ext hx7
      have hx47 := hx5.trans hx57
      by_cases he : headP St cs b s t N = roundsL St
      · have hcond : goodB St cs b s N t = decide (leadsL cs (headsP St cs b s t N)).Nodup := by rw [goodB, he]; simp
        have hmul : (leadsL cs (headsP St cs b s t N)).length ≤ 240 := by
          rw [leadsL_len, headsP_len]
          exact Nat.le_trans (Nat.mul_le_mul hN6 hcl.2) (by decide)
        simp only [↓vsd, vsn, gW, qd, qv, ev, pick, argE, zipE, ne_eq, eq_self, forall_const, implies_true, if_true, if_false, reduceIte, reduceCtorEq, Nat.reduceEqDiff, Nat.reduceAdd, Nat.reduceLT, ↓us_sCountTrue, r_sCountTrue, he, h15.facts, h25.facts, h16.facts, h26.facts, h17.facts, h27.facts, fMg, fQg]
        refine m_call (sl9Rows_ok nm St v cs b s t hMT _ (by first | exact h.ext ((hx04.trans hx5).trans hx57) | exact (h.ext ((hx04.trans hx5).trans hx57)).ext (dr (Ext.refl _)))) ?_
        rintro z w8 hx8 ho8
        have hx8 : Ext w7 w8 := by first | exact hx8 | exact ud hx8 | exact ud (ud hx8)
        rw [rowsT, htk.1] at ho8
        simp only [↓vsd, vsn, gW, qd, qv, ev, pick, argE, zipE, ne_eq, eq_self, forall_const, implies_true, if_true, if_false, reduceIte, reduceCtorEq, Nat.reduceEqDiff, Nat.reduceAdd, Nat.reduceLT, ↓us_sCountTrue, r_sCountTrue]
        refine m_call (sl7True_ok z (leadsL cs (headsP St cs b s t N)) (by omega) _ (by first | exact ho8.sq | exact ho8.sq.ext (dr (Ext.refl _)))) ?_
        rintro _ w9 hx9 rfl
        have hx9 : Ext w8 w9 := by first | exact hx9 | exact ud hx9 | exact ud (ud hx9)
        have hx49 := (hx47.trans hx8).trans hx9
        rw [← hcond]
        by_cases hg : goodB St cs b s N t = true
        · rw [if_pos hg] at hft
          have ef : ((((allT N).take k).filter (goodB St cs b s N)).length : Int) + 1 = ((((allT N).take (k + 1)).filter (goodB St cs b s N)).length : Nat) := by omega
          simp only [↓vsd, vsn, gW, qd, qv, ev, pick, argE, zipE, ne_eq, eq_self, forall_const, implies_true, if_true, if_false, reduceIte, reduceCtorEq, Nat.reduceEqDiff, Nat.reduceAdd, Nat.reduceLT, ↓us_sCountTrue, r_sCountTrue, hg, ef]
          exact ⟨inR_i64 (by omega), inR_i64 (by omega), UpTo.next hlt ⟨rfl, hx49⟩⟩
        · rw [if_neg hg] at hft
          rw [Bool.not_eq_true] at hg
          rw [Nat.add_zero] at hft
          simp only [↓vsd, vsn, gW, qd, qv, ev, pick, argE, zipE, ne_eq, eq_self, forall_const, implies_true, if_true, if_false, reduceIte, reduceCtorEq, Nat.reduceEqDiff, Nat.reduceAdd, Nat.reduceLT, ↓us_sCountTrue, r_sCountTrue, hg]
          exact ⟨inR_i64 (by omega), UpTo.next hlt ⟨by rw [hft]; rfl, hx49⟩⟩
      · have hcond : goodB St cs b s N t = false := by rw [goodB, decide_eq_false he]; rfl
        rw [hcond, if_neg (by decide), Nat.add_zero] at hft
        simp only [↓vsd, vsn, gW, qd, qv, ev, pick, argE, zipE, ne_eq, eq_self, forall_const, implies_true, if_true, if_false, reduceIte, reduceCtorEq, Nat.reduceEqDiff, Nat.reduceAdd, Nat.reduceLT, ↓us_sCountTrue, r_sCountTrue, he]
        exact ⟨inR_i64 (by omega), UpTo.next hlt ⟨by rw [hft]; rfl, hx47⟩⟩
    · obtain rfl : k = (allT N).length := by omega
      have hltI : ¬ (((allT N).length : Nat) : Int) < (allT N).length := by omega
      simp only [↓vsd, vsn, gW, qd, qv, ev, pick, argE, zipE, ne_eq, eq_self, forall_const, implies_true, if_true, if_false, reduceIte, reduceCtorEq, Nat.reduceEqDiff, Nat.reduceAdd, Nat.reduceLT, ↓us_sCountTrue, r_sCountTrue, hltI]
      exact ⟨hx04.trans hx5, by rw [ctV, if_pos hS, ctN, List.take_length]; rfl⟩
  · simp only [↓vsd, vsn, gW, qd, qv, ev, pick, argE, zipE, ne_eq, eq_self, forall_const, implies_true, if_true, if_false, reduceIte, reduceCtorEq, Nat.reduceEqDiff, Nat.reduceAdd, Nat.reduceLT, ↓us_sCountTrue, r_sCountTrue, hS]
    exact ⟨hx03, by rw [ctV, if_neg hS]⟩
end Go.Proofs.Ytfklonhjgkahdaa
