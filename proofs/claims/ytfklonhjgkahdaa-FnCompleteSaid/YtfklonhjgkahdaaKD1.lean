/-
  The drawing of inputs: the cursor over the code.
  Conditions: none.
-/
import Derived.Test.YtfklonhjgkahdaaKA9
set_option linter.unusedSimpArgs false
set_option linter.unusedVariables false
set_option linter.defProp false
namespace Go.Proofs.Ytfklonhjgkahdaa
open Go Go.RowKit
section
variable (P : Program) (k : KT) (e : Env) (w : World)
abbrev b79_1 : X := (.cond (.t 13) (.drw [0, 3] (.c (.q 14 [] (.mv (.t 0))) (.c (.q 15 [] (.nil (.t 14))) (.c (.q 16 [] (.fa 0 (.t 15))) (.c (.q 17 [] (.ld (.t 16))) (.c (.q 18 [] (.mv (.t 0))) (.c (.q 19 [] (.nil (.t 18))) (.c (.q 20 [] (.fa 1 (.t 19))) (.c (.q 21 [] (.ld (.t 20))) (.c (.q 22 [] (.ia 1 (.t 17) (.t 21))) (.c (.q 23 [] (.ld (.t 22))) (.c (.q 24 [] (.cvi .i64 (.t 23))) (.c (.q 3 [] (.mv (.t 24))) .nil))))))))))))) .skip)
def t79_1 := b79_1
theorem u79_1 : vcK P t79_1 k e w = vcK P b79_1 k e w := rfl
abbrev b79_2 : X := (.cond (.t 53) (.seq (.reg [2] (.c (.q 54 [] (.mv (.t 3))) (.c (.q 2 [] (.mv (.t 54))) .nil))) .ret) .skip)
def t79_2 := b79_2
theorem u79_2 : vcK P t79_2 k e w = vcK P b79_2 k e w := rfl
abbrev b79_3 : X := (.seq (.reg [2] (.c (.q 55 [] (.mv (.t 0))) (.c (.q 56 [] (.nil (.t 55))) (.c (.q 57 [] (.fa 2 (.t 56))) (.c (.q 58 [] (.ld (.t 57))) (.c (.q 59 [] (.bin .shr (.t 58) (.c (.int .u64 40)))) (.c (.q 60 [] (.bin .and (.t 59) (.c (.int .u64 255)))) (.c (.q 61 [] (.cvi .i64 (.t 60))) (.c (.q 2 [] (.mv (.t 61))) .nil))))))))) .ret)
def t79_3 := b79_3
theorem u79_3 : vcK P t79_3 k e w = vcK P b79_3 k e w := rfl
abbrev b79_4 : X := (.seq (.seq (.drw [0, 3, 53] (.c (.q 44 [] (.mv (.t 0))) (.c (.q 45 [] (.nil (.t 44))) (.c (.q 46 [] (.fa 1 (.t 45))) (.c (.q 47 [] (.ld (.t 46))) (.c (.q 48 [] (.mv (.t 0))) (.c (.q 49 [] (.nil (.t 48))) (.c (.q 50 [] (.fa 0 (.t 49))) (.c (.q 51 [] (.ld (.t 50))) (.c (.q 52 [] (.lens (.t 51))) (.c (.q 53 [] (.bin .leq (.t 47) (.t 52))) .nil))))))))))) t79_2) t79_3)
def t79_4 := b79_4
theorem u79_4 : vcK P t79_4 k e w = vcK P b79_4 k e w := rfl
abbrev b79_5 : X := (.seq (.reg [0, 3] (.c (.q 32 [] (.mv (.t 0))) (.c (.q 33 [] (.mv (.t 0))) (.c (.q 34 [] (.nil (.t 33))) (.c (.q 35 [] (.fa 2 (.t 34))) (.c (.q 36 [] (.ld (.t 35))) (.c (.q 37 [] (.bin .mul (.t 36) (.c (.int .u64 6364136223846793005)))) (.c (.q 38 [] (.mv (.t 3))) (.c (.q 39 [] (.cvi .u64 (.t 38))) (.c (.q 40 [] (.bin .add (.t 37) (.t 39))) (.c (.q 41 [] (.bin .add (.t 40) (.c (.int .u64 1442695040888963407)))) (.c (.q 42 [] (.nil (.t 32))) (.c (.q 43 [] (.fa 2 (.t 42))) (.c (.e none [] (.st 1 (.t 43) (.t 41))) .nil)))))))))))))) t79_4)
def t79_5 := b79_5
theorem u79_5 : vcK P t79_5 k e w = vcK P b79_5 k e w := rfl
abbrev b79_6 : X := (.seq (.reg [0, 3] (.c (.q 25 [] (.mv (.t 0))) (.c (.q 26 [] (.nil (.t 25))) (.c (.q 27 [] (.fa 1 (.t 26))) (.c (.q 28 [] (.ld (.t 27))) (.c (.q 29 [] (.bin .add (.t 28) (.c (.int .i64 1)))) (.c (.q 30 [] (.nil (.t 25))) (.c (.q 31 [] (.fa 1 (.t 30))) (.c (.e none [] (.st 1 (.t 31) (.t 29))) .nil))))))))) t79_5)
def t79_6 := b79_6
theorem u79_6 : vcK P t79_6 k e w = vcK P b79_6 k e w := rfl
abbrev b79_7 : X := (.seq (.seq (.drw [0, 3, 13] (.c (.q 4 [] (.mv (.t 0))) (.c (.q 5 [] (.nil (.t 4))) (.c (.q 6 [] (.fa 1 (.t 5))) (.c (.q 7 [] (.ld (.t 6))) (.c (.q 8 [] (.mv (.t 0))) (.c (.q 9 [] (.nil (.t 8))) (.c (.q 10 [] (.fa 0 (.t 9))) (.c (.q 11 [] (.ld (.t 10))) (.c (.q 12 [] (.lens (.t 11))) (.c (.q 13 [] (.bin .lss (.t 7) (.t 12))) .nil))))))))))) t79_1) t79_6)
def t79_7 := b79_7
theorem u79_7 : vcK P t79_7 k e w = vcK P b79_7 k e w := rfl
abbrev b79_8 : X := (.seq (.reg [0, 3] (.c (.q 3 [] (.mv (.c (.int .i64 0)))) .nil)) t79_7)
def t79_8 := b79_8
theorem u79_8 : vcK P t79_8 k e w = vcK P b79_8 k e w := rfl
abbrev b79_0 : X := (.seq (.reg [0] (.c (.q 2 [] (.mv (.c (.int .i64 0)))) .nil)) t79_8)
def x_sl1Cur_next := b79_0
theorem u79_0 : vcK P x_sl1Cur_next k e w = vcK P b79_0 k e w := rfl
def r_sl1Cur_next : List XO := [(.mv (.t 2))]
theorem c_sl1Cur_next : convF Try.prog [38, 39, 41, 42, 49, 54, 55, 57, 58, 59, 73, 79, 81, 84, 87, 139] Try.f79 [([0], []), ([0, 3], []), ([0, 3, 13], []), ([0, 3], []), ([0, 3], []), ([0, 3], []), ([0, 3, 53], []), ([2], []), ([2], [])] = some (x_sl1Cur_next, r_sl1Cur_next) := by kernel_rfl
def us_sl1Cur_next :=  (aI (aI (aI @u79_0 @u79_1) (aI @u79_2 @u79_3)) (aI (aI @u79_4 @u79_5) (aI @u79_6 (aI @u79_7 @u79_8))))
abbrev b39_1 : X := (.cond (.t 7) (.seq (.reg [4] (.c (.q 4 [] (.mv (.c (.int .i64 0)))) .nil)) .ret) .skip)
def t39_1 := b39_1
theorem u39_1 : vcK P t39_1 k e w = vcK P b39_1 k e w := rfl
abbrev b39_2 : X := (.cond (.t 11) (.reg [1, 5] (.c (.q 12 [] (.mv (.t 5))) (.c (.q 13 [] (.bin .mul (.t 12) (.c (.int .i64 256)))) (.c (.q 14 [] (.mv (.t 0))) (.c (.e (some 15) [] (.call true 79 [(.t 14)])) (.c (.q 16 [] (.bin .add (.t 13) (.t 15))) (.c (.q 5 [] (.mv (.t 16))) .nil))))))) .skip)
def t39_2 := b39_2
theorem u39_2 : vcK P t39_2 k e w = vcK P b39_2 k e w := rfl
abbrev b39_3 : X := (.seq (.reg [4] (.c (.q 17 [] (.mv (.t 5))) (.c (.q 18 [] (.mv (.t 1))) (.c (.q 19 [] (.bin .rem (.t 17) (.t 18))) (.c (.q 4 [] (.mv (.t 19))) .nil))))) .ret)
def t39_3 := b39_3
theorem u39_3 : vcK P t39_3 k e w = vcK P b39_3 k e w := rfl
abbrev b39_4 : X := (.seq (.seq (.reg [0, 1, 5, 11] (.c (.q 10 [] (.mv (.t 1))) (.c (.q 11 [] (.bin .gtr (.t 10) (.c (.int .i64 200)))) .nil))) t39_2) t39_3)
def t39_4 := b39_4
theorem u39_4 : vcK P t39_4 k e w = vcK P b39_4 k e w := rfl
abbrev b39_5 : X := (.seq (.reg [0, 1, 5] (.c (.q 8 [] (.mv (.t 0))) (.c (.e (some 9) [] (.call true 79 [(.t 8)])) (.c (.q 5 [] (.mv (.t 9))) .nil)))) t39_4)
def t39_5 := b39_5
theorem u39_5 : vcK P t39_5 k e w = vcK P b39_5 k e w := rfl
abbrev b39_6 : X := (.seq (.seq (.reg [0, 1, 7] (.c (.q 6 [] (.mv (.t 1))) (.c (.q 7 [] (.bin .leq (.t 6) (.c (.int .i64 1)))) .nil))) t39_1) t39_5)
def t39_6 := b39_6
theorem u39_6 : vcK P t39_6 k e w = vcK P b39_6 k e w := rfl
abbrev b39_0 : X := (.seq (.reg [0, 1] (.c (.q 4 [] (.mv (.c (.int .i64 0)))) .nil)) t39_6)
def x_sl1Cur_pick := b39_0
theorem u39_0 : vcK P x_sl1Cur_pick k e w = vcK P b39_0 k e w := rfl
def r_sl1Cur_pick : List XO := [(.mv (.t 4))]
theorem c_sl1Cur_pick : convF Try.prog [38, 39, 41, 42, 49, 54, 55, 57, 58, 59, 73, 79, 81, 84, 87, 139] Try.f39 [([0, 1], []), ([0, 1, 7], []), ([4], []), ([0, 1, 5], []), ([0, 1, 5, 11], []), ([1, 5], []), ([4], [])] = some (x_sl1Cur_pick, r_sl1Cur_pick) := by kernel_rfl
def us_sl1Cur_pick :=  (aI (aI @u39_0 (aI @u39_1 @u39_2)) (aI (aI @u39_3 @u39_4) (aI @u39_5 @u39_6)))
abbrev b38_1 : X := (.seq (.reg [4] (.c (.q 5 [] (.mv (.t 0))) (.c (.q 6 [] (.mv (.t 1))) (.c (.e (some 7) [] (.call true 39 [(.t 5), (.t 6)])) (.c (.q 8 [] (.bin .eql (.t 7) (.c (.int .i64 0)))) (.c (.q 4 [] (.mv (.t 8))) .nil)))))) .ret)
def t38_1 := b38_1
theorem u38_1 : vcK P t38_1 k e w = vcK P b38_1 k e w := rfl
abbrev b38_0 : X := (.seq (.reg [0, 1] (.c (.q 4 [] (.mv (.c (.bool false)))) .nil)) t38_1)
def x_sl1Cur_one := b38_0
theorem u38_0 : vcK P x_sl1Cur_one k e w = vcK P b38_0 k e w := rfl
def r_sl1Cur_one : List XO := [(.mv (.t 4))]
theorem c_sl1Cur_one : convF Try.prog [38, 39, 41, 42, 49, 54, 55, 57, 58, 59, 73, 79, 81, 84, 87, 139] Try.f38 [([0, 1], []), ([4], [])] = some (x_sl1Cur_one, r_sl1Cur_one) := by kernel_rfl
def us_sl1Cur_one :=  (aI @u38_0 @u38_1)
abbrev b42_1 : X := (.seq (.reg [4] (.c (.q 5 [] (.mv (.t 1))) (.c (.q 6 [] (.mv (.t 0))) (.c (.q 7 [] (.mv (.t 1))) (.c (.q 8 [] (.lens (.t 7))) (.c (.e (some 9) [] (.call true 39 [(.t 6), (.t 8)])) (.c (.q 10 [] (.ia 1 (.t 5) (.t 9))) (.c (.q 11 [] (.ld (.t 10))) (.c (.q 4 [] (.mv (.t 11))) .nil))))))))) .ret)
def t42_1 := b42_1
theorem u42_1 : vcK P t42_1 k e w = vcK P b42_1 k e w := rfl
abbrev b42_0 : X := (.seq (.reg [0, 1] (.c (.q 4 [] (.mv (.s []))) .nil)) t42_1)
def x_sl1Cur_of := b42_0
theorem u42_0 : vcK P x_sl1Cur_of k e w = vcK P b42_0 k e w := rfl
def r_sl1Cur_of : List XO := [(.mv (.t 4))]
theorem c_sl1Cur_of : convF Try.prog [38, 39, 41, 42, 49, 54, 55, 57, 58, 59, 73, 79, 81, 84, 87, 139] Try.f42 [([0, 1], []), ([4], [])] = some (x_sl1Cur_of, r_sl1Cur_of) := by kernel_rfl
def us_sl1Cur_of :=  (aI @u42_0 @u42_1)
abbrev b58_1 : X := (.seq (.reg [4] (.c (.q 5 [] (.mv (.t 1))) (.c (.q 6 [] (.mv (.t 0))) (.c (.q 7 [] (.mv (.t 1))) (.c (.q 8 [] (.lens (.t 7))) (.c (.e (some 9) [] (.call true 39 [(.t 6), (.t 8)])) (.c (.q 10 [] (.ia 1 (.t 5) (.t 9))) (.c (.q 11 [] (.ld (.t 10))) (.c (.q 4 [] (.mv (.t 11))) .nil))))))))) .ret)
def t58_1 := b58_1
theorem u58_1 : vcK P t58_1 k e w = vcK P b58_1 k e w := rfl
abbrev b58_0 : X := (.seq (.reg [0, 1] (.c (.q 4 [] (.mv (.c (.int .i64 0)))) .nil)) t58_1)
def x_sl1Cur_among := b58_0
theorem u58_0 : vcK P x_sl1Cur_among k e w = vcK P b58_0 k e w := rfl
def r_sl1Cur_among : List XO := [(.mv (.t 4))]
theorem c_sl1Cur_among : convF Try.prog [38, 39, 41, 42, 49, 54, 55, 57, 58, 59, 73, 79, 81, 84, 87, 139] Try.f58 [([0, 1], []), ([4], [])] = some (x_sl1Cur_among, r_sl1Cur_among) := by kernel_rfl
def us_sl1Cur_among :=  (aI @u58_0 @u58_1)
end
/-- A cursor's cells. -/
def fC (v : Value) (a s : Int) : List Value := [v, .int .i64 a, .int .u64 s]
theorem fCg (v : Value) (a s : Int) : (∀ u, (fC v a s).getD 0 u = v) ∧ (∀ u, (fC v a s).getD 1 u = .int .i64 a) ∧ (∀ u, (fC v a s).getD 2 u = .int .u64 s) ∧ (fC v a s).length = 3 := ⟨fun _ => rfl, fun _ => rfl, fun _ => rfl, rfl⟩
/-- Block b holds a cursor over the code, made behind W, at place n or ahead of it. -/
def Cur (W : World) (b n : Nat) (w : World) : Prop := ∃ (v : Value) (code : List UInt8) (at_ : Nat) (seed : Int), Blk w b (fC v at_ seed) 61 ∧ Sq fU 1 W v code ∧ code.length ≤ 1048576 ∧ at_ ≤ n ∧ W.heap.size ≤ b ∧ Ext W w
theorem Cur.mono {W : World} {b n m : Nat} {w : World} (h : Cur W b n w) (hm : n ≤ m) : Cur W b m w := by
  obtain ⟨v, code, a, s, hb, hq, hc, ha, hW, hx⟩ := h
  exact ⟨v, code, a, s, hb, hq, hc, by omega, hW, hx⟩
theorem Cur.ext {W : World} {b n : Nat} {w w' : World} (h : Cur W b n w) (hx' : Ext w w') : Cur W b n w' := by
  obtain ⟨v, code, a, s, hb, hq, hc, ha, hW, hx⟩ := h
  exact ⟨v, code, a, s, hb.ext hx', hq, hc, ha, hW, hx.trans hx'⟩
theorem Cur.base {W : World} {b n : Nat} {w : World} (h : Cur W b n w) : Ext W w := by
  obtain ⟨v, code, a, s, hb, hq, hc, ha, hW, hx⟩ := h
  exact hx
theorem Cur.lt {W : World} {b n : Nat} {w : World} (h : Cur W b n w) : W.heap.size ≤ b ∧ b < w.heap.size := by
  obtain ⟨v, code, a, s, hb, hq, hc, ha, hW, hx⟩ := h
  exact ⟨hW, hb.lt⟩
theorem gdr {w w' : World} {r : Option Nat} (h : w.grownBy w' r) : w.grownBy w'.drew r := ⟨h.os, h.tape, h.output, h.size, h.block⟩
theorem gud {w w' : World} {r : Option Nat} (h : w.drew.grownBy w' r) : w.grownBy w' r := ⟨h.os, h.tape, h.output, h.size, h.block⟩
theorem grown_new {w w1 w2 : World} {r r' : Option Nat} (h : w.grownBy w1 r) (h2 : w1.grownBy w2 r') (hr : ∀ b, r' = some b → w.heap.size ≤ b) : w.grownBy w2 r :=
  ⟨h2.os.trans h.os, h2.tape.trans h.tape, h2.output.trans h.output, Nat.le_trans h.size h2.size, fun i hi hne => (h2.block i (Nat.lt_of_lt_of_le hi h.size) (fun e => by have := hr i e.symm; omega)).trans (h.block i hi hne)⟩
/-- A cursor stays where another block behind it was written. -/
theorem Cur.keep {W : World} {b n : Nat} {w w' : World} {r : Option Nat} (h : Cur W b n w) (hg : w.grownBy w' r) (hr : ∀ c, r = some c → b < c) : Cur W b n w' := by
  obtain ⟨v, code, a, s, hb, hq, hc, ha, hW, hx⟩ := h
  exact ⟨v, code, a, s, hb.same (hg.block b hb.lt (fun e => by have := hr b e.symm; omega)), hq, hc, ha, hW, Below.trans hx ⟨hg.os, hg.tape, hg.output, hg.size, fun i hi => hg.block i (by have := hx.size; omega) (fun e => by have := hr i e.symm; omega)⟩⟩
theorem and_255 (a : Int) : ∃ x : Nat, bitV .and .u64 a 255 = x ∧ x < 256 := by
  have h := (BitVec.ofInt 64 a &&& BitVec.ofInt 64 255).isLt
  have h2 : (BitVec.ofInt 64 a &&& BitVec.ofInt 64 255).toNat < 256 := by
    rw [BitVec.toNat_and]
    exact Nat.lt_of_le_of_lt Nat.and_le_right (by decide)
  refine ⟨(BitVec.ofInt 64 a &&& BitVec.ofInt 64 255).toNat, ?_, h2⟩
  show IntKind.u64.wrap (((BitVec.ofInt 64 a &&& BitVec.ofInt 64 255).toNat : Nat) : Int) = _
  rw [IntKind.wrap_u64, Int.emod_eq_of_lt (by omega) (by omega)]
/-- The call of f with a cursor: the cursor has gone on, its block alone was written. -/
def CurFn (f : Nat) (args : List Value) (W : World) (b n k : Nat) (w : World) (R : Value → World → Prop) : Prop := CallsV Try.prog f args w fun r w' => Cur W b (n + k) w' ∧ w.grownBy w' (some b) ∧ R r w'
/-- The cursor's value. -/
abbrev cV (b : Nat) : Value := .pointer (some ⟨b, 0, none⟩)
theorem sl1Cur_next_ok (W : World) (b n : Nat) (w : World) (hn : n ≤ 1000000000) (hc : Cur W b n w) : CurFn 79 [cV b] W b n 1 w (fun r _ => ∃ x : Nat, r = .int .i64 x ∧ x < 256) := by
  obtain ⟨v, code, at_, seed, hb, hq, hcl, hat, hWb, hx⟩ := hc
  have hqw := hq.ext hx
  (refine callsV_of mix Try.func79 c_sl1Cur_next ?_; simp only [↓vsd, vsn, gW, qd, qv, ev, pick, argE, zipE, ne_eq, eq_self, forall_const, implies_true, if_true, if_false, reduceIte, reduceCtorEq, Nat.reduceEqDiff, Nat.reduceAdd, Nat.reduceLT, ↓us_sl1Cur_next, r_sl1Cur_next])
  by_cases hlt : at_ < code.length
  · have hltI : (at_ : Int) < code.length := by omega
    simp only [↓vsd, vsn, gW, qd, qv, ev, pick, argE, zipE, ne_eq, eq_self, forall_const, implies_true, if_true, if_false, reduceIte, reduceCtorEq, Nat.reduceEqDiff, Nat.reduceAdd, Nat.reduceLT, ↓us_sl1Cur_next, r_sl1Cur_next, hb.facts, fCg, hqw.facts, hqw.at1 0 hlt, hltI]
    refine ⟨by omega, inR_i64 (by omega), ?_⟩
    have hbd : Blk w.drew.drew b (fC v at_ seed) 61 := hb
    refine m_st hbd rfl (by decide : 1 + 1 ≤ 3) (fI_one _) ?_
    rintro w1 hb1' hu1
    have hb1 : Blk w1 b (fC v (at_ + 1 : Nat) seed) 61 := hb1'
    have hxW1 : Ext W w1 := hu1.below (dr (dr hx)) hWb
    have hq1 := hq.ext hxW1
    have hg1 : w.grownBy w1 (some b) := gud (gud hu1.grown)
    simp only [↓vsd, vsn, gW, qd, qv, ev, pick, argE, zipE, ne_eq, eq_self, forall_const, implies_true, if_true, if_false, reduceIte, reduceCtorEq, Nat.reduceEqDiff, Nat.reduceAdd, Nat.reduceLT, ↓us_sl1Cur_next, r_sl1Cur_next, hb1.facts, fCg]
    refine m_st hb1 rfl (by decide : 2 + 1 ≤ 3) (by intro u hu; simp only [cells_int, List.mem_singleton] at hu; subst hu; rfl) ?_
    rintro w2 hb2' hu2
    obtain ⟨s2, hb2⟩ : ∃ s2, Blk w2 b (fC v (at_ + 1 : Nat) s2) 61 := ⟨_, hb2'⟩
    have hxW2 : Ext W w2 := hu2.below (hxW1) hWb
    have hq2 := hq.ext hxW2
    have hg2 : w.grownBy w2 (some b) := grown_trans hg1 (hu2.grown)
    obtain ⟨y, hy, hy2⟩ := and_255 (s2.fdiv (2 ^ min (Int.toNat 40) IntKind.u64.bits))
    simp only [↓vsd, vsn, gW, qd, qv, ev, pick, argE, zipE, ne_eq, eq_self, forall_const, implies_true, if_true, if_false, reduceIte, reduceCtorEq, Nat.reduceEqDiff, Nat.reduceAdd, Nat.reduceLT, ↓us_sl1Cur_next, r_sl1Cur_next, hb2.facts, fCg, hq2.facts]
    rw [hy]
    have hcur : Cur W b (n + 1) w2.drew := ⟨v, code, at_ + 1, s2, hb2, hq, hcl, by omega, hWb, dr hxW2⟩
    refine ⟨fun _ => ⟨hcur, gdr hg2, _, rfl, (code.getD at_ 0).toNat_lt⟩, fun _ => ⟨by decide, inR_i64 (by omega), hcur, gdr hg2, y, rfl, hy2⟩⟩
  · have hltI : ¬ (at_ : Int) < code.length := by omega
    simp only [↓vsd, vsn, gW, qd, qv, ev, pick, argE, zipE, ne_eq, eq_self, forall_const, implies_true, if_true, if_false, reduceIte, reduceCtorEq, Nat.reduceEqDiff, Nat.reduceAdd, Nat.reduceLT, ↓us_sl1Cur_next, r_sl1Cur_next, hb.facts, fCg, hqw.facts, hltI]
    refine ⟨inR_i64 (by omega), ?_⟩
    have hbd : Blk w.drew b (fC v at_ seed) 61 := hb
    refine m_st hbd rfl (by decide : 1 + 1 ≤ 3) (fI_one _) ?_
    rintro w1 hb1' hu1
    have hb1 : Blk w1 b (fC v (at_ + 1 : Nat) seed) 61 := hb1'
    have hxW1 : Ext W w1 := hu1.below (dr hx) hWb
    have hq1 := hq.ext hxW1
    have hg1 : w.grownBy w1 (some b) := gud hu1.grown
    simp only [↓vsd, vsn, gW, qd, qv, ev, pick, argE, zipE, ne_eq, eq_self, forall_const, implies_true, if_true, if_false, reduceIte, reduceCtorEq, Nat.reduceEqDiff, Nat.reduceAdd, Nat.reduceLT, ↓us_sl1Cur_next, r_sl1Cur_next, hb1.facts, fCg]
    refine m_st hb1 rfl (by decide : 2 + 1 ≤ 3) (by intro u hu; simp only [cells_int, List.mem_singleton] at hu; subst hu; rfl) ?_
    rintro w2 hb2' hu2
    obtain ⟨s2, hb2⟩ : ∃ s2, Blk w2 b (fC v (at_ + 1 : Nat) s2) 61 := ⟨_, hb2'⟩
    have hxW2 : Ext W w2 := hu2.below (hxW1) hWb
    have hq2 := hq.ext hxW2
    have hg2 : w.grownBy w2 (some b) := grown_trans hg1 (hu2.grown)
    obtain ⟨y, hy, hy2⟩ := and_255 (s2.fdiv (2 ^ min (Int.toNat 40) IntKind.u64.bits))
    simp only [↓vsd, vsn, gW, qd, qv, ev, pick, argE, zipE, ne_eq, eq_self, forall_const, implies_true, if_true, if_false, reduceIte, reduceCtorEq, Nat.reduceEqDiff, Nat.reduceAdd, Nat.reduceLT, ↓us_sl1Cur_next, r_sl1Cur_next, hb2.facts, fCg, hq2.facts]
    rw [hy]
    have hcur : Cur W b (n + 1) w2.drew := ⟨v, code, at_ + 1, s2, hb2, hq, hcl, by omega, hWb, dr hxW2⟩
    refine ⟨fun _ => ⟨hcur, gdr hg2, 0, rfl, by omega⟩, fun _ => ⟨by decide, inR_i64 (by omega), hcur, gdr hg2, y, rfl, hy2⟩⟩
theorem sl1Cur_pick_ok (W : World) (b n : Nat) (m : Int) (hm : m ≤ 1000000) (w : World) (hn : n ≤ 900000000) (hc : Cur W b n w) : CurFn 39 [cV b, .int .i64 m] W b n 2 w (fun r _ => ∃ x : Nat, r = .int .i64 x ∧ (x = 0 ∨ (x : Int) < m)) := by
  (refine callsV_of mix Try.func39 c_sl1Cur_pick ?_; simp only [↓vsd, vsn, gW, qd, qv, ev, pick, argE, zipE, ne_eq, eq_self, forall_const, implies_true, if_true, if_false, reduceIte, reduceCtorEq, Nat.reduceEqDiff, Nat.reduceAdd, Nat.reduceLT, ↓us_sl1Cur_pick, r_sl1Cur_pick])
  refine ⟨fun h => ⟨hc.mono (by omega), grown_refl _ _, 0, rfl, .inl rfl⟩, fun h1 => ?_⟩
  obtain ⟨m, rfl⟩ : ∃ k : Nat, m = k := ⟨m.toNat, by omega⟩
  have hmod (x : Nat) : x % m < m := Nat.mod_lt _ (by omega)
  refine m_callw (.inl rfl) (sl1Cur_next_ok W b n w (by omega) hc) ?_
  rintro _ w1 ⟨hc1, hg1, x, rfl, hx⟩
  simp only [↓vsd, vsn, gW, qd, qv, ev, pick, argE, zipE, ne_eq, eq_self, forall_const, implies_true, if_true, if_false, reduceIte, reduceCtorEq, Nat.reduceEqDiff, Nat.reduceAdd, Nat.reduceLT, ↓us_sl1Cur_pick, r_sl1Cur_pick]
  refine ⟨fun hbig => ⟨inR_i64 (by omega), m_callw (.inr rfl) (sl1Cur_next_ok W b (n + 1) w1 (by omega) hc1) ?_⟩, fun hsm => ⟨by omega, hc1.mono (by omega), hg1, x % m, rfl, .inr (by have := hmod x; omega)⟩⟩
  rintro _ w2 ⟨hc2, hg2, y, rfl, hy⟩
  have e : (x : Int) * 256 + (y : Nat) = ((x * 256 + y : Nat) : Int) := by omega
  simp only [↓vsd, vsn, gW, qd, qv, ev, pick, argE, zipE, ne_eq, eq_self, forall_const, implies_true, if_true, if_false, reduceIte, reduceCtorEq, Nat.reduceEqDiff, Nat.reduceAdd, Nat.reduceLT, ↓us_sl1Cur_pick, r_sl1Cur_pick, e]
  exact ⟨inR_i64 (by omega), by omega, hc2, grown_trans hg1 hg2, _, rfl, .inr (by have := hmod (x * 256 + y); omega)⟩
theorem sl1Cur_one_ok (W : World) (b n : Nat) (m : Int) (hm : m ≤ 1000000) (w : World) (hn : n ≤ 900000000) (hc : Cur W b n w) : CurFn 38 [cV b, .int .i64 m] W b n 2 w (fun r _ => ∃ x : Bool, r = .bool x) := by
  (refine callsV_of mix Try.func38 c_sl1Cur_one ?_; simp only [↓vsd, vsn, gW, qd, qv, ev, pick, argE, zipE, ne_eq, eq_self, forall_const, implies_true, if_true, if_false, reduceIte, reduceCtorEq, Nat.reduceEqDiff, Nat.reduceAdd, Nat.reduceLT, ↓us_sl1Cur_one, r_sl1Cur_one])
  refine m_callw (.inl rfl) (sl1Cur_pick_ok W b n m hm w hn hc) ?_
  rintro _ w1 ⟨hc1, hg1, x, rfl, hx⟩
  simp only [↓vsd, vsn, gW, qd, qv, ev, pick, argE, zipE, ne_eq, eq_self, forall_const, implies_true, if_true, if_false, reduceIte, reduceCtorEq, Nat.reduceEqDiff, Nat.reduceAdd, Nat.reduceLT, ↓us_sl1Cur_one, r_sl1Cur_one]
  exact ⟨hc1, hg1, _, rfl⟩
theorem sl1Cur_of_ok (W : World) (b n : Nat) (v : Value) (l : List (List UInt8)) (w : World) (hn : n ≤ 900000000) (hl : 0 < l.length ∧ l.length ≤ 1000) (hc : Cur W b n w) (hv : ∀ w', w.grownBy w' (some b) → Sq fS 1 w' v l) : CurFn 42 [cV b, v] W b n 2 w (fun r _ => ∃ x, r = S x ∧ x ∈ l) := by
  (refine callsV_of mix Try.func42 c_sl1Cur_of ?_; simp only [↓vsd, vsn, gW, qd, qv, ev, pick, argE, zipE, ne_eq, eq_self, forall_const, implies_true, if_true, if_false, reduceIte, reduceCtorEq, Nat.reduceEqDiff, Nat.reduceAdd, Nat.reduceLT, ↓us_sl1Cur_of, r_sl1Cur_of])
  have h0 := hv w (grown_refl _ _)
  simp only [↓vsd, vsn, gW, qd, qv, ev, pick, argE, zipE, ne_eq, eq_self, forall_const, implies_true, if_true, if_false, reduceIte, reduceCtorEq, Nat.reduceEqDiff, Nat.reduceAdd, Nat.reduceLT, ↓us_sl1Cur_of, r_sl1Cur_of, h0.facts]
  refine m_callw (.inl rfl) (sl1Cur_pick_ok W b n l.length (by omega) w hn hc) ?_
  rintro _ w1 ⟨hc1, hg1, x, rfl, hx⟩
  have h1 := hv w1 hg1
  have hlt : x < l.length := by omega
  simp only [↓vsd, vsn, gW, qd, qv, ev, pick, argE, zipE, ne_eq, eq_self, forall_const, implies_true, if_true, if_false, reduceIte, reduceCtorEq, Nat.reduceEqDiff, Nat.reduceAdd, Nat.reduceLT, ↓us_sl1Cur_of, r_sl1Cur_of, h1.facts, h1.at1 [] hlt]
  exact ⟨by omega, hc1, hg1, _, rfl, getD_mem _ hlt⟩
theorem sl1Cur_among_ok (W : World) (b n : Nat) (v : Value) (l : List Int) (w : World) (hn : n ≤ 900000000) (hl : 0 < l.length ∧ l.length ≤ 1000) (hc : Cur W b n w) (hv : ∀ w', w.grownBy w' (some b) → Sq fI 1 w' v l) : CurFn 58 [cV b, v] W b n 2 w (fun r _ => ∃ x : Int, r = .int .i64 x ∧ x ∈ l) := by
  (refine callsV_of mix Try.func58 c_sl1Cur_among ?_; simp only [↓vsd, vsn, gW, qd, qv, ev, pick, argE, zipE, ne_eq, eq_self, forall_const, implies_true, if_true, if_false, reduceIte, reduceCtorEq, Nat.reduceEqDiff, Nat.reduceAdd, Nat.reduceLT, ↓us_sl1Cur_among, r_sl1Cur_among])
  have h0 := hv w (grown_refl _ _)
  simp only [↓vsd, vsn, gW, qd, qv, ev, pick, argE, zipE, ne_eq, eq_self, forall_const, implies_true, if_true, if_false, reduceIte, reduceCtorEq, Nat.reduceEqDiff, Nat.reduceAdd, Nat.reduceLT, ↓us_sl1Cur_among, r_sl1Cur_among, h0.facts]
  refine m_callw (.inl rfl) (sl1Cur_pick_ok W b n l.length (by omega) w hn hc) ?_
  rintro _ w1 ⟨hc1, hg1, x, rfl, hx⟩
  have h1 := hv w1 hg1
  have hlt : x < l.length := by omega
  simp only [↓vsd, vsn, gW, qd, qv, ev, pick, argE, zipE, ne_eq, eq_self, forall_const, implies_true, if_true, if_false, reduceIte, reduceCtorEq, Nat.reduceEqDiff, Nat.reduceAdd, Nat.reduceLT, ↓us_sl1Cur_among, r_sl1Cur_among, h1.facts, h1.at1 0 hlt]
  exact ⟨by omega, hc1, hg1, _, rfl, getD_mem _ hlt⟩
end Go.Proofs.Ytfklonhjgkahdaa
