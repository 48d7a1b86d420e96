/-
  The layers between two rows, of both sides.
  Conditions: none.
-/
import Derived.Test.YtnhealghpfjdcaaA57
import Derived.Test.YtnhealghpfjdcaaA40
import Derived.Test.YtnhealghpfjdcaaA12
set_option linter.unusedSimpArgs false
set_option linter.unusedVariables false
set_option linter.defProp false
namespace Go.Proofs.Ytnhealghpfjdcaa
open Go Go.RowKit
section
variable (P : Program) (k : KT) (e : Env) (w : World)
abbrev b73_1 : X := (.cond (.t 27) .skip (.exit 0))
def t73_1 := b73_1
theorem u73_1 : vcK P t73_1 k e w = vcK P b73_1 k e w := rfl
abbrev b73_2 : X := (.cond (.t 39) (.seq (.reg [8, 9] (.c (.q 8 [] (.mv (.c (.slice none 0 0)))) (.c (.q 9 [] (.mv (.c (.bool false)))) .nil))) .ret) .skip)
def t73_2 := b73_2
theorem u73_2 : vcK P t73_2 k e w = vcK P b73_2 k e w := rfl
abbrev b73_3 : X := (.cond (.t 50) (.seq (.reg [8, 9] (.c (.q 51 [] (.mv (.t 12))) (.c (.q 8 [] (.mv (.t 51))) (.c (.q 9 [] (.mv (.c (.bool true)))) .nil)))) .ret) .skip)
def t73_3 := b73_3
theorem u73_3 : vcK P t73_3 k e w = vcK P b73_3 k e w := rfl
abbrev b73_4 : X := (.seq (.reg [3, 10, 11, 12, 13, 50] (.c (.q 48 [] (.mv (.t 15))) (.c (.q 49 [] (.mv (.t 3))) (.c (.e (some 50) [] (.call false 91 [(.t 48), (.t 49)])) .nil)))) t73_3)
def t73_4 := b73_4
theorem u73_4 : vcK P t73_4 k e w = vcK P b73_4 k e w := rfl
abbrev b73_5 : X := (.seq (.reg [3, 10, 11, 12, 13, 15] (.c (.q 44 [] (.mv (.t 12))) (.c (.q 45 [] (.mv (.t 15))) (.c (.e (some 46) [] (.bsl 22 1 [(.t 45)])) (.c (.e (some 47) [] (.app 44 22 1 24 [(.slice none 0 0)] 44 (.t 44) (.t 46))) (.c (.q 12 [] (.mv (.t 47))) .nil)))))) t73_4)
def t73_5 := b73_5
theorem u73_5 : vcK P t73_5 k e w = vcK P b73_5 k e w := rfl
abbrev b73_6 : X := (.seq (.reg [3, 10, 11, 12, 13, 15] (.c (.q 40 [] (.mv (.t 10))) (.c (.q 41 [] (.mv (.t 14))) (.c (.q 42 [] (.mv (.t 11))) (.c (.e (some 43) [] (.call true 89 [(.t 40), (.t 41), (.t 42)])) (.c (.q 15 [] (.mv (.t 43))) .nil)))))) t73_5)
def t73_6 := b73_6
theorem u73_6 : vcK P t73_6 k e w = vcK P b73_6 k e w := rfl
abbrev b73_7 : X := (.seq (.seq (.reg [3, 10, 11, 12, 13, 14, 39] (.c (.q 38 [] (.mv (.t 13))) (.c (.q 39 [] (.bin .gtr (.t 38) (.c (.int .i64 800)))) .nil))) t73_2) t73_6)
def t73_7 := b73_7
theorem u73_7 : vcK P t73_7 k e w = vcK P b73_7 k e w := rfl
abbrev b73_8 : X := (.seq (.reg [3, 10, 11, 12, 13, 14] (.c (.q 34 [] (.mv (.t 13))) (.c (.q 35 [] (.mv (.t 14))) (.c (.q 36 [] (.lens (.t 35))) (.c (.q 37 [] (.bin .add (.t 34) (.t 36))) (.c (.q 13 [] (.mv (.t 37))) .nil)))))) t73_7)
def t73_8 := b73_8
theorem u73_8 : vcK P t73_8 k e w = vcK P b73_8 k e w := rfl
abbrev b73_9 : X := (.blk 1 (.seq (.reg [3, 10, 11, 12, 13, 14] (.c (.q 28 [] (.mv (.t 12))) (.c (.q 29 [] (.mv (.t 12))) (.c (.q 30 [] (.lens (.t 29))) (.c (.q 31 [] (.bin .sub (.t 30) (.c (.int .i64 1)))) (.c (.q 32 [] (.ia 1 (.t 28) (.t 31))) (.c (.q 33 [] (.ld (.t 32))) (.c (.q 14 [] (.mv (.t 33))) .nil)))))))) t73_8))
def t73_9 := b73_9
theorem u73_9 : vcK P t73_9 k e w = vcK P b73_9 k e w := rfl
abbrev b73_10 : X := (.seq (.seq (.reg [3, 10, 11, 12, 13, 27] (.c (.q 25 [] (.mv (.t 12))) (.c (.q 26 [] (.lens (.t 25))) (.c (.q 27 [] (.bin .leq (.t 26) (.c (.int .i64 8)))) .nil)))) t73_1) t73_9)
def t73_10 := b73_10
theorem u73_10 : vcK P t73_10 k e w = vcK P b73_10 k e w := rfl
abbrev b73_11 : X := (.seq (.reg [8, 9] (.c (.q 8 [] (.mv (.c (.slice none 0 0)))) (.c (.q 9 [] (.mv (.c (.bool false)))) .nil))) .ret)
def t73_11 := b73_11
theorem u73_11 : vcK P t73_11 k e w = vcK P b73_11 k e w := rfl
abbrev b73_12 : X := (.seq (.blk 0 (.loop [12, 13] [3, 10, 11] t73_10)) t73_11)
def t73_12 := b73_12
theorem u73_12 : vcK P t73_12 k e w = vcK P b73_12 k e w := rfl
abbrev b73_13 : X := (.seq (.reg [3, 10, 11, 12, 13] (.c (.q 13 [] (.mv (.c (.int .i64 0)))) .nil)) t73_12)
def t73_13 := b73_13
theorem u73_13 : vcK P t73_13 k e w = vcK P b73_13 k e w := rfl
abbrev b73_14 : X := (.seq (.reg [3, 10, 11, 12] (.c (.q 22 [] (.mv (.t 2))) (.c (.e (some 23) [] (.bsl 9 1 [(.t 22)])) (.c (.e (some 24) [] (.bsl 22 1 [(.t 23)])) (.c (.q 12 [] (.mv (.t 24))) .nil))))) t73_13)
def t73_14 := b73_14
theorem u73_14 : vcK P t73_14 k e w = vcK P b73_14 k e w := rfl
abbrev b73_15 : X := (.seq (.reg [2, 3, 10, 11] (.c (.e (some 19) [] .mkmap) (.c (.q 20 [] (.mv (.t 2))) (.c (.e none [] (.mup false .string (.t 19) (.t 20) (.c (.bool true)))) (.c (.q 21 [] (.mv (.t 19))) (.c (.q 11 [] (.mv (.t 21))) .nil)))))) t73_14)
def t73_15 := b73_15
theorem u73_15 : vcK P t73_15 k e w = vcK P b73_15 k e w := rfl
abbrev b73_16 : X := (.seq (.reg [2, 3, 10] (.c (.q 16 [] (.lda 3 (.t 4))) (.c (.q 17 [] (.lda 2 (.t 5))) (.c (.e (some 18) [] (.call false 74 [(.t 16), (.t 17)])) (.c (.q 10 [] (.mv (.t 18))) .nil))))) t73_15)
def t73_16 := b73_16
theorem u73_16 : vcK P t73_16 k e w = vcK P b73_16 k e w := rfl
abbrev b73_0 : X := (.seq (.reg [2, 3, 4, 5] (.c (.e (some 4) [] (.box 31 (.t 0))) (.c (.e (some 5) [] (.box 33 (.t 1))) (.c (.q 8 [] (.mv (.c (.slice none 0 0)))) (.c (.q 9 [] (.mv (.c (.bool false)))) .nil))))) t73_16)
def x_irepairLayers := b73_0
theorem u73_0 : vcK P x_irepairLayers k e w = vcK P b73_0 k e w := rfl
def r_irepairLayers : List XO := [(.mv (.t 8)), (.mv (.t 9))]
theorem c_irepairLayers : convF Try.prog [89, 116, 117, 121, 143, 161, 162, 163, 166, 168, 234] Try.f73 [([2, 3, 4, 5], []), ([2, 3, 10], []), ([2, 3, 10, 11], []), ([3, 10, 11, 12], []), ([3, 10, 11, 12, 13], []), ([12, 13], [3, 10, 11]), ([3, 10, 11, 12, 13, 27], []), ([3, 10, 11, 12, 13, 14], []), ([3, 10, 11, 12, 13, 14], []), ([3, 10, 11, 12, 13, 14, 39], []), ([8, 9], []), ([3, 10, 11, 12, 13, 15], []), ([3, 10, 11, 12, 13, 15], []), ([3, 10, 11, 12, 13, 50], []), ([8, 9], []), ([8, 9], [])] = some (x_irepairLayers, r_irepairLayers) := by kernel_rfl
def us_irepairLayers := aI @u73_0 (aI @u73_1 (aI @u73_2 (aI @u73_3 (aI @u73_4 (aI @u73_5 (aI @u73_6 (aI @u73_7 (aI @u73_8 (aI @u73_9 (aI @u73_10 (aI @u73_11 (aI @u73_12 (aI @u73_13 (aI @u73_14 (aI @u73_15 @u73_16)))))))))))))))
abbrev b70_1 : X := (.cond (.t 22) .skip (.exit 0))
def t70_1 := b70_1
theorem u70_1 : vcK P t70_1 k e w = vcK P b70_1 k e w := rfl
abbrev b70_2 : X := (.cond (.t 33) (.seq (.reg [8, 9] (.c (.q 34 [] (.mv (.t 10))) (.c (.q 8 [] (.mv (.t 34))) (.c (.q 9 [] (.mv (.c (.bool true)))) .nil)))) .ret) .skip)
def t70_2 := b70_2
theorem u70_2 : vcK P t70_2 k e w = vcK P b70_2 k e w := rfl
abbrev b70_3 : X := (.seq (.reg [3, 4, 5, 10, 33] (.c (.q 31 [] (.mv (.t 11))) (.c (.q 32 [] (.mv (.t 3))) (.c (.e (some 33) [] (.call false 86 [(.t 31), (.t 32)])) .nil)))) t70_2)
def t70_3 := b70_3
theorem u70_3 : vcK P t70_3 k e w = vcK P b70_3 k e w := rfl
abbrev b70_4 : X := (.seq (.reg [3, 4, 5, 10, 11] (.c (.q 27 [] (.mv (.t 10))) (.c (.q 28 [] (.mv (.t 11))) (.c (.e (some 29) [] (.bsl 22 1 [(.t 28)])) (.c (.e (some 30) [] (.app 44 22 1 24 [(.slice none 0 0)] 44 (.t 27) (.t 29))) (.c (.q 10 [] (.mv (.t 30))) .nil)))))) t70_3)
def t70_4 := b70_4
theorem u70_4 : vcK P t70_4 k e w = vcK P b70_4 k e w := rfl
abbrev b70_5 : X := (.blk 1 (.seq (.reg [3, 4, 5, 10, 11] (.c (.q 23 [] (.lda 3 (.t 4))) (.c (.q 24 [] (.lda 2 (.t 5))) (.c (.q 25 [] (.mv (.t 10))) (.c (.e (some 26) [] (.call false 85 [(.t 23), (.t 24), (.t 25)])) (.c (.q 11 [] (.mv (.t 26))) .nil)))))) t70_4))
def t70_5 := b70_5
theorem u70_5 : vcK P t70_5 k e w = vcK P b70_5 k e w := rfl
abbrev b70_6 : X := (.seq (.seq (.reg [3, 4, 5, 10, 22] (.c (.q 15 [] (.mv (.t 10))) (.c (.q 16 [] (.lens (.t 15))) (.c (.q 17 [] (.bin .leq (.t 16) (.c (.int .i64 8)))) (.c (.q 18 [] (.mv (.t 17))) (.c (.q 19 [(18, true)] (.mv (.t 10))) (.c (.e (some 20) [(18, true)] (.call false 131 [(.t 19)])) (.c (.q 21 [(18, true)] (.bin .leq (.t 20) (.c (.int .i64 800)))) (.c (.q 22 [] (.pick (.t 18) (.t 21) (.c (.bool false)))) .nil))))))))) t70_1) t70_5)
def t70_6 := b70_6
theorem u70_6 : vcK P t70_6 k e w = vcK P b70_6 k e w := rfl
abbrev b70_7 : X := (.seq (.reg [8, 9] (.c (.q 8 [] (.mv (.c (.slice none 0 0)))) (.c (.q 9 [] (.mv (.c (.bool false)))) .nil))) .ret)
def t70_7 := b70_7
theorem u70_7 : vcK P t70_7 k e w = vcK P b70_7 k e w := rfl
abbrev b70_8 : X := (.seq (.blk 0 (.loop [10] [3, 4, 5] t70_6)) t70_7)
def t70_8 := b70_8
theorem u70_8 : vcK P t70_8 k e w = vcK P b70_8 k e w := rfl
abbrev b70_9 : X := (.seq (.reg [3, 4, 5, 10] (.c (.q 12 [] (.mv (.t 2))) (.c (.e (some 13) [] (.bsl 9 1 [(.t 12)])) (.c (.e (some 14) [] (.bsl 22 1 [(.t 13)])) (.c (.q 10 [] (.mv (.t 14))) .nil))))) t70_8)
def t70_9 := b70_9
theorem u70_9 : vcK P t70_9 k e w = vcK P b70_9 k e w := rfl
abbrev b70_0 : X := (.seq (.reg [2, 3, 4, 5] (.c (.e (some 4) [] (.box 31 (.t 0))) (.c (.e (some 5) [] (.box 33 (.t 1))) (.c (.q 8 [] (.mv (.c (.slice none 0 0)))) (.c (.q 9 [] (.mv (.c (.bool false)))) .nil))))) t70_9)
def x_sl15Layers := b70_0
theorem u70_0 : vcK P x_sl15Layers k e w = vcK P b70_0 k e w := rfl
def r_sl15Layers : List XO := [(.mv (.t 8)), (.mv (.t 9))]
theorem c_sl15Layers : convF Try.prog [89, 116, 117, 121, 143, 161, 162, 163, 166, 168, 234] Try.f70 [([2, 3, 4, 5], []), ([3, 4, 5, 10], []), ([10], [3, 4, 5]), ([3, 4, 5, 10, 22], []), ([3, 4, 5, 10, 11], []), ([3, 4, 5, 10, 11], []), ([3, 4, 5, 10, 33], []), ([8, 9], []), ([8, 9], [])] = some (x_sl15Layers, r_sl15Layers) := by kernel_rfl
def us_sl15Layers := aI @u70_0 (aI @u70_1 (aI @u70_2 (aI @u70_3 (aI @u70_4 (aI @u70_5 (aI @u70_6 (aI @u70_7 (aI @u70_8 @u70_9))))))))
abbrev b72_1 : X := (.seq (.reg [8] (.c (.q 9 [] (.lda 3 (.t 4))) (.c (.e (some 10) [] (.call false 133 [(.t 9)])) (.c (.q 11 [] (.mv (.t 10))) (.c (.q 12 [(11, true)] (.lda 3 (.t 4))) (.c (.q 13 [(11, true)] (.lda 2 (.t 5))) (.c (.e (some 14) [(11, true)] (.call false 126 [(.t 12), (.t 13)])) (.c (.q 15 [] (.pick (.t 11) (.t 14) (.c (.bool false)))) (.c (.q 16 [] (.mv (.t 15))) (.c (.q 17 [(16, true)] (.fa 1 (.t 4))) (.c (.q 18 [(16, true)] (.ld (.t 17))) (.c (.q 19 [(16, true)] (.mv (.t 2))) (.c (.e (some 20) [(16, true)] (.call false 112 [(.t 18), (.t 19)])) (.c (.q 21 [] (.pick (.t 16) (.t 20) (.c (.bool false)))) (.c (.q 22 [] (.mv (.t 21))) (.c (.q 23 [(22, true)] (.fa 1 (.t 4))) (.c (.q 24 [(22, true)] (.ld (.t 23))) (.c (.q 25 [(22, true)] (.mv (.t 3))) (.c (.e (some 26) [(22, true)] (.call false 112 [(.t 24), (.t 25)])) (.c (.q 27 [] (.pick (.t 22) (.t 26) (.c (.bool false)))) (.c (.q 28 [] (.mv (.t 27))) (.c (.q 29 [(28, true)] (.mv (.t 2))) (.c (.q 30 [(28, true)] (.mv (.t 3))) (.c (.q 31 [(28, true)] (.bin .neq (.t 29) (.t 30))) (.c (.q 32 [] (.pick (.t 28) (.t 31) (.c (.bool false)))) (.c (.q 8 [] (.mv (.t 32))) .nil)))))))))))))))))))))))))) .ret)
def t72_1 := b72_1
theorem u72_1 : vcK P t72_1 k e w = vcK P b72_1 k e w := rfl
abbrev b72_0 : X := (.seq (.reg [2, 3, 4, 5] (.c (.e (some 4) [] (.box 31 (.t 0))) (.c (.e (some 5) [] (.box 33 (.t 1))) (.c (.q 8 [] (.mv (.c (.bool false)))) .nil)))) t72_1)
def x_igoodRepair := b72_0
theorem u72_0 : vcK P x_igoodRepair k e w = vcK P b72_0 k e w := rfl
def r_igoodRepair : List XO := [(.mv (.t 8))]
theorem c_igoodRepair : convF Try.prog [89, 116, 117, 121, 143, 161, 162, 163, 166, 168, 234] Try.f72 [([2, 3, 4, 5], []), ([8], [])] = some (x_igoodRepair, r_igoodRepair) := by kernel_rfl
def us_igoodRepair := aI @u72_0 @u72_1
abbrev b69_1 : X := (.seq (.reg [8] (.c (.q 9 [] (.lda 3 (.t 4))) (.c (.e (some 10) [] (.call false 128 [(.t 9)])) (.c (.q 11 [] (.mv (.t 10))) (.c (.q 12 [(11, true)] (.lda 3 (.t 4))) (.c (.q 13 [(11, true)] (.lda 2 (.t 5))) (.c (.e (some 14) [(11, true)] (.call false 129 [(.t 12), (.t 13)])) (.c (.q 15 [] (.pick (.t 11) (.t 14) (.c (.bool false)))) (.c (.q 16 [] (.mv (.t 15))) (.c (.q 17 [(16, true)] (.mv (.t 2))) (.c (.q 18 [(16, true)] (.mv (.t 3))) (.c (.e (some 19) [(16, true)] (.call false 130 [(.t 17), (.t 18)])) (.c (.q 20 [] (.pick (.t 16) (.t 19) (.c (.bool false)))) (.c (.q 21 [] (.mv (.t 20))) (.c (.q 22 [(21, true)] (.mv (.t 2))) (.c (.q 23 [(21, true)] (.len (.t 22))) (.c (.q 24 [(21, true)] (.fa 1 (.t 4))) (.c (.q 25 [(21, true)] (.ld (.t 24))) (.c (.q 26 [(21, true)] (.bin .eql (.t 23) (.t 25))) (.c (.q 27 [] (.pick (.t 21) (.t 26) (.c (.bool false)))) (.c (.q 28 [] (.mv (.t 27))) (.c (.q 29 [(28, true)] (.mv (.t 2))) (.c (.q 30 [(28, true)] (.mv (.t 3))) (.c (.q 31 [(28, true)] (.bin .neq (.t 29) (.t 30))) (.c (.q 32 [] (.pick (.t 28) (.t 31) (.c (.bool false)))) (.c (.q 8 [] (.mv (.t 32))) .nil)))))))))))))))))))))))))) .ret)
def t69_1 := b69_1
theorem u69_1 : vcK P t69_1 k e w = vcK P b69_1 k e w := rfl
abbrev b69_0 : X := (.seq (.reg [2, 3, 4, 5] (.c (.e (some 4) [] (.box 31 (.t 0))) (.c (.e (some 5) [] (.box 33 (.t 1))) (.c (.q 8 [] (.mv (.c (.bool false)))) .nil)))) t69_1)
def x_sl15Asked := b69_0
theorem u69_0 : vcK P x_sl15Asked k e w = vcK P b69_0 k e w := rfl
def r_sl15Asked : List XO := [(.mv (.t 8))]
theorem c_sl15Asked : convF Try.prog [89, 116, 117, 121, 143, 161, 162, 163, 166, 168, 234] Try.f69 [([2, 3, 4, 5], []), ([8], [])] = some (x_sl15Asked, r_sl15Asked) := by kernel_rfl
def us_sl15Asked := aI @u69_0 @u69_1
end

def lastK (hs : List Bs) (f t : Bs) : Option Nat := layGo hs f t 8 0
def laysV (hs : List Bs) (f t : Bs) : List (List Bs) := match lastK hs f t with
  | some K => lays hs f K
  | none => []
theorem layer_rows {n : Nat} {hs : List Bs} {f : Bs} (hh : RowsN n hs) (hf : IsRow f ∧ f.length = n) : ∀ k, RowsN n (layer hs f k)
  | 0 => fun x hx => by rw [layer_zero, List.mem_singleton] at hx; rw [hx]; exact hf
  | k + 1 => fun x hx => by
    obtain ⟨r, hr, h, hm, rfl⟩ := layer_from hx
    have h1 := layer_rows hh hf k r hr
    have h2 := hh h hm
    exact ⟨timesL_row h1.1 h2.1 (by rw [h1.2, h2.2]), by rw [timesL_len, h2.2]⟩
theorem flat_succ (hs : List Bs) (f : Bs) (k : Nat) : (lays hs f (k + 1)).flatten.length = (lays hs f k).flatten.length + (layer hs f (k + 1)).length := by
  rw [lays_succ, List.flatten_append, List.length_append]; simp
theorem layer_le (hs : List Bs) (f : Bs) (k : Nat) : (layer hs f k).length ≤ (lays hs f k).flatten.length := by
  cases k with
  | zero => simp [layer_zero, lays]
  | succ k => rw [flat_succ]; omega
theorem layer_next (hs : List Bs) (f : Bs) (k : Nat) : (layer hs f (k + 1)).length ≤ (layer hs f k).length * hs.length := by
  rw [layer_succ]; exact layNx_len _ _ _
theorem lays_each (hs : List Bs) (f : Bs) (k : Nat) : ∀ l ∈ lays hs f k, l.length ≤ (lays hs f k).flatten.length := fun l hl => by
  obtain ⟨a, b, e⟩ := List.append_of_mem hl
  rw [e]; simp; omega
section
variable (nm : Bs) (st : Nat) (v : Value) (cs : List Bs) (b s f t : Bs) (hM : IsMC nm st cs b s) (hf : IsRow f ∧ f.length = st)
include hM hf
theorem irepairLayers_ok (w : World) (h : Sq fS 1 w v cs) : Fn 73 [mV nm st v, kV b s, S f, S t] w (fun r w' => ∃ x, r = .tuple ⟨[x, .bool (lastK (hs3 (HC st cs b s)) f t).isSome]⟩ ∧ NestU fS 9 22 w.heap.size w'.heap.size w' x (laysV (hs3 (HC st cs b s)) f t)) := by
  (refine callsV_of mix Try.func73 c_irepairLayers ?_; simp only [↓vsd, vsn, gW, qd, qv, ev, pick, argE, zipE, ne_eq, eq_self, forall_const, implies_true, if_true, if_false, reduceIte, reduceCtorEq, Nat.reduceEqDiff, Nat.reduceAdd, Nat.reduceLT, ↓us_irepairLayers, r_irepairLayers])
  refine m_al ?_
  rintro b1 w1 hb1 hblk1 hx1 hs1
  have h1 : Blk w1 b1 (fM nm st v) 31 := hblk1
  simp only [↓vsd, vsn, gW, qd, qv, ev, pick, argE, zipE, ne_eq, eq_self, forall_const, implies_true, if_true, if_false, reduceIte, reduceCtorEq, Nat.reduceEqDiff, Nat.reduceAdd, Nat.reduceLT, ↓us_irepairLayers, r_irepairLayers, h1.facts, fMg]
  refine m_al ?_
  rintro b2 w2 hb2 hblk2 hx2 hs2
  have h2 : Blk w2 b2 (fQ b s) 33 := hblk2
  have h12 := h1.ext hx2
  have hx12 := hx1.trans hx2
  simp only [↓vsd, vsn, gW, qd, qv, ev, pick, argE, zipE, ne_eq, eq_self, forall_const, implies_true, if_true, if_false, reduceIte, reduceCtorEq, Nat.reduceEqDiff, Nat.reduceAdd, Nat.reduceLT, ↓us_irepairLayers, r_irepairLayers, h12.facts, h2.facts, fMg, fQg]
  refine m_call (icallHeads_ok nm st v cs b s hM _ (h.ext hx12)) ?_
  rintro hv w3 hx3 hoh
  have hx13 := hx12.trans hx3
  have eh : headsC nm st cs b s = hs3 (HC st cs b s) := by rw [headsC, if_pos hM]; rfl
  rw [eh] at hoh
  generalize hhs : hs3 (HC st cs b s) = hs at *
  have hhr : RowsN st hs := hhs ▸ hs3_rows hM
  have hhl : hs.length = 3 := by rw [← hhs]; rfl
  simp only [↓vsd, vsn, gW, qd, qv, ev, pick, argE, zipE, ne_eq, eq_self, forall_const, implies_true, if_true, if_false, reduceIte, reduceCtorEq, Nat.reduceEqDiff, Nat.reduceAdd, Nat.reduceLT, ↓us_irepairLayers, r_irepairLayers]
  refine m_mkset ?_
  rintro m w4 hmb hm4 hx4 hs4
  simp only [↓vsd, vsn, gW, qd, qv, ev, pick, argE, zipE, ne_eq, eq_self, forall_const, implies_true, if_true, if_false, reduceIte, reduceCtorEq, Nat.reduceEqDiff, Nat.reduceAdd, Nat.reduceLT, ↓us_irepairLayers, r_irepairLayers]
  refine m_put hm4 ?_
  rintro w5 hm5 hu5
  have hwm : w.heap.size ≤ m := by have := hx13.size; omega
  have hx5 : Ext w w5 := hu5.below (hx13.trans hx4) hwm
  have hoh5 := (hoh.ext hx4).upd hu5 (hm4.apart (hoh.ext hx4))
  have hml := hm5.lt
  simp only [↓vsd, vsn, gW, qd, qv, ev, pick, argE, zipE, ne_eq, eq_self, forall_const, implies_true, if_true, if_false, reduceIte, reduceCtorEq, Nat.reduceEqDiff, Nat.reduceAdd, Nat.reduceLT, ↓us_irepairLayers, r_irepairLayers]
  refine m_bsl (one_el rfl) ?_
  rintro b6 w6 hb6 hblk6 hx6 hs6
  simp only [↓vsd, vsn, gW, qd, qv, ev, pick, argE, zipE, ne_eq, eq_self, forall_const, implies_true, if_true, if_false, reduceIte, reduceCtorEq, Nat.reduceEqDiff, Nat.reduceAdd, Nat.reduceLT, ↓us_irepairLayers, r_irepairLayers]
  refine m_bsl (one_el rfl) ?_
  rintro b7 w7 hb7 hblk7 hx7 hs7
  simp only [↓vsd, vsn, gW, qd, qv, ev, pick, argE, zipE, ne_eq, eq_self, forall_const, implies_true, if_true, if_false, reduceIte, reduceCtorEq, Nat.reduceEqDiff, Nat.reduceAdd, Nat.reduceLT, ↓us_irepairLayers, r_irepairLayers]
  have hin : Own fS 1 9 w5.heap.size w7 (.slice (some ⟨b6, 0, none⟩) 1 1) [f] := (Own.one fS_len hblk6 rfl (by omega)).ext hx7
  have hN : NestU fS 9 22 w5.heap.size w7.heap.size w7 (.slice (some ⟨b7, 0, none⟩) 1 1) [[f]] := NestU.one (s := ⟨some ⟨b6, 0, none⟩, 1, 1⟩) hblk7 (by have := hx6.size; omega) hin (fun c hc => by
    have hc2 : some b6 = some c := hc
    have := Option.some.inj hc2
    omega)
  have hm7 := (hm5.ext hx6).ext hx7
  have hoh7 := (hoh5.ext hx6).ext hx7
  have hxs := (hx5.trans hx6).trans hx7
  have hohlt : ∀ c, hv.ownBlock = some c → c < w5.heap.size := fun c hc => hoh5.lt c hc
  refine m_upto 8 (fun k vs w' => ∃ x S', vs = [x, .int .i64 ((lays hs f k).flatten.length - (layer hs f k).length : Nat)] ∧ NestU fS 9 22 w5.heap.size w'.heap.size w' x (lays hs f k) ∧ Own fS 1 9 w2.heap.size w' hv hs ∧ SetAt w' m S' ∧ (∀ y, y ∈ S' ↔ y ∈ (lays hs f k).flatten) ∧ Ext w w' ∧ (lays hs f k).flatten.length ≤ 3200 ∧ layGo hs f t (8 - k) k = lastK hs f t ∧ w5.heap.size ≤ w'.heap.size) ⟨_, _, rfl, hN, hoh7, hm7, fun y => by simp [put1, lays], hxs, by simp [lays], rfl, (hx6.trans hx7).size⟩ ?_
  rintro k vs w8 hk ⟨x, S8, rfl, hN8, hoh8, hm8, hS8, hx8, htot, hgo, h5⟩
  have hlen := lays_len hs f k
  have hq8 := hN8.sq
  have hlk : k < (lays hs f k).length := by omega
  obtain ⟨u, a8, hu8⟩ := hq8.at hlk
  rw [lays_get hs f k k (Nat.le_refl _)] at hu8
  have hle := layer_le hs f k
  have hnx := layer_next hs f k
  rw [hhl] at hnx
  have hfs := flat_succ hs f k
  have hlr := layer_rows hhr hf k
  have hsucc := lays_succ hs f k
  have hly := layer_succ hs f k
  by_cases hlt : k < 8
  · have hltI : ((k + 1 : Nat) : Int) ≤ 8 := by omega
    have eI : ((k + 1 : Nat) : Int) - 1 = (k : Int) := by omega
    rw [show 8 - k = (7 - k) + 1 by omega, layGo] at hgo
    generalize hL : layer hs f k = L at *
    generalize hF : (lays hs f k).flatten.length = F at *
    have eS : ((F - L.length : Nat) : Int) + (L.length : Int) = (F : Int) := by omega
    simp only [↓vsd, vsn, gW, qd, qv, ev, pick, argE, zipE, ne_eq, eq_self, forall_const, implies_true, if_true, if_false, reduceIte, reduceCtorEq, Nat.reduceEqDiff, Nat.reduceAdd, Nat.reduceLT, ↓us_irepairLayers, r_irepairLayers, hq8.facts, hlen, hltI, eI, a8, hu8.facts, eS]
    refine ⟨inR_i64 (by omega), by omega, inR_i64 (by omega), fun hbig => ⟨hx8, .slice none 0 0, ?_, ?_⟩, fun hsm => ?_⟩
    · rw [if_pos (by omega)] at hgo
      rw [← hgo]; rfl
    · rw [if_pos (by omega)] at hgo
      unfold laysV
      rw [← hgo]; exact NestU.nil
    rw [if_neg (by omega)] at hgo
    refine m_callw (by first | exact .inl rfl | exact .inr rfl) (inextLayer_ok st hv u hs L S8 m hhr hlr ⟨by omega, by omega⟩ _ hoh8.sq hu8 hm8) ?_
    rintro y w9 ⟨hoy, ⟨S9, hm9, hS9⟩, hg9⟩
    rw [layNx_congr hS8, ← hly] at hoy
    have hS9 : ∀ z, z ∈ S9 ↔ z ∈ (lays hs f (k + 1)).flatten := fun z => by
      rw [hS9, layNx_congr hS8, ← hly, hsucc, List.flatten_append, List.mem_append, hS8]
      simp
    have hN9 := hN8.off hg9 (fun c hc => .inl (by have := Option.some.inj hc; omega))
    have hoh9 := hoh8.off hg9 (fun c hc => by rw [← Option.some.inj hc]; exact hm8.apart hoh8)
    have hx9 := ext_grow hx8 hg9 (fun c hc => by have := Option.some.inj hc; omega)
    have h89 := hg9.size
    obtain ⟨sv, rfl⟩ := hoy.sq.sv
    simp only [↓vsd, vsn, gW, qd, qv, ev, pick, argE, zipE, ne_eq, eq_self, forall_const, implies_true, if_true, if_false, reduceIte, reduceCtorEq, Nat.reduceEqDiff, Nat.reduceAdd, Nat.reduceLT, ↓us_irepairLayers, r_irepairLayers]
    refine m_bsl (one_el sv.csize) ?_
    rintro b10 w10 hb10 hblk10 hx10 hs10
    simp only [↓vsd, vsn, gW, qd, qv, ev, pick, argE, zipE, ne_eq, eq_self, forall_const, implies_true, if_true, if_false, reduceIte, reduceCtorEq, Nat.reduceEqDiff, Nat.reduceAdd, Nat.reduceLT, ↓us_irepairLayers, r_irepairLayers]
    have hblk10 : Blk w10 b10 [sv.v] 22 := by
      have := hblk10
      simpa [SV.cells] using this
    have hN10 := hN9.ext hx10
    have hoy10 := hoy.ext hx10
    refine m_pushU hN10 (Sq.one fSV_len hblk10 rfl) (hoy10.mono h5) (fun c hc => (hoy.bound c hc).1) (by have := hx10.size; omega) (by rw [hlen]; omega) rfl (by decide) (by have := hx10.size; omega) ?_
    rintro x11 w11 hN11 hg11
    have hfar : ∀ c, x.ownBlock = some c → w5.heap.size ≤ c ∧ c < w8.heap.size := hN8.bound
    have hx11 := ext_grow (hx9.trans hx10) hg11 (fun c hc => by have := (hfar c hc).1; have := hx5.size; omega)
    have hm11 := (hm9.ext hx10).grown hg11 (fun e => by have := (hfar m e).1; omega)
    have hoh11 := (hoh9.ext hx10).off hg11 (fun c hc e => by have := (hfar c hc).1; have := hohlt c e; omega)
    have hoy11 := hoy10.off hg11 (fun c hc e => by have := (hfar c hc).2; have := (hoy.bound c e).1; omega)
    rw [← hsucc] at hN11
    simp only [↓vsd, vsn, gW, qd, qv, ev, pick, argE, zipE, ne_eq, eq_self, forall_const, implies_true, if_true, if_false, reduceIte, reduceCtorEq, Nat.reduceEqDiff, Nat.reduceAdd, Nat.reduceLT, ↓us_irepairLayers, r_irepairLayers]
    refine m_call (ihas_ok sv.v _ t (by omega) (by rw [hly]; exact (layNx_rise _ _ _).sorted) _ hoy11.sq) ?_
    rintro _ w12 hx12b rfl
    have hx12c := hx11.trans hx12b
    by_cases ht : t ∈ layer hs f (k + 1)
    · rw [if_pos ht] at hgo
      simp only [↓vsd, vsn, gW, qd, qv, ev, pick, argE, zipE, ne_eq, eq_self, forall_const, implies_true, if_true, if_false, reduceIte, reduceCtorEq, Nat.reduceEqDiff, Nat.reduceAdd, Nat.reduceLT, ↓us_irepairLayers, r_irepairLayers, ht]
      refine ⟨hx12c, x11, ?_, ?_⟩
      · rw [← hgo]; rfl
      · unfold laysV
        rw [← hgo]
        exact (hN11.ext hx12b).mono hx5.size hx12b.size
    · rw [if_neg ht] at hgo
      simp only [↓vsd, vsn, gW, qd, qv, ev, pick, argE, zipE, ne_eq, eq_self, forall_const, implies_true, if_true, if_false, reduceIte, reduceCtorEq, Nat.reduceEqDiff, Nat.reduceAdd, Nat.reduceLT, ↓us_irepairLayers, r_irepairLayers, ht]
      refine UpTo.next hlt ⟨x11, S9, ?_, (hN11.ext hx12b).mono (Nat.le_refl _) hx12b.size, hoh11.ext hx12b, hm11.ext hx12b, hS9, hx12c, by omega, by rw [show 8 - (k + 1) = 7 - k by omega]; exact hgo, by have := hx10.size; have := hg11.size; have := hx12b.size; omega⟩
      rw [hfs, Nat.add_sub_cancel]
  · obtain rfl : k = 8 := by omega
    have hltI : ¬ ((8 + 1 : Nat) : Int) ≤ 8 := by decide
    have hg0 : lastK hs f t = none := by rw [← hgo]; rfl
    simp only [↓vsd, vsn, gW, qd, qv, ev, pick, argE, zipE, ne_eq, eq_self, forall_const, implies_true, if_true, if_false, reduceIte, reduceCtorEq, Nat.reduceEqDiff, Nat.reduceAdd, Nat.reduceLT, ↓us_irepairLayers, r_irepairLayers, hq8.facts, hlen, hltI]
    exact ⟨hx8, .slice none 0 0, by rw [hg0]; rfl, by unfold laysV; rw [hg0]; exact NestU.nil⟩
theorem sl15Layers_ok (w : World) (h : Sq fS 1 w v cs) : Fn 70 [mV nm st v, kV b s, S f, S t] w (fun r w' => ∃ x, r = .tuple ⟨[x, .bool (lastK (hs3 (HC st cs b s)) f t).isSome]⟩ ∧ NestU fS 9 22 w.heap.size w'.heap.size w' x (laysV (hs3 (HC st cs b s)) f t)) := by
  (refine callsV_of mix Try.func70 c_sl15Layers ?_; simp only [↓vsd, vsn, gW, qd, qv, ev, pick, argE, zipE, ne_eq, eq_self, forall_const, implies_true, if_true, if_false, reduceIte, reduceCtorEq, Nat.reduceEqDiff, Nat.reduceAdd, Nat.reduceLT, ↓us_sl15Layers, r_sl15Layers])
  refine m_al ?_
  rintro b1 w1 hb1 hblk1 hx1 hs1
  have h1 : Blk w1 b1 (fM nm st v) 31 := hblk1
  simp only [↓vsd, vsn, gW, qd, qv, ev, pick, argE, zipE, ne_eq, eq_self, forall_const, implies_true, if_true, if_false, reduceIte, reduceCtorEq, Nat.reduceEqDiff, Nat.reduceAdd, Nat.reduceLT, ↓us_sl15Layers, r_sl15Layers, h1.facts, fMg]
  refine m_al ?_
  rintro b2 w2 hb2 hblk2 hx2 hs2
  have h2 : Blk w2 b2 (fQ b s) 33 := hblk2
  have h12 := h1.ext hx2
  have hx12 := hx1.trans hx2
  simp only [↓vsd, vsn, gW, qd, qv, ev, pick, argE, zipE, ne_eq, eq_self, forall_const, implies_true, if_true, if_false, reduceIte, reduceCtorEq, Nat.reduceEqDiff, Nat.reduceAdd, Nat.reduceLT, ↓us_sl15Layers, r_sl15Layers, h12.facts, h2.facts, fMg, fQg]
  refine m_bsl (one_el rfl) ?_
  rintro b6 w6 hb6 hblk6 hx6 hs6
  simp only [↓vsd, vsn, gW, qd, qv, ev, pick, argE, zipE, ne_eq, eq_self, forall_const, implies_true, if_true, if_false, reduceIte, reduceCtorEq, Nat.reduceEqDiff, Nat.reduceAdd, Nat.reduceLT, ↓us_sl15Layers, r_sl15Layers]
  refine m_bsl (one_el rfl) ?_
  rintro b7 w7 hb7 hblk7 hx7 hs7
  simp only [↓vsd, vsn, gW, qd, qv, ev, pick, argE, zipE, ne_eq, eq_self, forall_const, implies_true, if_true, if_false, reduceIte, reduceCtorEq, Nat.reduceEqDiff, Nat.reduceAdd, Nat.reduceLT, ↓us_sl15Layers, r_sl15Layers]
  have hin : Own fS 1 9 w2.heap.size w7 (.slice (some ⟨b6, 0, none⟩) 1 1) [f] := (Own.one fS_len hblk6 rfl (by omega)).ext hx7
  have hN : NestU fS 9 22 w2.heap.size w7.heap.size w7 (.slice (some ⟨b7, 0, none⟩) 1 1) [[f]] := NestU.one (s := ⟨some ⟨b6, 0, none⟩, 1, 1⟩) hblk7 (by have := hx6.size; omega) hin (fun c hc => by
    have hc2 : some b6 = some c := hc
    have := Option.some.inj hc2
    omega)
  have hxs := hx6.trans hx7
  generalize hhs : hs3 (HC st cs b s) = hs at *
  have hhr : RowsN st hs := hhs ▸ hs3_rows hM
  have hhl : hs.length = 3 := by rw [← hhs]; rfl
  refine m_upto 8 (fun k vs w' => ∃ x, vs = [x] ∧ NestU fS 9 22 w2.heap.size w'.heap.size w' x (lays hs f k) ∧ Ext w2 w' ∧ (lays hs f k).flatten.length ≤ 3200 ∧ layGo hs f t (8 - k) k = lastK hs f t) ⟨_, rfl, hN, hxs, by simp [lays], rfl⟩ ?_
  rintro k vs w8 hk ⟨x, rfl, hN8, hx28, htot, hgo⟩
  have hx8 := hx12.trans hx28
  have h18 := h12.ext hx28
  have h28 := h2.ext hx28
  have hlen := lays_len hs f k
  have hq8 := hN8.sq
  have hlk : k < (lays hs f k).length := by omega
  have hle := layer_le hs f k
  have hnx := layer_next hs f k
  rw [hhl] at hnx
  have hfs := flat_succ hs f k
  have hlr := layer_rows hhr hf k
  have hsucc := lays_succ hs f k
  have hly := layer_succ hs f k
  have hgl := lays_get hs f k k (Nat.le_refl _)
  have heach := lays_each hs f k
  by_cases hlt : k < 8
  · have hltI : ((k + 1 : Nat) : Int) ≤ 8 := by omega
    rw [show 8 - k = (7 - k) + 1 by omega, layGo] at hgo
    simp only [↓vsd, vsn, gW, qd, qv, ev, pick, argE, zipE, ne_eq, eq_self, forall_const, implies_true, if_true, if_false, reduceIte, reduceCtorEq, Nat.reduceEqDiff, Nat.reduceAdd, Nat.reduceLT, ↓us_sl15Layers, r_sl15Layers, hq8.facts, hlen, hltI]
    refine m_call (sl15Many_ok x _ ⟨by omega, by omega⟩ _ hq8) ?_
    rintro _ w9 hx9 rfl
    have hx9 : Ext w8 w9 := by first | exact hx9 | exact ud hx9 | exact ud (ud hx9)
    have hx09 := hx8.trans hx9
    have h19 := h18.ext hx9
    have h29 := h28.ext hx9
    have hq9 := hq8.ext hx9
    by_cases hbig : 800 < (lays hs f k).flatten.length
    · have hbI : ¬ (((lays hs f k).flatten.length : Nat) : Int) ≤ 800 := by omega
      rw [if_pos hbig] at hgo
      simp only [↓vsd, vsn, gW, qd, qv, ev, pick, argE, zipE, ne_eq, eq_self, forall_const, implies_true, if_true, if_false, reduceIte, reduceCtorEq, Nat.reduceEqDiff, Nat.reduceAdd, Nat.reduceLT, ↓us_sl15Layers, r_sl15Layers, hbI]
      exact ⟨hx09, .slice none 0 0, by rw [← hgo]; rfl, by unfold laysV; rw [← hgo]; exact NestU.nil⟩
    have hbI : (((lays hs f k).flatten.length : Nat) : Int) ≤ 800 := by omega
    rw [if_neg hbig] at hgo
    simp only [↓vsd, vsn, gW, qd, qv, ev, pick, argE, zipE, ne_eq, eq_self, forall_const, implies_true, if_true, if_false, reduceIte, reduceCtorEq, Nat.reduceEqDiff, Nat.reduceAdd, Nat.reduceLT, ↓us_sl15Layers, r_sl15Layers, hbI, h19.facts, h29.facts, fMg, fQg]
    refine m_call (sl15Next_ok nm st v x cs b s (lays hs f k) hM ⟨by omega, by omega⟩ (by rw [hlen, Nat.add_sub_cancel, hgl]; exact hlr) ⟨by omega, by rw [hlen, Nat.add_sub_cancel, hgl]; omega⟩ (fun l hl => by have := heach l hl; omega) _ (by first | exact h.ext hx09 | exact h.ext (dr hx09)) hq9) ?_
    rintro y w10 hx10 hoy
    have hx10 : Ext w9 w10 := by first | exact hx10 | exact ud hx10 | exact ud (ud hx10)
    rw [hlen, Nat.add_sub_cancel, hgl, hhs, ← hly] at hoy
    have hN10 := (hN8.ext hx9).ext hx10
    have h1A := h19.ext hx10
    have h2A := h29.ext hx10
    obtain ⟨sv, rfl⟩ := hoy.sq.sv
    simp only [↓vsd, vsn, gW, qd, qv, ev, pick, argE, zipE, ne_eq, eq_self, forall_const, implies_true, if_true, if_false, reduceIte, reduceCtorEq, Nat.reduceEqDiff, Nat.reduceAdd, Nat.reduceLT, ↓us_sl15Layers, r_sl15Layers]
    refine m_bsl (one_el sv.csize) ?_
    rintro b11 w11 hb11 hblk11 hx11 hs11
    have hx11 : Ext w10 w11 := by first | exact hx11 | exact ud hx11 | exact ud (ud hx11)
    simp only [↓vsd, vsn, gW, qd, qv, ev, pick, argE, zipE, ne_eq, eq_self, forall_const, implies_true, if_true, if_false, reduceIte, reduceCtorEq, Nat.reduceEqDiff, Nat.reduceAdd, Nat.reduceLT, ↓us_sl15Layers, r_sl15Layers]
    have hblk11 : Blk w11 b11 [sv.v] 22 := by
      have := hblk11
      simpa [SV.cells] using this
    have hN11 := hN10.ext hx11
    have hoy11 := hoy.ext hx11
    have hx2b := ((hx28.trans hx9).trans hx10).trans hx11
    refine m_pushU hN11 (Sq.one fSV_len hblk11 rfl) (hoy11.mono (hx28.trans hx9).size) (fun c hc => by have := (hoy.bound c hc).1; have := hx9.size; omega) (by have := hx9.size; have := hx10.size; have := hx11.size; omega) (by rw [hlen]; omega) rfl (by decide) hx2b.size ?_
    rintro x12 w12 hN12 hg12
    have hfar : ∀ c, x.ownBlock = some c → w2.heap.size ≤ c ∧ c < w8.heap.size := hN8.bound
    have hx212 := ext_grow hx2b hg12 (fun c hc => (hfar c hc).1)
    have hoy12 := hoy11.off hg12 (fun c hc e => by have := (hfar c hc).2; have := (hoy.bound c e).1; have := hx9.size; omega)
    rw [← hsucc] at hN12
    simp only [↓vsd, vsn, gW, qd, qv, ev, pick, argE, zipE, ne_eq, eq_self, forall_const, implies_true, if_true, if_false, reduceIte, reduceCtorEq, Nat.reduceEqDiff, Nat.reduceAdd, Nat.reduceLT, ↓us_sl15Layers, r_sl15Layers]
    refine m_call (sl1HasS_ok sv.v _ t (by omega) _ hoy12.sq) ?_
    rintro _ w13 hx13 rfl
    have hx13 : Ext w12 w13 := by first | exact hx13 | exact ud hx13 | exact ud (ud hx13)
    have hx213 := hx212.trans hx13
    by_cases ht : t ∈ layer hs f (k + 1)
    · rw [if_pos ht] at hgo
      simp only [↓vsd, vsn, gW, qd, qv, ev, pick, argE, zipE, ne_eq, eq_self, forall_const, implies_true, if_true, if_false, reduceIte, reduceCtorEq, Nat.reduceEqDiff, Nat.reduceAdd, Nat.reduceLT, ↓us_sl15Layers, r_sl15Layers, ht]
      refine ⟨hx12.trans hx213, x12, ?_, ?_⟩
      · rw [← hgo]; rfl
      · unfold laysV
        rw [← hgo]
        exact (hN12.ext hx13).mono hx12.size hx13.size
    · rw [if_neg ht] at hgo
      simp only [↓vsd, vsn, gW, qd, qv, ev, pick, argE, zipE, ne_eq, eq_self, forall_const, implies_true, if_true, if_false, reduceIte, reduceCtorEq, Nat.reduceEqDiff, Nat.reduceAdd, Nat.reduceLT, ↓us_sl15Layers, r_sl15Layers, ht]
      exact UpTo.next hlt ⟨x12, rfl, (hN12.ext hx13).mono (Nat.le_refl _) hx13.size, hx213, by omega, by rw [show 8 - (k + 1) = 7 - k by omega]; exact hgo⟩
  · obtain rfl : k = 8 := by omega
    have hltI : ¬ ((8 + 1 : Nat) : Int) ≤ 8 := by decide
    have hg0 : lastK hs f t = none := by rw [← hgo]; rfl
    simp only [↓vsd, vsn, gW, qd, qv, ev, pick, argE, zipE, ne_eq, eq_self, forall_const, implies_true, if_true, if_false, reduceIte, reduceCtorEq, Nat.reduceEqDiff, Nat.reduceAdd, Nat.reduceLT, ↓us_sl15Layers, r_sl15Layers, hq8.facts, hlen, hltI]
    exact ⟨hx8, .slice none 0 0, by rw [hg0]; rfl, by unfold laysV; rw [hg0]; exact NestU.nil⟩
end
/-- Is a repair asked? -/
def RepOk (nm : (List UInt8)) (st : Int) (cs : List (List UInt8)) (b s f t : (List UInt8)) : Prop := IsLarge nm st cs ∧ IsMC nm st cs b s ∧ (IsRow f ∧ (f.length : Int) = st) ∧ (IsRow t ∧ (t.length : Int) = st) ∧ f ≠ t
instance (nm : (List UInt8)) (st : Int) (cs : List (List UInt8)) (b s f t : (List UInt8)) : Decidable (RepOk nm st cs b s f t) := by unfold RepOk; infer_instance
theorem igoodRepair_ok (nm : (List UInt8)) (st : Int) (v : Value) (cs : List (List UInt8)) (b s f t : (List UInt8)) (hnm : nm.length ≤ 1048576) (hs : ∀ c ∈ cs, c.length ≤ 1048576) (hl : cs.length ≤ 1000000000) (hb : b.length ≤ 1048576 ∧ s.length ≤ 1048576) (w : World) (h : Sq fS 1 w v cs) : Fn 72 [mV nm st v, kV b s, S f, S t] w (fun r _ => r = .bool (decide (RepOk nm st cs b s f t))) := by
  (refine callsV_of mix Try.func72 c_igoodRepair ?_; simp only [↓vsd, vsn, gW, qd, qv, ev, pick, argE, zipE, ne_eq, eq_self, forall_const, implies_true, if_true, if_false, reduceIte, reduceCtorEq, Nat.reduceEqDiff, Nat.reduceAdd, Nat.reduceLT, ↓us_igoodRepair, r_igoodRepair])
  refine m_al ?_
  rintro b1 w1 hb1 hblk1 hx1 hs1
  have h1 : Blk w1 b1 (fM nm st v) 31 := hblk1
  simp only [↓vsd, vsn, gW, qd, qv, ev, pick, argE, zipE, ne_eq, eq_self, forall_const, implies_true, if_true, if_false, reduceIte, reduceCtorEq, Nat.reduceEqDiff, Nat.reduceAdd, Nat.reduceLT, ↓us_igoodRepair, r_igoodRepair, h1.facts, fMg]
  refine m_al ?_
  rintro b2 w2 hb2 hblk2 hx2 hs2
  have h2 : Blk w2 b2 (fQ b s) 33 := hblk2
  have h12 := h1.ext hx2
  have hx12 := hx1.trans hx2
  simp only [↓vsd, vsn, gW, qd, qv, ev, pick, argE, zipE, ne_eq, eq_self, forall_const, implies_true, if_true, if_false, reduceIte, reduceCtorEq, Nat.reduceEqDiff, Nat.reduceAdd, Nat.reduceLT, ↓us_igoodRepair, r_igoodRepair, h12.facts, h2.facts, fMg, fQg]
  refine m_call (iisLarge_ok nm st v cs hnm hs hl _ (by first | exact h.ext hx12 | exact h.ext (dr hx12))) ?_
  rintro _ w3 hx3 rfl
  have hx3 : Ext w2 w3 := by first | exact hx3 | exact ud hx3 | exact ud (ud hx3)
  have hx13 := hx12.trans hx3
  have h13 := h12.ext hx3
  have h23 := h2.ext hx3
  by_cases hL : IsLarge nm st cs
  · simp only [↓vsd, vsn, gW, qd, qv, ev, pick, argE, zipE, ne_eq, eq_self, forall_const, implies_true, if_true, if_false, reduceIte, reduceCtorEq, Nat.reduceEqDiff, Nat.reduceAdd, Nat.reduceLT, ↓us_igoodRepair, r_igoodRepair, hL, h13.facts, h23.facts, fMg, fQg]
    refine m_call (iGoodCalls_ok nm st v cs b s hnm hs hl hb _ (by first | exact h.ext hx13 | exact h.ext (dr hx13))) ?_
    rintro _ w4 hx4 rfl
    have hx4 : Ext w3 w4 := by first | exact hx4 | exact ud hx4 | exact ud (ud hx4)
    have hx14 := hx13.trans hx4
    have h14 := h13.ext hx4
    by_cases hM : IsMC nm st cs b s
    · simp only [↓vsd, vsn, gW, qd, qv, ev, pick, argE, zipE, ne_eq, eq_self, forall_const, implies_true, if_true, if_false, reduceIte, reduceCtorEq, Nat.reduceEqDiff, Nat.reduceAdd, Nat.reduceLT, ↓us_igoodRepair, r_igoodRepair, hM, h14.facts, h13.facts, fMg]
      refine m_call (iisRowOf_ok st f _) ?_
      rintro _ w5 hx5 rfl
      have hx5 : Ext w4 w5 := by first | exact hx5 | exact ud hx5 | exact ud (ud hx5)
      have hx15 := hx14.trans hx5
      have h15 := h14.ext hx5
      by_cases hF : (f.length : Int) = st ∧ IsRow f
      · simp only [↓vsd, vsn, gW, qd, qv, ev, pick, argE, zipE, ne_eq, eq_self, forall_const, implies_true, if_true, if_false, reduceIte, reduceCtorEq, Nat.reduceEqDiff, Nat.reduceAdd, Nat.reduceLT, ↓us_igoodRepair, r_igoodRepair, hF, h15.facts, h14.facts, h13.facts, fMg]
        refine m_call (iisRowOf_ok st t _) ?_
        rintro _ w6 hx6 rfl
        have hx6 : Ext w5 w6 := by first | exact hx6 | exact ud hx6 | exact ud (ud hx6)
        have hx16 := hx15.trans hx6
        by_cases hT : (t.length : Int) = st ∧ IsRow t
        · by_cases hne : f = t
          · have hno : ¬ RepOk nm st cs b s f t := fun hh => hh.2.2.2.2 hne
            subst hne
            simp only [↓vsd, vsn, gW, qd, qv, ev, pick, argE, zipE, ne_eq, eq_self, forall_const, implies_true, if_true, if_false, reduceIte, reduceCtorEq, Nat.reduceEqDiff, Nat.reduceAdd, Nat.reduceLT, ↓us_igoodRepair, r_igoodRepair, hT, hno]
            exact hx16
          · have hyes : RepOk nm st cs b s f t := ⟨hL, hM, ⟨hF.2, hF.1⟩, ⟨hT.2, hT.1⟩, hne⟩
            simp only [↓vsd, vsn, gW, qd, qv, ev, pick, argE, zipE, ne_eq, eq_self, forall_const, implies_true, if_true, if_false, reduceIte, reduceCtorEq, Nat.reduceEqDiff, Nat.reduceAdd, Nat.reduceLT, ↓us_igoodRepair, r_igoodRepair, hT, hne, hyes]
            exact hx16
        · have hno : ¬ RepOk nm st cs b s f t := fun hh => hT ⟨hh.2.2.2.1.2, hh.2.2.2.1.1⟩
          have hTb : (decide ((t.length : Int) = st) && decide (IsRow t)) = false := by
            rw [Bool.and_eq_false_iff, decide_eq_false_iff_not, decide_eq_false_iff_not]
            exact Decidable.not_and_iff_or_not.1 hT
          simp only [↓vsd, vsn, gW, qd, qv, ev, pick, argE, zipE, ne_eq, eq_self, forall_const, implies_true, if_true, if_false, reduceIte, reduceCtorEq, Nat.reduceEqDiff, Nat.reduceAdd, Nat.reduceLT, ↓us_igoodRepair, r_igoodRepair, hTb, hno]
          exact hx16
      · have hno : ¬ RepOk nm st cs b s f t := fun hh => hF ⟨hh.2.2.1.2, hh.2.2.1.1⟩
        have hFb : (decide ((f.length : Int) = st) && decide (IsRow f)) = false := by
          rw [Bool.and_eq_false_iff, decide_eq_false_iff_not, decide_eq_false_iff_not]
          exact Decidable.not_and_iff_or_not.1 hF
        simp only [↓vsd, vsn, gW, qd, qv, ev, pick, argE, zipE, ne_eq, eq_self, forall_const, implies_true, if_true, if_false, reduceIte, reduceCtorEq, Nat.reduceEqDiff, Nat.reduceAdd, Nat.reduceLT, ↓us_igoodRepair, r_igoodRepair, hFb, hno]
        exact hx15
    · have hno : ¬ RepOk nm st cs b s f t := fun hh => hM hh.2.1
      simp only [↓vsd, vsn, gW, qd, qv, ev, pick, argE, zipE, ne_eq, eq_self, forall_const, implies_true, if_true, if_false, reduceIte, reduceCtorEq, Nat.reduceEqDiff, Nat.reduceAdd, Nat.reduceLT, ↓us_igoodRepair, r_igoodRepair, hM, hno]
      exact hx14
  · have hno : ¬ RepOk nm st cs b s f t := fun hh => hL hh.1
    simp only [↓vsd, vsn, gW, qd, qv, ev, pick, argE, zipE, ne_eq, eq_self, forall_const, implies_true, if_true, if_false, reduceIte, reduceCtorEq, Nat.reduceEqDiff, Nat.reduceAdd, Nat.reduceLT, ↓us_igoodRepair, r_igoodRepair, hL, hno]
    exact hx13
theorem sl15Asked_ok (nm : (List UInt8)) (st : Int) (v : Value) (cs : List (List UInt8)) (b s f t : (List UInt8)) (hnm : nm.length ≤ 1048576) (hs : ∀ c ∈ cs, c.length ≤ 1048576) (hl : cs.length ≤ 1000000000) (hb : b.length ≤ 1048576 ∧ s.length ≤ 1048576) (w : World) (h : Sq fS 1 w v cs) : Fn 69 [mV nm st v, kV b s, S f, S t] w (fun r _ => r = .bool (decide (RepOk nm st cs b s f t))) := by
  (refine callsV_of mix Try.func69 c_sl15Asked ?_; simp only [↓vsd, vsn, gW, qd, qv, ev, pick, argE, zipE, ne_eq, eq_self, forall_const, implies_true, if_true, if_false, reduceIte, reduceCtorEq, Nat.reduceEqDiff, Nat.reduceAdd, Nat.reduceLT, ↓us_sl15Asked, r_sl15Asked])
  refine m_al ?_
  rintro b1 w1 hb1 hblk1 hx1 hs1
  have h1 : Blk w1 b1 (fM nm st v) 31 := hblk1
  simp only [↓vsd, vsn, gW, qd, qv, ev, pick, argE, zipE, ne_eq, eq_self, forall_const, implies_true, if_true, if_false, reduceIte, reduceCtorEq, Nat.reduceEqDiff, Nat.reduceAdd, Nat.reduceLT, ↓us_sl15Asked, r_sl15Asked, h1.facts, fMg]
  refine m_al ?_
  rintro b2 w2 hb2 hblk2 hx2 hs2
  have h2 : Blk w2 b2 (fQ b s) 33 := hblk2
  have h12 := h1.ext hx2
  have hx12 := hx1.trans hx2
  simp only [↓vsd, vsn, gW, qd, qv, ev, pick, argE, zipE, ne_eq, eq_self, forall_const, implies_true, if_true, if_false, reduceIte, reduceCtorEq, Nat.reduceEqDiff, Nat.reduceAdd, Nat.reduceLT, ↓us_sl15Asked, r_sl15Asked, h12.facts, h2.facts, fMg, fQg]
  refine m_call (sl15Good_ok nm st v cs hnm hs hl _ (by first | exact h.ext hx12 | exact h.ext (dr hx12))) ?_
  rintro _ w3 hx3 rfl
  have hx3 : Ext w2 w3 := by first | exact hx3 | exact ud hx3 | exact ud (ud hx3)
  have hx13 := hx12.trans hx3
  have h13 := h12.ext hx3
  have h23 := h2.ext hx3
  by_cases hL : IsLarge nm st cs
  · simp only [↓vsd, vsn, gW, qd, qv, ev, pick, argE, zipE, ne_eq, eq_self, forall_const, implies_true, if_true, if_false, reduceIte, reduceCtorEq, Nat.reduceEqDiff, Nat.reduceAdd, Nat.reduceLT, ↓us_sl15Asked, r_sl15Asked, hL, h13.facts, h23.facts, fMg, fQg]
    refine m_call (sl8Good_ok nm st v cs b s hnm hs hl hb _ (by first | exact h.ext hx13 | exact h.ext (dr hx13))) ?_
    rintro _ w4 hx4 rfl
    have hx4 : Ext w3 w4 := by first | exact hx4 | exact ud hx4 | exact ud (ud hx4)
    have hx14 := hx13.trans hx4
    have h14 := h13.ext hx4
    by_cases hM : IsMC nm st cs b s
    · simp only [↓vsd, vsn, gW, qd, qv, ev, pick, argE, zipE, ne_eq, eq_self, forall_const, implies_true, if_true, if_false, reduceIte, reduceCtorEq, Nat.reduceEqDiff, Nat.reduceAdd, Nat.reduceLT, ↓us_sl15Asked, r_sl15Asked, hM]
      refine m_call (sl1Two_ok f t _) ?_
      rintro _ w5 hx5 rfl
      have hx5 : Ext w4 w5 := by first | exact hx5 | exact ud hx5 | exact ud (ud hx5)
      have hx15 := hx14.trans hx5
      have h15 := h14.ext hx5
      by_cases h2 : IsRow f ∧ IsRow t ∧ f.length = t.length
      · have h2d := decide_eq_true h2
        by_cases hF : (f.length : Int) = st
        · by_cases hne : f = t
          · have hno : ¬ RepOk nm st cs b s f t := fun hh => hh.2.2.2.2 hne
            subst hne
            simp only [↓vsd, vsn, gW, qd, qv, ev, pick, argE, zipE, ne_eq, eq_self, forall_const, implies_true, if_true, if_false, reduceIte, reduceCtorEq, Nat.reduceEqDiff, Nat.reduceAdd, Nat.reduceLT, ↓us_sl15Asked, r_sl15Asked, h2d, h15.facts, fMg, hF, hno]
            exact hx15
          · have hyes : RepOk nm st cs b s f t := ⟨hL, hM, ⟨h2.1, hF⟩, ⟨h2.2.1, by rw [← h2.2.2]; exact hF⟩, hne⟩
            simp only [↓vsd, vsn, gW, qd, qv, ev, pick, argE, zipE, ne_eq, eq_self, forall_const, implies_true, if_true, if_false, reduceIte, reduceCtorEq, Nat.reduceEqDiff, Nat.reduceAdd, Nat.reduceLT, ↓us_sl15Asked, r_sl15Asked, h2d, h15.facts, fMg, hF, hne, hyes]
            exact hx15
        · have hno : ¬ RepOk nm st cs b s f t := fun hh => hF hh.2.2.1.2
          simp only [↓vsd, vsn, gW, qd, qv, ev, pick, argE, zipE, ne_eq, eq_self, forall_const, implies_true, if_true, if_false, reduceIte, reduceCtorEq, Nat.reduceEqDiff, Nat.reduceAdd, Nat.reduceLT, ↓us_sl15Asked, r_sl15Asked, h2d, h15.facts, fMg, hF, hno]
          exact hx15
      · have hno : ¬ RepOk nm st cs b s f t := fun hh => h2 ⟨hh.2.2.1.1, hh.2.2.2.1.1, by have := hh.2.2.1.2; have := hh.2.2.2.1.2; omega⟩
        have h2d := decide_eq_false h2
        simp only [↓vsd, vsn, gW, qd, qv, ev, pick, argE, zipE, ne_eq, eq_self, forall_const, implies_true, if_true, if_false, reduceIte, reduceCtorEq, Nat.reduceEqDiff, Nat.reduceAdd, Nat.reduceLT, ↓us_sl15Asked, r_sl15Asked, h2d, hno]
        exact hx15
    · have hno : ¬ RepOk nm st cs b s f t := fun hh => hM hh.2.1
      simp only [↓vsd, vsn, gW, qd, qv, ev, pick, argE, zipE, ne_eq, eq_self, forall_const, implies_true, if_true, if_false, reduceIte, reduceCtorEq, Nat.reduceEqDiff, Nat.reduceAdd, Nat.reduceLT, ↓us_sl15Asked, r_sl15Asked, hM, hno]
      exact hx14
  · have hno : ¬ RepOk nm st cs b s f t := fun hh => hL hh.1
    simp only [↓vsd, vsn, gW, qd, qv, ev, pick, argE, zipE, ne_eq, eq_self, forall_const, implies_true, if_true, if_false, reduceIte, reduceCtorEq, Nat.reduceEqDiff, Nat.reduceAdd, Nat.reduceLT, ↓us_sl15Asked, r_sl15Asked, hL, hno]
    exact hx13
end Go.Proofs.Ytnhealghpfjdcaa
