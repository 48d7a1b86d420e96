/-
  Place bells, of both sides.
  Conditions: none.
-/
import Derived.Test.YtpnopboffalfnaaA28
import Derived.Test.YtpnopboffalfnaaPc
import Derived.Test.YtpnopboffalfnaaPt
set_option linter.unusedSimpArgs false
set_option linter.unusedVariables false
set_option linter.defProp false
namespace Go.Proofs.Ytpnopboffalfnaa
open Go Go.RowKit
section
variable (P : Program) (k : KT) (e : Env) (w : World)
abbrev b202_1 : X := (.cond (.t 13) .skip (.exit 0))
def t202_1 := b202_1
theorem u202_1 : vcK P t202_1 k e w = vcK P b202_1 k e w := rfl
abbrev b202_2 : X := (.reg [1, 5, 6] (.c (.q 18 [] (.mv (.t 5))) (.c (.q 19 [] (.mv (.t 1))) (.c (.e (some 20) [] (.call false 290 [(.t 18), (.t 19)])) (.c (.q 1 [] (.mv (.t 20))) .nil)))))
def t202_2 := b202_2
theorem u202_2 : vcK P t202_2 k e w = vcK P b202_2 k e w := rfl
abbrev b202_3 : X := (.blk 1 (.seq (.reg [1, 5, 6] (.c (.q 14 [] (.mv (.t 6))) (.c (.q 15 [] (.mv (.t 1))) (.c (.e (some 16) [] (.bsl 3 1 [(.t 15)])) (.c (.e (some 17) [] (.app 69 3 1 8 [(.int .i64 0)] 69 (.t 14) (.t 16))) (.c (.q 6 [] (.mv (.t 17))) .nil)))))) t202_2))
def t202_3 := b202_3
theorem u202_3 : vcK P t202_3 k e w = vcK P b202_3 k e w := rfl
abbrev b202_4 : X := (.seq (.seq (.reg [1, 5, 6, 13] (.c (.q 10 [] (.mv (.t 6))) (.c (.q 11 [] (.mv (.t 1))) (.c (.e (some 12) [] (.call false 289 [(.t 10), (.t 11)])) (.c (.q 13 [] (.not (.t 12))) .nil))))) t202_1) t202_3)
def t202_4 := b202_4
theorem u202_4 : vcK P t202_4 k e w = vcK P b202_4 k e w := rfl
abbrev b202_5 : X := (.seq (.reg [4] (.c (.q 21 [] (.mv (.t 6))) (.c (.q 4 [] (.mv (.t 21))) .nil))) .ret)
def t202_5 := b202_5
theorem u202_5 : vcK P t202_5 k e w = vcK P b202_5 k e w := rfl
abbrev b202_6 : X := (.seq (.blk 0 (.loop [1, 6] [5] t202_4)) t202_5)
def t202_6 := b202_6
theorem u202_6 : vcK P t202_6 k e w = vcK P b202_6 k e w := rfl
abbrev b202_7 : X := (.seq (.reg [1, 5, 6] (.c (.e (some 9) [] (.bsl 3 1 [])) (.c (.q 6 [] (.mv (.t 9))) .nil))) t202_6)
def t202_7 := b202_7
theorem u202_7 : vcK P t202_7 k e w = vcK P b202_7 k e w := rfl
abbrev b202_8 : X := (.seq (.reg [1, 5] (.c (.q 7 [] (.lda 3 (.t 2))) (.c (.e (some 8) [] (.call false 176 [(.t 7)])) (.c (.q 5 [] (.mv (.t 8))) .nil)))) t202_7)
def t202_8 := b202_8
theorem u202_8 : vcK P t202_8 k e w = vcK P b202_8 k e w := rfl
abbrev b202_0 : X := (.seq (.reg [1, 2] (.c (.e (some 2) [] (.box 41 (.t 0))) (.c (.q 4 [] (.mv (.c (.slice none 0 0)))) .nil))) t202_8)
def x_iplaceBells := b202_0
theorem u202_0 : vcK P x_iplaceBells k e w = vcK P b202_0 k e w := rfl
def r_iplaceBells : List XO := [(.mv (.t 4))]
theorem c_iplaceBells : convF Try.prog [169, 170, 207, 208, 210, 227, 232, 233, 255, 259, 268, 269, 270, 280, 281, 296, 299, 306, 307, 309] Try.f202 [([1, 2], []), ([1, 5], []), ([1, 5, 6], []), ([1, 6], [5]), ([1, 5, 6, 13], []), ([1, 5, 6], []), ([1, 5, 6], []), ([4], [])] = some (x_iplaceBells, r_iplaceBells) := by kernel_rfl
def us_iplaceBells := aI @u202_0 (aI @u202_1 (aI @u202_2 (aI @u202_3 (aI @u202_4 (aI @u202_5 (aI @u202_6 (aI @u202_7 @u202_8)))))))
abbrev b62_1 : X := (.cond (.t 15) (.seq (.reg [4, 5] (.c (.q 4 [] (.mv (.c (.slice none 0 0)))) (.c (.q 5 [] (.mv (.c (.bool false)))) .nil))) .ret) .skip)
def t62_1 := b62_1
theorem u62_1 : vcK P t62_1 k e w = vcK P b62_1 k e w := rfl
abbrev b62_2 : X := (.seq (.reg [4, 5] (.c (.q 16 [] (.lda 3 (.t 2))) (.c (.q 17 [] (.mv (.t 1))) (.c (.e (some 18) [] (.call false 202 [(.t 16), (.t 17)])) (.c (.q 4 [] (.mv (.t 18))) (.c (.q 5 [] (.mv (.c (.bool true)))) .nil)))))) .ret)
def t62_2 := b62_2
theorem u62_2 : vcK P t62_2 k e w = vcK P b62_2 k e w := rfl
abbrev b62_3 : X := (.seq (.seq (.reg [1, 2, 15] (.c (.q 6 [] (.lda 3 (.t 2))) (.c (.e (some 7) [] (.call false 113 [(.t 6)])) (.c (.q 8 [] (.not (.t 7))) (.c (.q 9 [] (.mv (.t 8))) (.c (.q 10 [(9, false)] (.fa 1 (.t 2))) (.c (.q 11 [(9, false)] (.ld (.t 10))) (.c (.q 12 [(9, false)] (.mv (.t 1))) (.c (.e (some 13) [(9, false)] (.call false 201 [(.t 11), (.t 12)])) (.c (.q 14 [(9, false)] (.not (.t 13))) (.c (.q 15 [] (.pick (.t 9) (.c (.bool true)) (.t 14))) .nil))))))))))) t62_1) t62_2)
def t62_3 := b62_3
theorem u62_3 : vcK P t62_3 k e w = vcK P b62_3 k e w := rfl
abbrev b62_0 : X := (.seq (.reg [1, 2] (.c (.e (some 2) [] (.box 41 (.t 0))) (.c (.q 4 [] (.mv (.c (.slice none 0 0)))) (.c (.q 5 [] (.mv (.c (.bool false)))) .nil)))) t62_3)
def x_iPlaceBells := b62_0
theorem u62_0 : vcK P x_iPlaceBells k e w = vcK P b62_0 k e w := rfl
def r_iPlaceBells : List XO := [(.mv (.t 4)), (.mv (.t 5))]
theorem c_iPlaceBells : convF Try.prog [169, 170, 207, 208, 210, 227, 232, 233, 255, 259, 268, 269, 270, 280, 281, 296, 299, 306, 307, 309] Try.f62 [([1, 2], []), ([1, 2, 15], []), ([4, 5], []), ([4, 5], [])] = some (x_iPlaceBells, r_iPlaceBells) := by kernel_rfl
def us_iPlaceBells := aI @u62_0 (aI @u62_1 (aI @u62_2 @u62_3))
abbrev b204_1 : X := (.cond (.t 17) .skip (.exit 0))
def t204_1 := b204_1
theorem u204_1 : vcK P t204_1 k e w = vcK P b204_1 k e w := rfl
abbrev b204_2 : X := (.reg [1, 5, 6, 7] (.c (.q 18 [] (.mv (.t 5))) (.c (.q 19 [] (.mv (.t 7))) (.c (.e (some 20) [] (.call false 291 [(.t 18), (.t 19)])) (.c (.q 7 [] (.mv (.t 20))) .nil)))))
def t204_2 := b204_2
theorem u204_2 : vcK P t204_2 k e w = vcK P b204_2 k e w := rfl
abbrev b204_3 : X := (.seq (.blk 1 (.reg [1, 5, 6, 7] (.c (.q 21 [] (.mv (.t 6))) (.c (.q 22 [] (.mv (.t 7))) (.c (.e (some 23) [] (.bsl 3 1 [(.t 22)])) (.c (.e (some 24) [] (.app 69 3 1 8 [(.int .i64 0)] 69 (.t 21) (.t 23))) (.c (.q 6 [] (.mv (.t 24))) .nil))))))) t204_2)
def t204_3 := b204_3
theorem u204_3 : vcK P t204_3 k e w = vcK P b204_3 k e w := rfl
abbrev b204_4 : X := (.seq (.seq (.reg [1, 5, 6, 7, 17] (.c (.q 15 [] (.mv (.t 7))) (.c (.q 16 [] (.mv (.t 1))) (.c (.q 17 [] (.bin .neq (.t 15) (.t 16))) .nil)))) t204_1) t204_3)
def t204_4 := b204_4
theorem u204_4 : vcK P t204_4 k e w = vcK P b204_4 k e w := rfl
abbrev b204_5 : X := (.blk 0 (.loop [6, 7] [1, 5] t204_4))
def t204_5 := b204_5
theorem u204_5 : vcK P t204_5 k e w = vcK P b204_5 k e w := rfl
abbrev b204_6 : X := (.seq (.reg [4] (.c (.q 25 [] (.mv (.t 6))) (.c (.q 4 [] (.mv (.t 25))) .nil))) .ret)
def t204_6 := b204_6
theorem u204_6 : vcK P t204_6 k e w = vcK P b204_6 k e w := rfl
abbrev b204_7 : X := (.seq (.seq (.reg [1, 5, 6, 7] (.c (.q 12 [] (.mv (.t 5))) (.c (.q 13 [] (.mv (.t 1))) (.c (.e (some 14) [] (.call false 291 [(.t 12), (.t 13)])) (.c (.q 7 [] (.mv (.t 14))) .nil))))) t204_5) t204_6)
def t204_7 := b204_7
theorem u204_7 : vcK P t204_7 k e w = vcK P b204_7 k e w := rfl
abbrev b204_8 : X := (.seq (.reg [1, 5, 6] (.c (.q 10 [] (.mv (.t 1))) (.c (.e (some 11) [] (.bsl 3 1 [(.t 10)])) (.c (.q 6 [] (.mv (.t 11))) .nil)))) t204_7)
def t204_8 := b204_8
theorem u204_8 : vcK P t204_8 k e w = vcK P b204_8 k e w := rfl
abbrev b204_9 : X := (.seq (.reg [1, 5] (.c (.q 8 [] (.lda 3 (.t 2))) (.c (.e (some 9) [] (.call false 240 [(.t 8)])) (.c (.q 5 [] (.mv (.t 9))) .nil)))) t204_8)
def t204_9 := b204_9
theorem u204_9 : vcK P t204_9 k e w = vcK P b204_9 k e w := rfl
abbrev b204_0 : X := (.seq (.reg [1, 2] (.c (.e (some 2) [] (.box 41 (.t 0))) (.c (.q 4 [] (.mv (.c (.slice none 0 0)))) .nil))) t204_9)
def x_sl5Bells := b204_0
theorem u204_0 : vcK P x_sl5Bells k e w = vcK P b204_0 k e w := rfl
def r_sl5Bells : List XO := [(.mv (.t 4))]
theorem c_sl5Bells : convF Try.prog [169, 170, 207, 208, 210, 227, 232, 233, 255, 259, 268, 269, 270, 280, 281, 296, 299, 306, 307, 309] Try.f204 [([1, 2], []), ([1, 5], []), ([1, 5, 6], []), ([1, 5, 6, 7], []), ([6, 7], [1, 5]), ([1, 5, 6, 7, 17], []), ([1, 5, 6, 7], []), ([1, 5, 6, 7], []), ([4], [])] = some (x_sl5Bells, r_sl5Bells) := by kernel_rfl
def us_sl5Bells := aI @u204_0 (aI @u204_1 (aI @u204_2 (aI @u204_3 (aI @u204_4 (aI @u204_5 (aI @u204_6 (aI @u204_7 (aI @u204_8 @u204_9))))))))
abbrev b63_1 : X := (.cond (.t 9) (.seq (.reg [4, 5] (.c (.q 4 [] (.mv (.c (.slice none 0 0)))) (.c (.q 5 [] (.mv (.c (.bool false)))) .nil))) .ret) .skip)
def t63_1 := b63_1
theorem u63_1 : vcK P t63_1 k e w = vcK P b63_1 k e w := rfl
abbrev b63_2 : X := (.seq (.reg [4, 5] (.c (.q 10 [] (.lda 3 (.t 2))) (.c (.q 11 [] (.mv (.t 1))) (.c (.e (some 12) [] (.call false 204 [(.t 10), (.t 11)])) (.c (.q 4 [] (.mv (.t 12))) (.c (.q 5 [] (.mv (.c (.bool true)))) .nil)))))) .ret)
def t63_2 := b63_2
theorem u63_2 : vcK P t63_2 k e w = vcK P b63_2 k e w := rfl
abbrev b63_3 : X := (.seq (.seq (.reg [1, 2, 9] (.c (.q 6 [] (.lda 3 (.t 2))) (.c (.q 7 [] (.mv (.t 1))) (.c (.e (some 8) [] (.call false 203 [(.t 6), (.t 7)])) (.c (.q 9 [] (.not (.t 8))) .nil))))) t63_1) t63_2)
def t63_3 := b63_3
theorem u63_3 : vcK P t63_3 k e w = vcK P b63_3 k e w := rfl
abbrev b63_0 : X := (.seq (.reg [1, 2] (.c (.e (some 2) [] (.box 41 (.t 0))) (.c (.q 4 [] (.mv (.c (.slice none 0 0)))) (.c (.q 5 [] (.mv (.c (.bool false)))) .nil)))) t63_3)
def x_sPlaceBells := b63_0
theorem u63_0 : vcK P x_sPlaceBells k e w = vcK P b63_0 k e w := rfl
def r_sPlaceBells : List XO := [(.mv (.t 4)), (.mv (.t 5))]
theorem c_sPlaceBells : convF Try.prog [169, 170, 207, 208, 210, 227, 232, 233, 255, 259, 268, 269, 270, 280, 281, 296, 299, 306, 307, 309] Try.f63 [([1, 2], []), ([1, 2, 9], []), ([4, 5], []), ([4, 5], [])] = some (x_sPlaceBells, r_sPlaceBells) := by kernel_rfl
def us_sPlaceBells := aI @u63_0 (aI @u63_1 (aI @u63_2 @u63_3))
end

/-- The place of bell x + 1 is a bell of the inverse row. -/
theorem plc_turn {h : List UInt8} (hr : IsRow h) {x : Nat} (hx : x < h.length) : plcL h ((x + 1 : Nat) : Int) = bell (turnL h) x + 1 := by
  obtain ⟨i, hi, he⟩ := hr.onto hx
  have ht := turnL_at hr hi
  have hb : bell (turnL h) x = i := by
    unfold bell
    rw [← he, ht, UInt8.toNat_ofNat', Nat.mod_eq_of_lt (by have := hr.1; omega)]
    omega
  have hlo := hr.low hi
  refine PlaceIs.uniq (plcL_is h _) (.inr ⟨by omega, by omega, ?_, fun j hj hc => ?_⟩)
  · rw [hb, Nat.add_sub_cancel]
    unfold bell at he
    omega
  · have hlj := hr.low (i := j) (by omega)
    have : bell h j = bell h i := by
      unfold bell at he ⊢
      omega
    have := hr.inj' (by omega) hi this
    omega
/-- The place bells of bell x + 1. -/
def pbL (h : List UInt8) (x : Nat) : List Int := (orbit (turnL h) x).map fun k => ((k + 1 : Nat) : Int)
/-- The first k of them. -/
def pbK (h : List UInt8) (x k : Nat) : List Int := (List.range k).map fun j => ((itb (turnL h) j x + 1 : Nat) : Int)
theorem pbK_all (h : List UInt8) (x : Nat) : pbK h x (per (turnL h) x) = pbL h x := by
  unfold pbK pbL orbit
  rw [List.map_map]
  rfl
theorem pbK_len (h : List UInt8) (x k : Nat) : (pbK h x k).length = k := by simp [pbK]
theorem pbK_succ (h : List UInt8) (x k : Nat) : pbK h x (k + 1) = pbK h x k ++ [((itb (turnL h) k x + 1 : Nat) : Int)] := by simp [pbK, List.range_succ]
theorem pbK_mem {h : List UInt8} (hr : IsRow h) {x : Nat} (hx : x < h.length) {k : Nat} (hk : k ≤ per (turnL h) x) : ((itb (turnL h) k x + 1 : Nat) : Int) ∈ pbK h x k ↔ k = per (turnL h) x := by
  have ht := turnL_row hr
  have hxt : x < (turnL h).length := by rw [turnL_len]; exact hx
  have hp := per_is ht hxt
  unfold pbK
  simp only [List.mem_map, List.mem_range]
  constructor
  · rintro ⟨j, hj, e⟩
    rcases Nat.lt_or_ge k (per (turnL h) x) with h1 | h1
    · have := hp.inj ht hxt (by omega) h1 (show itb (turnL h) j x = itb (turnL h) k x by omega)
      omega
    · omega
  · intro e
    exact ⟨0, by have := hp.1; omega, by rw [e, hp.2.2.1]; rfl⟩
theorem iplaceBells_ok (nm : List UInt8) (st : Nat) (v : Value) (cs : List (List UInt8)) (x : Nat) (hm : IsMethod nm st cs) (hx : x < st) (w : World) (h : Sq fS 1 w v cs) : Fn 202 [mV nm st v, .int .i64 ((x + 1 : Nat) : Int)] w (fun r w' => Own fI 1 3 w.heap.size w' r (pbL (underL (roundsL st) cs) x)) := by
  have h8 := hm.2.1
  have hH := under_row (n := st) (by omega) cs
  have hxl : x < (underL (roundsL st) cs).length := by rw [hH.2]; exact hx
  have ht := turnL_row hH.1
  have hxt : x < (turnL (underL (roundsL st) cs)).length := by rw [turnL_len]; exact hxl
  have hp := per_is ht hxt
  (refine callsV_of mix Try.func202 c_iplaceBells ?_; simp only [↓vsd, vsn, gW, qd, qv, ev, pick, argE, zipE, ne_eq, eq_self, forall_const, implies_true, if_true, if_false, reduceIte, reduceCtorEq, Nat.reduceEqDiff, Nat.reduceAdd, Nat.reduceLT, ↓us_iplaceBells, r_iplaceBells])
  refine m_al ?_
  rintro b1 w1 hb1 hblk1 hx1 hs1
  have h1 : Blk w1 b1 (fM nm st v) 41 := hblk1
  simp only [↓vsd, vsn, gW, qd, qv, ev, pick, argE, zipE, ne_eq, eq_self, forall_const, implies_true, if_true, if_false, reduceIte, reduceCtorEq, Nat.reduceEqDiff, Nat.reduceAdd, Nat.reduceLT, ↓us_iplaceBells, r_iplaceBells, h1.facts, fMg]
  refine m_call (ileadHead_ok nm st v cs hm _ (h.ext hx1)) ?_
  rintro _ w2 hx2 rfl
  have hx2 : Ext w1 w2 := by first | exact hx2 | exact ud hx2 | exact ud (ud hx2)
  rw [Int.toNat_natCast]
  generalize hhd : underL (roundsL st) cs = hd at *
  simp only [↓vsd, vsn, gW, qd, qv, ev, pick, argE, zipE, ne_eq, eq_self, forall_const, implies_true, if_true, if_false, reduceIte, reduceCtorEq, Nat.reduceEqDiff, Nat.reduceAdd, Nat.reduceLT, ↓us_iplaceBells, r_iplaceBells]
  refine m_bsl (by simp) ?_
  rintro b3 w3 hb3 hblk3 hx3 hs3
  have hx3 : Ext w2 w3 := by first | exact hx3 | exact ud hx3 | exact ud (ud hx3)
  have hx13 := (hx1.trans hx2).trans hx3
  simp only [↓vsd, vsn, gW, qd, qv, ev, pick, argE, zipE, ne_eq, eq_self, forall_const, implies_true, if_true, if_false, reduceIte, reduceCtorEq, Nat.reduceEqDiff, Nat.reduceAdd, Nat.reduceLT, ↓us_iplaceBells, r_iplaceBells]
  refine m_upto (per (turnL hd) x) (fun k vs w' => ∃ y, vs = [.int .i64 ((itb (turnL hd) k x + 1 : Nat) : Int), y] ∧ Own fI 1 3 w.heap.size w' y (pbK hd x k) ∧ Ext w w') ⟨_, rfl, (Own.empty fI_len hblk3 (by have := (hx1.trans hx2).size; omega)).to rfl, hx13⟩ ?_
  rintro k vs w4 hk ⟨y, rfl, ho4, hx4⟩
  have hkl := pbK_len hd x k
  have hp8 := hp.2.1
  simp only [↓vsd, vsn, gW, qd, qv, ev, pick, argE, zipE, ne_eq, eq_self, forall_const, implies_true, if_true, if_false, reduceIte, reduceCtorEq, Nat.reduceEqDiff, Nat.reduceAdd, Nat.reduceLT, ↓us_iplaceBells, r_iplaceBells]
  refine m_call (xslices_Contains_int_int_ok y _ _ (by omega) _ ho4.sq) ?_
  rintro _ w5 hx5 rfl
  have hx5 : Ext w4 w5 := by first | exact hx5 | exact ud hx5 | exact ud (ud hx5)
  have hx15 := hx4.trans hx5
  have ho5 := ho4.ext hx5
  have hmem := pbK_mem hH.1 hxl hk
  have hil := itb_lt ht hxt k
  rw [turnL_len] at hil
  by_cases he : k = per (turnL hd) x
  · have hin := decide_eq_true (hmem.2 he)
    simp only [↓vsd, vsn, gW, qd, qv, ev, pick, argE, zipE, ne_eq, eq_self, forall_const, implies_true, if_true, if_false, reduceIte, reduceCtorEq, Nat.reduceEqDiff, Nat.reduceAdd, Nat.reduceLT, ↓us_iplaceBells, r_iplaceBells, hin]
    subst he
    exact ⟨hx15, ho5.to (pbK_all hd x)⟩
  · have hin := decide_eq_false (fun hh => he (hmem.1 hh))
    simp only [↓vsd, vsn, gW, qd, qv, ev, pick, argE, zipE, ne_eq, eq_self, forall_const, implies_true, if_true, if_false, reduceIte, reduceCtorEq, Nat.reduceEqDiff, Nat.reduceAdd, Nat.reduceLT, ↓us_iplaceBells, r_iplaceBells, hin]
    refine m_bsl (one_el rfl) ?_
    rintro b6 w6 hb6 hblk6 hx6 hs6
    have hx6 : Ext w5 w6 := by first | exact hx6 | exact ud hx6 | exact ud (ud hx6)
    simp only [↓vsd, vsn, gW, qd, qv, ev, pick, argE, zipE, ne_eq, eq_self, forall_const, implies_true, if_true, if_false, reduceIte, reduceCtorEq, Nat.reduceEqDiff, Nat.reduceAdd, Nat.reduceLT, ↓us_iplaceBells, r_iplaceBells]
    refine m_app (ho5.ext hx6) (Sq.one fI_len hblk6 rfl) fI_one (by decide) (by simp; omega) (by decide) (hx15.trans hx6).size ?_
    rintro y7 w7 ho7 hg7
    have hx7 := (ho5.ext hx6).grown (hx15.trans hx6) (Nat.le_refl _) hg7
    simp only [↓vsd, vsn, gW, qd, qv, ev, pick, argE, zipE, ne_eq, eq_self, forall_const, implies_true, if_true, if_false, reduceIte, reduceCtorEq, Nat.reduceEqDiff, Nat.reduceAdd, Nat.reduceLT, ↓us_iplaceBells, r_iplaceBells]
    refine m_call (iplaceOf_ok hd _ (by have := hH.1.1; omega) (row_low hH.1) _) ?_
    rintro _ w8 hx8 ⟨p, rfl, hpl⟩
    have hx8 : Ext w7 w8 := by first | exact hx8 | exact ud hx8 | exact ud (ud hx8)
    have hpe := PlaceIs.uniq hpl (plcL_is hd _)
    rw [plc_turn hH.1 hil] at hpe
    subst hpe
    simp only [↓vsd, vsn, gW, qd, qv, ev, pick, argE, zipE, ne_eq, eq_self, forall_const, implies_true, if_true, if_false, reduceIte, reduceCtorEq, Nat.reduceEqDiff, Nat.reduceAdd, Nat.reduceLT, ↓us_iplaceBells, r_iplaceBells]
    exact UpTo.next (by omega) ⟨y7, rfl, (ho7.ext hx8).to (pbK_succ hd x k).symm, hx7.trans hx8⟩
/-- Are place bells asked? -/
def pbR (nm : List UInt8) (st : Int) (cs : List (List UInt8)) (b : Int) : List Int := if pathOk nm st cs b then pbL (underL (roundsL st.toNat) cs) (b.toNat - 1) else []
theorem iPlaceBells_ok (nm : List UInt8) (st : Int) (v : Value) (cs : List (List UInt8)) (b : Int) (hnm : nm.length ≤ 1048576) (hs : ∀ c ∈ cs, c.length ≤ 1048576) (hl : cs.length ≤ 1000000000) (w : World) (h : Sq fS 1 w v cs) : Fn 62 [mV nm st v, .int .i64 b] w (fun r w' => ∃ x, r = .tuple ⟨[x, .bool (decide (pathOk nm st cs b))]⟩ ∧ Own fI 1 3 w.heap.size w' x (pbR nm st cs b)) := by
  (refine callsV_of mix Try.func62 c_iPlaceBells ?_; simp only [↓vsd, vsn, gW, qd, qv, ev, pick, argE, zipE, ne_eq, eq_self, forall_const, implies_true, if_true, if_false, reduceIte, reduceCtorEq, Nat.reduceEqDiff, Nat.reduceAdd, Nat.reduceLT, ↓us_iPlaceBells, r_iPlaceBells])
  refine m_al ?_
  rintro b1 w1 hb1 hblk1 hx1 hs1
  have h1 : Blk w1 b1 (fM nm st v) 41 := hblk1
  simp only [↓vsd, vsn, gW, qd, qv, ev, pick, argE, zipE, ne_eq, eq_self, forall_const, implies_true, if_true, if_false, reduceIte, reduceCtorEq, Nat.reduceEqDiff, Nat.reduceAdd, Nat.reduceLT, ↓us_iPlaceBells, r_iPlaceBells, h1.facts, fMg]
  have hno : ¬ pathOk nm st cs b → ∀ w', ∃ x, Value.tuple ⟨[.slice none 0 0, .bool false]⟩ = .tuple ⟨[x, .bool (decide (pathOk nm st cs b))]⟩ ∧ Own fI 1 3 w.heap.size w' x (pbR nm st cs b) := fun hn w' =>
    ⟨_, by rw [decide_eq_false hn], by rw [pbR, if_neg hn]; exact Own.nil fI_len⟩
  refine m_call (iGoodMethod_ok nm st v cs hnm hs hl _ (h.ext hx1)) ?_
  rintro _ w2 hx2 rfl
  have hx12 := hx1.trans hx2
  have h2 := h1.ext hx2
  by_cases hm : IsMethod nm st cs
  · obtain ⟨n, rfl⟩ : ∃ n : Nat, st = n := ⟨st.toNat, by have := hm.2.1; omega⟩
    simp only [↓vsd, vsn, gW, qd, qv, ev, pick, argE, zipE, ne_eq, eq_self, forall_const, implies_true, if_true, if_false, reduceIte, reduceCtorEq, Nat.reduceEqDiff, Nat.reduceAdd, Nat.reduceLT, ↓us_iPlaceBells, r_iPlaceBells, hm, h2.facts, fMg]
    refine m_call (iisBell_ok n b _) ?_
    rintro _ w3 hx3 rfl
    have hx13 := hx12.trans (by first | exact hx3 | exact ud hx3)
    have h3 := h2.ext (by first | exact hx3 | exact ud hx3)
    by_cases hb : 1 ≤ b ∧ b ≤ n
    · have hb1 := hb.1
      have hb2 := hb.2
      have hok : pathOk nm n cs b := ⟨hm, hb⟩
      obtain ⟨x, rfl⟩ : ∃ x : Nat, b = ((x + 1 : Nat) : Int) := ⟨b.toNat - 1, by omega⟩
      simp only [↓vsd, vsn, gW, qd, qv, ev, pick, argE, zipE, ne_eq, eq_self, forall_const, implies_true, if_true, if_false, reduceIte, reduceCtorEq, Nat.reduceEqDiff, Nat.reduceAdd, Nat.reduceLT, ↓us_iPlaceBells, r_iPlaceBells, hb1, hb2, h3.facts, fMg]
      refine m_call (iplaceBells_ok nm n v cs x hm (by omega) _ (h.ext hx13)) ?_
      rintro y w4 hx4 ho4
      simp only [↓vsd, vsn, gW, qd, qv, ev, pick, argE, zipE, ne_eq, eq_self, forall_const, implies_true, if_true, if_false, reduceIte, reduceCtorEq, Nat.reduceEqDiff, Nat.reduceAdd, Nat.reduceLT, ↓us_iPlaceBells, r_iPlaceBells]
      exact ⟨hx13.trans hx4, y, by rw [decide_eq_true hok], by rw [pbR, if_pos hok, Int.toNat_natCast, Int.toNat_natCast, Nat.add_sub_cancel]; exact ho4.mono hx13.size⟩
    · have hbD : (decide (1 ≤ b) && decide (b ≤ (n : Int))) = false := by rw [← Bool.decide_and]; exact decide_eq_false hb
      simp only [↓vsd, vsn, gW, qd, qv, ev, pick, argE, zipE, ne_eq, eq_self, forall_const, implies_true, if_true, if_false, reduceIte, reduceCtorEq, Nat.reduceEqDiff, Nat.reduceAdd, Nat.reduceLT, ↓us_iPlaceBells, r_iPlaceBells, hbD]
      exact ⟨hx13, hno (fun hh => hb hh.2) _⟩
  · simp only [↓vsd, vsn, gW, qd, qv, ev, pick, argE, zipE, ne_eq, eq_self, forall_const, implies_true, if_true, if_false, reduceIte, reduceCtorEq, Nat.reduceEqDiff, Nat.reduceAdd, Nat.reduceLT, ↓us_iPlaceBells, r_iPlaceBells, hm]
    exact ⟨hx12, hno (fun hh => hm hh.1) _⟩
theorem sl5Bells_ok (nm : List UInt8) (st : Nat) (v : Value) (cs : List (List UInt8)) (x : Nat) (hm : IsMethod nm st cs) (hx : x < st) (w : World) (h : Sq fS 1 w v cs) : Fn 204 [mV nm st v, .int .i64 ((x + 1 : Nat) : Int)] w (fun r w' => Own fI 1 3 w.heap.size w' r (pbL (underL (roundsL st) cs) x)) := by
  have h8 := hm.2.1
  have hH := under_row (n := st) (by omega) cs
  have hxl : x < (underL (roundsL st) cs).length := by rw [hH.2]; exact hx
  have ht := turnL_row hH.1
  have hxt : x < (turnL (underL (roundsL st) cs)).length := by rw [turnL_len]; exact hxl
  have hp := per_is ht hxt
  (refine callsV_of mix Try.func204 c_sl5Bells ?_; simp only [↓vsd, vsn, gW, qd, qv, ev, pick, argE, zipE, ne_eq, eq_self, forall_const, implies_true, if_true, if_false, reduceIte, reduceCtorEq, Nat.reduceEqDiff, Nat.reduceAdd, Nat.reduceLT, ↓us_sl5Bells, r_sl5Bells])
  refine m_al ?_
  rintro b1 w1 hb1 hblk1 hx1 hs1
  have h1 : Blk w1 b1 (fM nm st v) 41 := hblk1
  simp only [↓vsd, vsn, gW, qd, qv, ev, pick, argE, zipE, ne_eq, eq_self, forall_const, implies_true, if_true, if_false, reduceIte, reduceCtorEq, Nat.reduceEqDiff, Nat.reduceAdd, Nat.reduceLT, ↓us_sl5Bells, r_sl5Bells, h1.facts, fMg]
  refine m_call (sl4Head_ok nm st v cs hm _ (h.ext hx1)) ?_
  rintro _ w2 hx2 rfl
  have hx2 : Ext w1 w2 := by first | exact hx2 | exact ud hx2 | exact ud (ud hx2)
  rw [Int.toNat_natCast]
  generalize hhd : underL (roundsL st) cs = hd at *
  simp only [↓vsd, vsn, gW, qd, qv, ev, pick, argE, zipE, ne_eq, eq_self, forall_const, implies_true, if_true, if_false, reduceIte, reduceCtorEq, Nat.reduceEqDiff, Nat.reduceAdd, Nat.reduceLT, ↓us_sl5Bells, r_sl5Bells]
  refine m_bsl (one_el rfl) ?_
  rintro b3 w3 hb3 hblk3 hx3 hs3
  have hx3 : Ext w2 w3 := by first | exact hx3 | exact ud hx3 | exact ud (ud hx3)
  have hx13 := (hx1.trans hx2).trans hx3
  simp only [↓vsd, vsn, gW, qd, qv, ev, pick, argE, zipE, ne_eq, eq_self, forall_const, implies_true, if_true, if_false, reduceIte, reduceCtorEq, Nat.reduceEqDiff, Nat.reduceAdd, Nat.reduceLT, ↓us_sl5Bells, r_sl5Bells]
  refine m_call (sl5Place_ok hd _ hH.1 _) ?_
  rintro _ w4 hx4 rfl
  have hx4 : Ext w3 w4 := by first | exact hx4 | exact ud hx4 | exact ud (ud hx4)
  rw [plc_turn hH.1 hxl]
  have hx14 := hx13.trans hx4
  simp only [↓vsd, vsn, gW, qd, qv, ev, pick, argE, zipE, ne_eq, eq_self, forall_const, implies_true, if_true, if_false, reduceIte, reduceCtorEq, Nat.reduceEqDiff, Nat.reduceAdd, Nat.reduceLT, ↓us_sl5Bells, r_sl5Bells]
  refine m_upto (per (turnL hd) x - 1) (fun j vs w' => ∃ y, vs = [y, .int .i64 ((itb (turnL hd) (j + 1) x + 1 : Nat) : Int)] ∧ Own fI 1 3 w1.heap.size w' y (pbK hd x (j + 1)) ∧ Ext w1 w') ⟨_, rfl, (Own.one fI_len (Blk.ext hblk3 hx4) rfl (by have := hx2.size; omega)).to rfl, (hx2.trans hx3).trans hx4⟩ ?_
  rintro j vs w5 hj ⟨y, rfl, ho5, hx5⟩
  have hp8 := hp.2.1
  have hp1 := hp.1
  have hkl := pbK_len hd x (j + 1)
  have hil := itb_lt ht hxt (j + 1)
  rw [turnL_len] at hil
  by_cases he : j + 1 = per (turnL hd) x
  · have hbe : itb (turnL hd) (j + 1) x = x := by rw [he]; exact hp.2.2.1
    have hbI : ((itb (turnL hd) (j + 1) x + 1 : Nat) : Int) = ((x + 1 : Nat) : Int) := by rw [hbe]
    simp only [↓vsd, vsn, gW, qd, qv, ev, pick, argE, zipE, ne_eq, eq_self, forall_const, implies_true, if_true, if_false, reduceIte, reduceCtorEq, Nat.reduceEqDiff, Nat.reduceAdd, Nat.reduceLT, ↓us_sl5Bells, r_sl5Bells, hbI]
    exact ⟨hx1.trans hx5, (ho5.mono hx1.size).to (by rw [he, pbK_all])⟩
  · have hbe := hp.2.2.2 (j + 1) (by omega) (by omega)
    have hbI : ¬ ((itb (turnL hd) (j + 1) x + 1 : Nat) : Int) = ((x + 1 : Nat) : Int) := by omega
    simp only [↓vsd, vsn, gW, qd, qv, ev, pick, argE, zipE, ne_eq, eq_self, forall_const, implies_true, if_true, if_false, reduceIte, reduceCtorEq, Nat.reduceEqDiff, Nat.reduceAdd, Nat.reduceLT, ↓us_sl5Bells, r_sl5Bells, hbI]
    refine m_bsl (one_el rfl) ?_
    rintro b6 w6 hb6 hblk6 hx6 hs6
    have hx6 : Ext w5 w6 := by first | exact hx6 | exact ud hx6 | exact ud (ud hx6)
    simp only [↓vsd, vsn, gW, qd, qv, ev, pick, argE, zipE, ne_eq, eq_self, forall_const, implies_true, if_true, if_false, reduceIte, reduceCtorEq, Nat.reduceEqDiff, Nat.reduceAdd, Nat.reduceLT, ↓us_sl5Bells, r_sl5Bells]
    refine m_app (ho5.ext hx6) (Sq.one fI_len hblk6 rfl) fI_one (by decide) (by simp; omega) (by decide) (hx5.trans hx6).size ?_
    rintro y7 w7 ho7 hg7
    have hx7 := (ho5.ext hx6).grown (hx5.trans hx6) (Nat.le_refl _) hg7
    simp only [↓vsd, vsn, gW, qd, qv, ev, pick, argE, zipE, ne_eq, eq_self, forall_const, implies_true, if_true, if_false, reduceIte, reduceCtorEq, Nat.reduceEqDiff, Nat.reduceAdd, Nat.reduceLT, ↓us_sl5Bells, r_sl5Bells]
    refine m_call (sl5Place_ok hd _ hH.1 _) ?_
    rintro _ w8 hx8 rfl
    have hx8 : Ext w7 w8 := by first | exact hx8 | exact ud hx8 | exact ud (ud hx8)
    rw [plc_turn hH.1 hil]
    simp only [↓vsd, vsn, gW, qd, qv, ev, pick, argE, zipE, ne_eq, eq_self, forall_const, implies_true, if_true, if_false, reduceIte, reduceCtorEq, Nat.reduceEqDiff, Nat.reduceAdd, Nat.reduceLT, ↓us_sl5Bells, r_sl5Bells]
    exact UpTo.next (by omega) ⟨y7, rfl, (ho7.ext hx8).to (pbK_succ hd x (j + 1)).symm, hx7.trans hx8⟩
theorem sPlaceBells_ok (nm : List UInt8) (st : Int) (v : Value) (cs : List (List UInt8)) (b : Int) (hnm : nm.length ≤ 1048576) (hs : ∀ c ∈ cs, c.length ≤ 1048576) (hl : cs.length ≤ 1000000000) (w : World) (h : Sq fS 1 w v cs) : Fn 63 [mV nm st v, .int .i64 b] w (fun r w' => ∃ x, r = .tuple ⟨[x, .bool (decide (pathOk nm st cs b))]⟩ ∧ Own fI 1 3 w.heap.size w' x (pbR nm st cs b)) := by
  (refine callsV_of mix Try.func63 c_sPlaceBells ?_; simp only [↓vsd, vsn, gW, qd, qv, ev, pick, argE, zipE, ne_eq, eq_self, forall_const, implies_true, if_true, if_false, reduceIte, reduceCtorEq, Nat.reduceEqDiff, Nat.reduceAdd, Nat.reduceLT, ↓us_sPlaceBells, r_sPlaceBells])
  refine m_al ?_
  rintro b1 w1 hb1 hblk1 hx1 hs1
  have h1 : Blk w1 b1 (fM nm st v) 41 := hblk1
  simp only [↓vsd, vsn, gW, qd, qv, ev, pick, argE, zipE, ne_eq, eq_self, forall_const, implies_true, if_true, if_false, reduceIte, reduceCtorEq, Nat.reduceEqDiff, Nat.reduceAdd, Nat.reduceLT, ↓us_sPlaceBells, r_sPlaceBells, h1.facts, fMg]
  refine m_call (sl5Asked_ok nm st v cs b hnm hs hl _ (h.ext hx1)) ?_
  rintro _ w2 hx2 rfl
  have hx12 := hx1.trans hx2
  have h2 := h1.ext hx2
  by_cases hok : pathOk nm st cs b
  · have hD := decide_eq_true hok
    obtain ⟨n, rfl⟩ : ∃ n : Nat, st = n := ⟨st.toNat, by have := hok.1.2.1; omega⟩
    obtain ⟨x, rfl⟩ : ∃ x : Nat, b = ((x + 1 : Nat) : Int) := ⟨b.toNat - 1, by have := hok.2; omega⟩
    simp only [↓vsd, vsn, gW, qd, qv, ev, pick, argE, zipE, ne_eq, eq_self, forall_const, implies_true, if_true, if_false, reduceIte, reduceCtorEq, Nat.reduceEqDiff, Nat.reduceAdd, Nat.reduceLT, ↓us_sPlaceBells, r_sPlaceBells, hD, h2.facts, fMg]
    refine m_call (sl5Bells_ok nm n v cs x hok.1 (by have := hok.2; omega) _ (h.ext hx12)) ?_
    rintro y w4 hx4 ho4
    simp only [↓vsd, vsn, gW, qd, qv, ev, pick, argE, zipE, ne_eq, eq_self, forall_const, implies_true, if_true, if_false, reduceIte, reduceCtorEq, Nat.reduceEqDiff, Nat.reduceAdd, Nat.reduceLT, ↓us_sPlaceBells, r_sPlaceBells]
    exact ⟨hx12.trans hx4, y, rfl, by rw [pbR, if_pos hok, Int.toNat_natCast, Int.toNat_natCast, Nat.add_sub_cancel]; exact ho4.mono hx12.size⟩
  · have hD := decide_eq_false hok
    simp only [↓vsd, vsn, gW, qd, qv, ev, pick, argE, zipE, ne_eq, eq_self, forall_const, implies_true, if_true, if_false, reduceIte, reduceCtorEq, Nat.reduceEqDiff, Nat.reduceAdd, Nat.reduceLT, ↓us_sPlaceBells, r_sPlaceBells, hD]
    exact ⟨hx12, _, rfl, by rw [pbR, if_neg hok]; exact Own.nil fI_len⟩
end Go.Proofs.Ytpnopboffalfnaa
