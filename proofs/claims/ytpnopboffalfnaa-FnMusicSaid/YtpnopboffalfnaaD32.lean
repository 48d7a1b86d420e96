/-
  The call of the law FnMusic.
  Conditions: none.
-/
import Derived.Test.YtpnopboffalfnaaD29
import Derived.Test.YtpnopboffalfnaaA43
import Derived.Test.YtpnopboffalfnaaA36
set_option linter.unusedSimpArgs false
set_option linter.unusedVariables false
set_option linter.defProp false
namespace Go.Proofs.Ytpnopboffalfnaa
open Go Go.RowKit
section
variable (P : Program) (k : KT) (e : Env) (w : World)
abbrev b14_1 : X := (.cond (.t 31) (.seq (.reg [4] (.c (.q 4 [] (.mv (.c (.bool true)))) .nil)) .ret) .skip)
def t14_1 := b14_1
theorem u14_1 : vcK P t14_1 k e w = vcK P b14_1 k e w := rfl
abbrev b14_2 : X := (.cond (.t 97) (.seq (.reg [4] (.c (.q 4 [] (.mv (.c (.bool false)))) .nil)) .ret) .skip)
def t14_2 := b14_2
theorem u14_2 : vcK P t14_2 k e w = vcK P b14_2 k e w := rfl
abbrev b14_3 : X := (.cond (.t 99) (.seq (.reg [4] (.c (.q 4 [] (.mv (.c (.bool true)))) .nil)) .ret) .skip)
def t14_3 := b14_3
theorem u14_3 : vcK P t14_3 k e w = vcK P b14_3 k e w := rfl
abbrev b14_4 : X := (.cond (.t 108) (.seq (.reg [4] (.c (.q 4 [] (.mv (.c (.bool true)))) .nil)) .ret) .skip)
def t14_4 := b14_4
theorem u14_4 : vcK P t14_4 k e w = vcK P b14_4 k e w := rfl
abbrev b14_5 : X := (.reg [7, 8, 9, 19, 21, 109, 110, 111] (.c (.q 115 [] (.mv (.t 21))) (.c (.q 116 [] (.mv (.t 23))) (.c (.q 117 [] (.bin .add (.t 115) (.t 116))) (.c (.q 21 [] (.mv (.t 117))) .nil)))))
def t14_5 := b14_5
theorem u14_5 : vcK P t14_5 k e w = vcK P b14_5 k e w := rfl
abbrev b14_6 : X := (.reg [7, 8, 9, 19, 21, 109, 110, 111] (.c (.q 118 [] (.bin .add (.t 111) (.c (.int .i64 1)))) (.c (.q 111 [] (.mv (.t 118))) .nil)))
def t14_6 := b14_6
theorem u14_6 : vcK P t14_6 k e w = vcK P b14_6 k e w := rfl
abbrev b14_7 : X := (.seq (.blk 1 (.seq (.reg [7, 8, 9, 19, 21, 23, 109, 110, 111] (.c (.q 113 [] (.ia 1 (.t 109) (.t 111))) (.c (.q 114 [] (.ld (.t 113))) (.c (.q 23 [] (.mv (.t 114))) .nil)))) t14_5)) t14_6)
def t14_7 := b14_7
theorem u14_7 : vcK P t14_7 k e w = vcK P b14_7 k e w := rfl
abbrev b14_8 : X := (.seq (.cond (.t 112) .skip (.exit 0)) t14_7)
def t14_8 := b14_8
theorem u14_8 : vcK P t14_8 k e w = vcK P b14_8 k e w := rfl
abbrev b14_9 : X := (.seq (.reg [7, 8, 9, 19, 21, 109, 110, 111, 112] (.c (.q 112 [] (.bin .lss (.t 111) (.t 110))) .nil)) t14_8)
def t14_9 := b14_9
theorem u14_9 : vcK P t14_9 k e w = vcK P b14_9 k e w := rfl
abbrev b14_10 : X := (.blk 0 (.loop [21, 111] [7, 8, 9, 19, 109, 110] t14_9))
def t14_10 := b14_10
theorem u14_10 : vcK P t14_10 k e w = vcK P b14_10 k e w := rfl
abbrev b14_11 : X := (.seq (.reg [4] (.c (.q 125 [] (.mv (.t 25))) (.c (.q 126 [] (.mv (.t 125))) (.c (.q 127 [(126, true)] (.mv (.t 24))) (.c (.q 128 [(126, true)] (.mv (.t 21))) (.c (.q 129 [(126, true)] (.bin .eql (.t 127) (.t 128))) (.c (.q 130 [] (.pick (.t 126) (.t 129) (.c (.bool false)))) (.c (.q 131 [] (.mv (.t 130))) (.c (.q 132 [(131, true)] (.mv (.t 9))) (.c (.q 133 [(131, true)] (.lens (.t 132))) (.c (.q 134 [(131, true)] (.mv (.t 7))) (.c (.q 135 [(131, true)] (.len (.t 134))) (.c (.q 136 [(131, true)] (.bin .eql (.t 133) (.t 135))) (.c (.q 137 [] (.pick (.t 131) (.t 136) (.c (.bool false)))) (.c (.q 4 [] (.mv (.t 137))) .nil))))))))))))))) .ret)
def t14_11 := b14_11
theorem u14_11 : vcK P t14_11 k e w = vcK P b14_11 k e w := rfl
abbrev b14_12 : X := (.seq (.reg [7, 9, 21, 24, 25] (.c (.q 120 [] (.mv (.t 8))) (.c (.q 121 [] (.mv (.t 19))) (.c (.e (some 122) [] (.call false 149 [(.t 120), (.t 121)])) (.c (.q 119 [] (.mv (.t 122))) (.c (.q 123 [] (.ext 0 (.t 119))) (.c (.q 124 [] (.ext 1 (.t 119))) (.c (.q 24 [] (.mv (.t 123))) (.c (.q 25 [] (.mv (.t 124))) .nil))))))))) t14_11)
def t14_12 := b14_12
theorem u14_12 : vcK P t14_12 k e w = vcK P b14_12 k e w := rfl
abbrev b14_13 : X := (.seq (.seq (.reg [7, 8, 9, 19, 21, 109, 110, 111] (.c (.q 109 [] (.mv (.t 9))) (.c (.q 110 [] (.lens (.t 109))) (.c (.q 111 [] (.mv (.c (.int .i64 0)))) .nil)))) t14_10) t14_12)
def t14_13 := b14_13
theorem u14_13 : vcK P t14_13 k e w = vcK P b14_13 k e w := rfl
abbrev b14_14 : X := (.seq (.reg [7, 8, 9, 19, 21] (.c (.q 21 [] (.mv (.c (.int .i64 0)))) .nil)) t14_13)
def t14_14 := b14_14
theorem u14_14 : vcK P t14_14 k e w = vcK P b14_14 k e w := rfl
abbrev b14_15 : X := (.seq (.seq (.reg [7, 8, 9, 19, 108] (.c (.q 107 [] (.mv (.t 20))) (.c (.q 108 [] (.not (.t 107))) .nil))) t14_4) t14_14)
def t14_15 := b14_15
theorem u14_15 : vcK P t14_15 k e w = vcK P b14_15 k e w := rfl
abbrev b14_16 : X := (.seq (.reg [7, 8, 9, 19, 20] (.c (.q 101 [] (.lda 3 (.t 5))) (.c (.q 102 [] (.lda 2 (.t 6))) (.c (.q 103 [] (.mv (.t 7))) (.c (.e (some 104) [] (.call false 78 [(.t 101), (.t 102), (.t 103)])) (.c (.q 100 [] (.mv (.t 104))) (.c (.q 105 [] (.ext 0 (.t 100))) (.c (.q 106 [] (.ext 1 (.t 100))) (.c (.q 19 [] (.mv (.t 105))) (.c (.q 20 [] (.mv (.t 106))) .nil)))))))))) t14_15)
def t14_16 := b14_16
theorem u14_16 : vcK P t14_16 k e w = vcK P b14_16 k e w := rfl
abbrev b14_17 : X := (.seq (.seq (.reg [5, 6, 7, 8, 9, 99] (.c (.q 98 [] (.mv (.t 10))) (.c (.q 99 [] (.not (.t 98))) .nil))) t14_3) t14_16)
def t14_17 := b14_17
theorem u14_17 : vcK P t14_17 k e w = vcK P b14_17 k e w := rfl
abbrev b14_18 : X := (.seq (.seq (.reg [5, 6, 7, 8, 9, 10, 97] (.c (.q 72 [] (.mv (.t 10))) (.c (.q 73 [] (.mv (.t 12))) (.c (.q 74 [] (.beq true (.t 72) (.t 73))) (.c (.q 75 [] (.mv (.t 74))) (.c (.q 76 [(75, false)] (.mv (.t 9))) (.c (.q 77 [(75, false)] (.mv (.t 11))) (.c (.e (some 78) [(75, false)] (.call false 109 [(.t 76), (.t 77)])) (.c (.q 79 [(75, false)] (.not (.t 78))) (.c (.q 80 [] (.pick (.t 75) (.c (.bool true)) (.t 79))) (.c (.q 81 [] (.mv (.t 80))) (.c (.q 82 [(81, false)] (.mv (.t 16))) (.c (.q 83 [(81, false)] (.mv (.t 18))) (.c (.q 84 [(81, false)] (.beq true (.t 82) (.t 83))) (.c (.q 85 [] (.pick (.t 81) (.c (.bool true)) (.t 84))) (.c (.q 86 [] (.mv (.t 85))) (.c (.q 87 [(86, false)] (.mv (.t 15))) (.c (.q 88 [(86, false)] (.mv (.t 17))) (.c (.q 89 [(86, false)] (.bin .neq (.t 87) (.t 88))) (.c (.q 90 [] (.pick (.t 86) (.c (.bool true)) (.t 89))) (.c (.q 91 [] (.mv (.t 90))) (.c (.q 92 [(91, false)] (.mv (.t 8))) (.c (.e (some 93) [(91, false)] (.call false 151 [(.t 92)])) (.c (.q 94 [(91, false)] (.mv (.t 8))) (.c (.e (some 95) [(91, false)] (.call false 152 [(.t 94)])) (.c (.q 96 [(91, false)] (.beq true (.t 93) (.t 95))) (.c (.q 97 [] (.pick (.t 91) (.c (.bool true)) (.t 96))) .nil))))))))))))))))))))))))))) t14_2) t14_17)
def t14_18 := b14_18
theorem u14_18 : vcK P t14_18 k e w = vcK P b14_18 k e w := rfl
abbrev b14_19 : X := (.seq (.reg [5, 6, 7, 8, 9, 10, 11, 12, 15, 16, 17, 18] (.c (.q 67 [] (.mv (.t 13))) (.c (.q 68 [] (.mv (.t 14))) (.c (.e (some 69) [] (.call false 150 [(.t 67), (.t 68)])) (.c (.q 66 [] (.mv (.t 69))) (.c (.q 70 [] (.ext 0 (.t 66))) (.c (.q 71 [] (.ext 1 (.t 66))) (.c (.q 17 [] (.mv (.t 70))) (.c (.q 18 [] (.mv (.t 71))) .nil))))))))) t14_18)
def t14_19 := b14_19
theorem u14_19 : vcK P t14_19 k e w = vcK P b14_19 k e w := rfl
abbrev b14_20 : X := (.seq (.reg [5, 6, 7, 8, 9, 10, 11, 12, 13, 14, 15, 16] (.c (.q 61 [] (.mv (.t 13))) (.c (.q 62 [] (.mv (.t 14))) (.c (.e (some 63) [] (.call false 149 [(.t 61), (.t 62)])) (.c (.q 60 [] (.mv (.t 63))) (.c (.q 64 [] (.ext 0 (.t 60))) (.c (.q 65 [] (.ext 1 (.t 60))) (.c (.q 15 [] (.mv (.t 64))) (.c (.q 16 [] (.mv (.t 65))) .nil))))))))) t14_19)
def t14_20 := b14_20
theorem u14_20 : vcK P t14_20 k e w = vcK P b14_20 k e w := rfl
abbrev b14_21 : X := (.seq (.reg [5, 6, 7, 8, 9, 10, 11, 12, 13, 14] (.c (.q 56 [] (.mv (.t 1))) (.c (.e (some 57) [] (.call false 148 [(.t 56)])) (.c (.q 55 [] (.mv (.t 57))) (.c (.q 58 [] (.ext 0 (.t 55))) (.c (.q 59 [] (.ext 1 (.t 55))) (.c (.q 13 [] (.mv (.t 58))) (.c (.q 14 [] (.mv (.t 59))) .nil)))))))) t14_20)
def t14_21 := b14_21
theorem u14_21 : vcK P t14_21 k e w = vcK P b14_21 k e w := rfl
abbrev b14_22 : X := (.seq (.reg [1, 5, 6, 7, 8, 9, 10, 11, 12] (.c (.q 48 [] (.lda 3 (.t 5))) (.c (.q 49 [] (.lda 2 (.t 6))) (.c (.q 50 [] (.mv (.t 7))) (.c (.q 51 [] (.mv (.t 8))) (.c (.e (some 52) [] (.call false 50 [(.t 48), (.t 49), (.t 50), (.t 51)])) (.c (.q 47 [] (.mv (.t 52))) (.c (.q 53 [] (.ext 0 (.t 47))) (.c (.q 54 [] (.ext 1 (.t 47))) (.c (.q 11 [] (.mv (.t 53))) (.c (.q 12 [] (.mv (.t 54))) .nil))))))))))) t14_21)
def t14_22 := b14_22
theorem u14_22 : vcK P t14_22 k e w = vcK P b14_22 k e w := rfl
abbrev b14_23 : X := (.seq (.reg [1, 5, 6, 7, 8, 9, 10] (.c (.q 40 [] (.lda 3 (.t 5))) (.c (.q 41 [] (.lda 2 (.t 6))) (.c (.q 42 [] (.mv (.t 7))) (.c (.q 43 [] (.mv (.t 8))) (.c (.e (some 44) [] (.call false 53 [(.t 40), (.t 41), (.t 42), (.t 43)])) (.c (.q 39 [] (.mv (.t 44))) (.c (.q 45 [] (.ext 0 (.t 39))) (.c (.q 46 [] (.ext 1 (.t 39))) (.c (.q 9 [] (.mv (.t 45))) (.c (.q 10 [] (.mv (.t 46))) .nil))))))))))) t14_22)
def t14_23 := b14_23
theorem u14_23 : vcK P t14_23 k e w = vcK P b14_23 k e w := rfl
abbrev b14_24 : X := (.seq (.reg [1, 5, 6, 7, 8] (.c (.q 33 [] (.mv (.t 0))) (.c (.e (some 34) [] (.call false 147 [(.t 33)])) (.c (.q 32 [] (.mv (.t 34))) (.c (.q 35 [] (.ext 0 (.t 32))) (.c (.q 36 [] (.ext 1 (.t 32))) (.c (.q 37 [] (.ext 2 (.t 32))) (.c (.q 38 [] (.ext 3 (.t 32))) (.c (.e (some 5) [] (.al 41 [(S []), (.int .i64 0), (.slice none 0 0)])) (.c (.e (some 6) [] (.al 32 [(S []), (S [])])) (.c (.e none [] (.st 3 (.t 5) (.t 35))) (.c (.e none [] (.st 2 (.t 6) (.t 36))) (.c (.q 7 [] (.mv (.t 37))) (.c (.q 8 [] (.mv (.t 38))) .nil)))))))))))))) t14_23)
def t14_24 := b14_24
theorem u14_24 : vcK P t14_24 k e w = vcK P b14_24 k e w := rfl
abbrev b14_25 : X := (.seq (.seq (.reg [0, 1, 31] (.c (.q 26 [] (.mv (.t 0))) (.c (.q 27 [] (.lens (.t 26))) (.c (.q 28 [] (.mv (.t 1))) (.c (.q 29 [] (.lens (.t 28))) (.c (.q 30 [] (.bin .add (.t 27) (.t 29))) (.c (.q 31 [] (.bin .gtr (.t 30) (.c (.int .i64 1048576)))) .nil))))))) t14_1) t14_24)
def t14_25 := b14_25
theorem u14_25 : vcK P t14_25 k e w = vcK P b14_25 k e w := rfl
abbrev b14_0 : X := (.seq (.reg [0, 1] (.c (.q 4 [] (.mv (.c (.bool false)))) .nil)) t14_25)
def x_lFnMusic := b14_0
theorem u14_0 : vcK P x_lFnMusic k e w = vcK P b14_0 k e w := rfl
def r_lFnMusic : List XO := [(.mv (.t 4))]
theorem c_lFnMusic : convF Try.prog [169, 170, 207, 208, 210, 227, 232, 233, 255, 259, 268, 269, 270, 280, 281, 296, 299, 306, 307, 309] Try.f14 [([0, 1], []), ([0, 1, 31], []), ([4], []), ([1, 5, 6, 7, 8], []), ([1, 5, 6, 7, 8, 9, 10], []), ([1, 5, 6, 7, 8, 9, 10, 11, 12], []), ([5, 6, 7, 8, 9, 10, 11, 12, 13, 14], []), ([5, 6, 7, 8, 9, 10, 11, 12, 13, 14, 15, 16], []), ([5, 6, 7, 8, 9, 10, 11, 12, 15, 16, 17, 18], []), ([5, 6, 7, 8, 9, 10, 97], []), ([4], []), ([5, 6, 7, 8, 9, 99], []), ([4], []), ([7, 8, 9, 19, 20], []), ([7, 8, 9, 19, 108], []), ([4], []), ([7, 8, 9, 19, 21], []), ([7, 8, 9, 19, 21, 109, 110, 111], []), ([21, 111], [7, 8, 9, 19, 109, 110]), ([7, 8, 9, 19, 21, 109, 110, 111, 112], []), ([7, 8, 9, 19, 21, 23, 109, 110, 111], []), ([7, 8, 9, 19, 21, 109, 110, 111], []), ([7, 8, 9, 19, 21, 109, 110, 111], []), ([7, 9, 21, 24, 25], []), ([4], [])] = some (x_lFnMusic, r_lFnMusic) := by kernel_rfl
def us_lFnMusic := aI @u14_0 (aI @u14_1 (aI @u14_2 (aI @u14_3 (aI @u14_4 (aI @u14_5 (aI @u14_6 (aI @u14_7 (aI @u14_8 (aI @u14_9 (aI @u14_10 (aI @u14_11 (aI @u14_12 (aI @u14_13 (aI @u14_14 (aI @u14_15 (aI @u14_16 (aI @u14_17 (aI @u14_18 (aI @u14_19 (aI @u14_20 (aI @u14_21 (aI @u14_22 (aI @u14_23 (aI @u14_24 @u14_25))))))))))))))))))))))))
end

theorem countL_app (p : List UInt8) (l l' : List (List UInt8)) : countL p (l ++ l') = countL p l + countL p l' := by
  unfold countL
  rw [List.filter_append, List.length_append]
theorem scoreL_app (ks : List LK) (l l' : List (List UInt8)) : scoreL ks (l ++ l') = scoreL ks l + scoreL ks l' := by
  unfold scoreL
  induction ks with
  | nil => rfl
  | cons k ks ih =>
    simp only [List.map_cons, List.sum_cons]
    rw [ih, countL_app, Int.natCast_add, Int.mul_add]
    omega
theorem scoreL_none (ks : List LK) : scoreL ks [] = 0 := by
  unfold scoreL
  induction ks with
  | nil => rfl
  | cons k ks ih =>
    simp only [List.map_cons, List.sum_cons, ih]
    simp [countL]
theorem scoreL_leads (ks : List LK) (cs hs : List (List UInt8)) : scoreL ks (leadsL cs hs) = (scoresL ks cs hs).sum := by
  induction hs with
  | nil => exact scoreL_none ks
  | cons h hs ih =>
    have e : leadsL cs (h :: hs) = rowsU h cs cs.length ++ leadsL cs hs := rfl
    rw [e, scoreL_app, ih]
    rfl
theorem scoreL_bd {ks : List LK} (hk : ∀ x ∈ ks, GoodK x) {l : List (List UInt8)} (hl : l.length ≤ 800) : -80000 * (ks.length : Int) ≤ scoreL ks l ∧ scoreL ks l ≤ 80000 * (ks.length : Int) := by
  unfold scoreL
  induction ks with
  | nil => simp
  | cons k ks ih =>
    have h1 := ih fun x hx => hk x (List.mem_cons_of_mem _ hx)
    have h2 := (hk k (List.mem_cons_self ..)).2
    have h3 := countL_le k.pat l
    have h4 := prod_le k.wt (countL k.pat l : Int) h2 ⟨by omega, by omega⟩
    simp only [List.map_cons, List.sum_cons, List.length_cons]
    omega
theorem sum_bd {l : List Int} (h : ∀ x ∈ l, -640000 ≤ x ∧ x ≤ 640000) : -640000 * (l.length : Int) ≤ l.sum ∧ l.sum ≤ 640000 * (l.length : Int) := by
  induction l with
  | nil => simp
  | cons a l ih =>
    have h1 := ih fun x hx => h x (List.mem_cons_of_mem _ hx)
    have h2 := h a (List.mem_cons_self ..)
    simp only [List.sum_cons, List.length_cons]
    omega
theorem sum_take (l : List Int) (i : Nat) (h : i < l.length) : (l.take (i + 1)).sum = (l.take i).sum + l.getD i 0 := by
  rw [List.take_add_one, List.getElem?_eq_getElem h, List.sum_append, List.getD_eq_getElem?_getD, List.getElem?_eq_getElem h]
  simp
theorem touch_rows {nm : List UInt8} {n : Nat} {cs : List (List UInt8)} {b s t : List UInt8} (h : RowsOk nm n cs b s t) : IsRows (rowsT n cs b s t) := by
  have key : ∀ r ∈ rowsT n cs b s t, IsRow r ∧ r.length = n := fun r hr => by
    obtain ⟨x, hx, hr⟩ := List.mem_flatMap.1 hr
    obtain ⟨i, _, rfl⟩ := List.mem_map.1 hx
    obtain ⟨j, _, rfl⟩ := List.mem_map.1 hr
    have hp := headP_row h.1.1 t i
    exact ⟨underL_row _ hp.1, by rw [underL_len]; exact hp.2⟩
  refine ⟨fun r hr => ⟨(key r hr).1, ?_⟩, by rw [rowsT, leadsL_len, headsP_len]; exact h.2⟩
  have h0 : 0 < (rowsT n cs b s t).length := List.length_pos_of_mem hr
  rw [(key r hr).2, (key _ (getD_mem [] h0)).2]
/-- Are rows scored? -/
def SrOk (ks : List LK) (l : List (List UInt8)) : Prop := GoodKs ks ∧ IsRows l
instance (ks : List LK) (l : List (List UInt8)) : Decidable (SrOk ks l) := by unfold SrOk; infer_instance
theorem scoreV_eq (ks : List LK) (l : List (List UInt8)) : scoreV ks l = .tuple ⟨[.int .i64 (if SrOk ks l then scoreL ks l else 0), .bool (decide (SrOk ks l))]⟩ := by
  unfold scoreV
  by_cases h : GoodKs ks ∧ IsRows l
  · have h' : SrOk ks l := h
    rw [if_pos h, if_pos h', decide_eq_true h']
  · have h' : ¬ SrOk ks l := h
    rw [if_neg h, if_neg h', decide_eq_false h']
set_option maxHeartbeats 4000000 in
theorem lFnMusic_ok (v u : Value) (code more : List UInt8) (hcl : code.length ≤ 140737488355328) (hml : more.length ≤ 140737488355328) (w : World) (h : Sq fU 1 w v code) (h' : Sq fU 1 w u more) : Fn 14 [v, u] w (fun r _ => r = .bool true) := by
  (refine callsV_of mix Try.func14 c_lFnMusic ?_; simp only [↓vsd, vsn, gW, qd, qv, ev, pick, argE, zipE, ne_eq, eq_self, forall_const, implies_true, if_true, if_false, reduceIte, reduceCtorEq, Nat.reduceEqDiff, Nat.reduceAdd, Nat.reduceLT, ↓us_lFnMusic, r_lFnMusic])
  simp only [↓vsd, vsn, gW, qd, qv, ev, pick, argE, zipE, ne_eq, eq_self, forall_const, implies_true, if_true, if_false, reduceIte, reduceCtorEq, Nat.reduceEqDiff, Nat.reduceAdd, Nat.reduceLT, ↓us_lFnMusic, r_lFnMusic, h.facts, h'.facts]
  refine ⟨inR_i64 (by omega), fun _ => Ext.refl _, fun hsm => ?_⟩
  have hlen : code.length ≤ 1048576 ∧ more.length ≤ 1048576 := by omega
  refine m_call (sDrawScoreLeads_ok v code hlen.1 _ h) ?_
  rintro _ w1 hx1 ⟨nm, st, x, cs, b, s, t, y, ks, rfl, ⟨ho1, hnm, hst, hcs, hc8, hbs⟩, ht, hok1, hks, hkp⟩
  simp only [↓vsd, vsn, gW, qd, qv, ev, pick, argE, zipE, ne_eq, eq_self, forall_const, implies_true, if_true, if_false, reduceIte, reduceCtorEq, Nat.reduceEqDiff, Nat.reduceAdd, Nat.reduceLT, ↓us_lFnMusic, r_lFnMusic, ext4]
  refine m_al ?_
  rintro bm w2 hbm hblk2 hx2 hs2
  simp only [↓vsd, vsn, gW, qd, qv, ev, pick, argE, zipE, ne_eq, eq_self, forall_const, implies_true, if_true, if_false, reduceIte, reduceCtorEq, Nat.reduceEqDiff, Nat.reduceAdd, Nat.reduceLT, ↓us_lFnMusic, r_lFnMusic, ext4]
  refine m_al ?_
  rintro bk w3 hbk hblk3 hx3 hs3
  simp only [↓vsd, vsn, gW, qd, qv, ev, pick, argE, zipE, ne_eq, eq_self, forall_const, implies_true, if_true, if_false, reduceIte, reduceCtorEq, Nat.reduceEqDiff, Nat.reduceAdd, Nat.reduceLT, ↓us_lFnMusic, r_lFnMusic, ext4]
  refine m_st (Blk.ext hblk2 hx3) rfl (Nat.le_refl 3) (fM_one nm st x ho1.sq.one') ?_
  rintro w4 hblk4 hu4
  have hm4 : Blk w4 bm (fM nm st x) 41 := hblk4
  simp only [↓vsd, vsn, gW, qd, qv, ev, pick, argE, zipE, ne_eq, eq_self, forall_const, implies_true, if_true, if_false, reduceIte, reduceCtorEq, Nat.reduceEqDiff, Nat.reduceAdd, Nat.reduceLT, ↓us_lFnMusic, r_lFnMusic, ext4]
  refine m_st (hu4.blk hblk3 (by omega)) rfl (Nat.le_refl 2) (fQ_one b s) ?_
  rintro w5 hblk5 hu5
  have hkL : Blk w5 bk (fQ b s) 32 := hblk5
  have hmL := hu5.blk hm4 (by omega)
  have hoL := (((ho1.ext hx2).ext hx3).upd hu4 (ho1.away (by omega))).upd hu5 (ho1.away (by omega))
  have hoK := (((hok1.ext hx2).ext hx3).upd hu4 (hok1.away (by omega))).upd hu5 (hok1.away (by omega))
  have hxL : Ext w w5 := hu5.below (hu4.below ((hx1.trans hx2).trans hx3) (by have := hx1.size; omega)) (by have := hx1.size; omega)
  have hnm' : nm.length ≤ 1048576 := by omega
  have hc8' : ∀ c ∈ cs, c.length ≤ 1048576 := fun c hc => by have := hc8 c hc; omega
  have hcs' : cs.length ≤ 1000000000 := by omega
  have hbs' : b.length ≤ 1048576 ∧ s.length ≤ 1048576 := by omega
  have ht' : t.length ≤ 1000000000 := by omega
  have hks' : ks.length ≤ 1048576 := by omega
  have hkp' : ∀ q ∈ ks, q.pat.length ≤ 1048576 := fun q hq => by have := hkp q hq; omega
  clear hblk2 hblk3 hblk4 hblk5 hx1 hx2 hx3 hu4 hu5 hm4 ho1 hok1 hbm hbk hs2 hs3
  simp only [↓vsd, vsn, gW, qd, qv, ev, pick, argE, zipE, ne_eq, eq_self, forall_const, implies_true, if_true, if_false, reduceIte, reduceCtorEq, Nat.reduceEqDiff, Nat.reduceAdd, Nat.reduceLT, ↓us_lFnMusic, r_lFnMusic, hmL.facts, hkL.facts, fMg, fQg]
  refine m_call (iScoreLeads_ok nm st x y cs b s t ks hnm' hc8' hcs' hbs' ht' hkp' hks' _ hoL.sq hoK.sq) ?_
  rintro _ w6 hxn ⟨z1, rfl, hz1⟩
  have hmL := hmL.ext hxn
  have hkL := hkL.ext hxn
  have hoL := hoL.ext hxn
  have hoK := hoK.ext hxn
  have hxL := hxL.trans hxn
  simp only [↓vsd, vsn, gW, qd, qv, ev, pick, argE, zipE, ne_eq, eq_self, forall_const, implies_true, if_true, if_false, reduceIte, reduceCtorEq, Nat.reduceEqDiff, Nat.reduceAdd, Nat.reduceLT, ↓us_lFnMusic, r_lFnMusic, hmL.facts, hkL.facts, fMg, fQg]
  refine m_call (sScoreLeads_ok nm st x y cs b s t ks hnm' hc8' hcs' hbs' ht' hkp' hks' _ hoL.sq hoK.sq) ?_
  rintro _ w7 hxn ⟨z2, rfl, hz2⟩
  have hz1 := hz1.ext hxn
  have hmL := hmL.ext hxn
  have hkL := hkL.ext hxn
  have hoL := hoL.ext hxn
  have hoK := hoK.ext hxn
  have hxL := hxL.trans hxn
  simp only [↓vsd, vsn, gW, qd, qv, ev, pick, argE, zipE, ne_eq, eq_self, forall_const, implies_true, if_true, if_false, reduceIte, reduceCtorEq, Nat.reduceEqDiff, Nat.reduceAdd, Nat.reduceLT, ↓us_lFnMusic, r_lFnMusic]
  refine m_call (sDrawScoreRows_ok u more hlen.2 _ (h'.ext hxL)) ?_
  rintro _ w8 hxn ⟨x2, k2, y2, l2, rfl, ⟨hok2, hk2, hkp2⟩, ho2, hl2⟩
  have hz1 := hz1.ext hxn
  have hz2 := hz2.ext hxn
  have hmL := hmL.ext hxn
  have hkL := hkL.ext hxn
  have hoL := hoL.ext hxn
  have hoK := hoK.ext hxn
  have hxL := hxL.trans hxn
  have hkp2' : ∀ q ∈ k2, q.pat.length ≤ 1048576 := fun q hq => by have := hkp2 q hq; omega
  simp only [↓vsd, vsn, gW, qd, qv, ev, pick, argE, zipE, ne_eq, eq_self, forall_const, implies_true, if_true, if_false, reduceIte, reduceCtorEq, Nat.reduceEqDiff, Nat.reduceAdd, Nat.reduceLT, ↓us_lFnMusic, r_lFnMusic]
  refine m_call (iScoreRows_ok x2 y2 k2 l2 hkp2' (by omega) (by omega) _ hok2.sq ho2.sq) ?_
  rintro re w9 hxn hre
  rw [scoreV_eq] at hre
  subst hre
  have hz1 := hz1.ext hxn
  have hz2 := hz2.ext hxn
  have hok2 := hok2.ext hxn
  have ho2 := ho2.ext hxn
  have hmL := hmL.ext hxn
  have hkL := hkL.ext hxn
  have hoL := hoL.ext hxn
  have hoK := hoK.ext hxn
  have hxL := hxL.trans hxn
  simp only [↓vsd, vsn, gW, qd, qv, ev, pick, argE, zipE, ne_eq, eq_self, forall_const, implies_true, if_true, if_false, reduceIte, reduceCtorEq, Nat.reduceEqDiff, Nat.reduceAdd, Nat.reduceLT, ↓us_lFnMusic, r_lFnMusic]
  refine m_call (sScoreRows_ok x2 y2 k2 l2 hkp2' (by omega) (by omega) _ hok2.sq ho2.sq) ?_
  rintro re w10 hxn hre
  rw [scoreV_eq] at hre
  subst hre
  have hz1 := hz1.ext hxn
  have hz2 := hz2.ext hxn
  have hmL := hmL.ext hxn
  have hkL := hkL.ext hxn
  have hoL := hoL.ext hxn
  have hoK := hoK.ext hxn
  have hxL := hxL.trans hxn
  clear hok2 ho2
  simp only [↓vsd, vsn, gW, qd, qv, ev, pick, argE, zipE, ne_eq, eq_self, forall_const, implies_true, if_true, if_false, reduceIte, reduceCtorEq, Nat.reduceEqDiff, Nat.reduceAdd, Nat.reduceLT, ↓us_lFnMusic, r_lFnMusic]
  refine m_call (lqSameN_ok z1 z2 _ _ _ hz1.sq hz2.sq (by unfold scV; split <;> simp [scoresL_len, headsP_len]; omega)) ?_
  rintro _ w11 hxn rfl
  have hz1 := hz1.ext hxn
  have hmL := hmL.ext hxn
  have hkL := hkL.ext hxn
  have hoL := hoL.ext hxn
  have hoK := hoK.ext hxn
  have hxL := hxL.trans hxn
  simp only [↓vsd, vsn, gW, qd, qv, ev, pick, argE, zipE, ne_eq, eq_self, forall_const, implies_true, if_true, if_false, reduceIte, reduceCtorEq, Nat.reduceEqDiff, Nat.reduceAdd, Nat.reduceLT, ↓us_lFnMusic, r_lFnMusic]
  refine m_call (iGoodLiked_ok y ks hkp' hks' _ hoK.sq) ?_
  rintro _ w12 hxn rfl
  have hz1 := hz1.ext hxn
  have hmL := hmL.ext hxn
  have hkL := hkL.ext hxn
  have hoL := hoL.ext hxn
  have hoK := hoK.ext hxn
  have hxL := hxL.trans hxn
  simp only [↓vsd, vsn, gW, qd, qv, ev, pick, argE, zipE, ne_eq, eq_self, forall_const, implies_true, if_true, if_false, reduceIte, reduceCtorEq, Nat.reduceEqDiff, Nat.reduceAdd, Nat.reduceLT, ↓us_lFnMusic, r_lFnMusic]
  refine m_call (sGoodLiked_ok y ks hkp' hks' _ hoK.sq) ?_
  rintro _ w13 hxn rfl
  have hz1 := hz1.ext hxn
  have hmL := hmL.ext hxn
  have hkL := hkL.ext hxn
  have hoL := hoL.ext hxn
  have hoK := hoK.ext hxn
  have hxL := hxL.trans hxn
  by_cases hS : ScOk nm st cs b s t ks
  · obtain ⟨n, rfl⟩ : ∃ n : Nat, st = n := ⟨st.toNat, by omega⟩
    have hSd := decide_eq_true hS
    have hcl := hS.1.1.1.2.2.1
    have ht60 := hS.1.2.1
    have h8 := hS.1.1.1.2.1
    rw [scV, if_pos hS, Int.toNat_natCast] at hz1
    simp only [↓vsd, vsn, gW, qd, qv, ev, pick, argE, zipE, ne_eq, eq_self, forall_const, implies_true, if_true, if_false, reduceIte, reduceCtorEq, Nat.reduceEqDiff, Nat.reduceAdd, Nat.reduceLT, ↓us_lFnMusic, r_lFnMusic, hSd, hmL.facts, hkL.facts, fMg, fQg]
    refine m_call (sTouchRows_ok nm n x cs b s t hnm' hc8' hcs' hbs' ht' _ hoL.sq) ?_
    rintro _ w14 hxn ⟨yr, rfl, hor⟩
    have hz1 := hz1.ext hxn
    have hmL := hmL.ext hxn
    have hkL := hkL.ext hxn
    have hoL := hoL.ext hxn
    have hoK := hoK.ext hxn
    have hxL := hxL.trans hxn
    by_cases hR : RowsOk nm n cs b s t
    · have hRd := decide_eq_true hR
      rw [rowsV, if_pos hR, Int.toNat_natCast] at hor
      simp only [↓vsd, vsn, gW, qd, qv, ev, pick, argE, zipE, ne_eq, eq_self, forall_const, implies_true, if_true, if_false, reduceIte, reduceCtorEq, Nat.reduceEqDiff, Nat.reduceAdd, Nat.reduceLT, ↓us_lFnMusic, r_lFnMusic, hRd]
      have hzl : (scoresL ks cs (headsP n cs b s t t.length)).length = t.length := by rw [scoresL_len, headsP_len]
      have hsm : scoreL ks (rowsT n cs b s t) = (scoresL ks cs (headsP n cs b s t t.length)).sum := scoreL_leads _ _ _
      have hzb : ∀ a ∈ scoresL ks cs (headsP n cs b s t t.length), -640000 ≤ a ∧ a ≤ 640000 := fun a ha => by
        obtain ⟨hd, _, rfl⟩ := List.mem_map.1 ha
        have := scoreL_bd hS.2.1 (l := rowsU hd cs cs.length) (by rw [rowsU_len]; omega)
        have := hS.2.2
        omega
      have hrw : (rowsT n cs b s t).length ≤ 1000000000 := by rw [rowsT, leadsL_len, headsP_len]; have := hR.2; omega
      have hsr : SrOk ks (rowsT n cs b s t) := ⟨hS.2, touch_rows hR⟩
      generalize hzs : scoresL ks cs (headsP n cs b s t t.length) = zs at *
      simp only [↓vsd, vsn, gW, qd, qv, ev, pick, argE, zipE, ne_eq, eq_self, forall_const, implies_true, if_true, if_false, reduceIte, reduceCtorEq, Nat.reduceEqDiff, Nat.reduceAdd, Nat.reduceLT, ↓us_lFnMusic, r_lFnMusic, hz1.sq.facts]
      refine m_upto zs.length (fun i vs w' => vs = [.int .i64 (zs.take i).sum, .int .i64 i] ∧ Ext w14 w') ⟨rfl, Ext.refl _⟩ ?_
      rintro i vs w15 hi ⟨rfl, hx15⟩
      have hq15 := hz1.sq.ext hx15
      have hbi := sum_bd (l := zs.take i) fun a ha => hzb a (List.mem_of_mem_take ha)
      rw [List.length_take] at hbi
      by_cases hlt : i < zs.length
      · have hltI : (i : Int) < zs.length := by omega
        have hltJ : ¬ (zs.length : Int) ≤ i := by omega
        have hai := hzb _ (getD_mem 0 hlt)
        have hst := sum_take zs i hlt
        simp only [↓vsd, vsn, gW, qd, qv, ev, pick, argE, zipE, ne_eq, eq_self, forall_const, implies_true, if_true, if_false, reduceIte, reduceCtorEq, Nat.reduceEqDiff, Nat.reduceAdd, Nat.reduceLT, ↓us_lFnMusic, r_lFnMusic, hltI, hltJ, hq15.facts, hq15.at1 0 hlt]
        exact ⟨by omega, inR_i64 (by omega), inR_i64 (by omega), UpTo.next hlt ⟨by rw [hst]; rfl, hx15⟩⟩
      · obtain rfl : i = zs.length := by omega
        have hltI : ¬ (zs.length : Int) < zs.length := by omega
        simp only [↓vsd, vsn, gW, qd, qv, ev, pick, argE, zipE, ne_eq, eq_self, forall_const, implies_true, if_true, if_false, reduceIte, reduceCtorEq, Nat.reduceEqDiff, Nat.reduceAdd, Nat.reduceLT, ↓us_lFnMusic, r_lFnMusic, hltI]
        rw [List.take_length]
        refine m_call (iScoreRows_ok y yr ks (rowsT n cs b s t) hkp' hks' hrw _ (hoK.ext hx15).sq (hor.ext hx15).sq) ?_
        rintro re w16 hxn hre
        rw [scoreV_eq, if_pos hsr, decide_eq_true hsr, hsm] at hre
        subst hre
        have hq16 := hq15.ext hxn
        simp only [↓vsd, vsn, gW, qd, qv, ev, pick, argE, zipE, ne_eq, eq_self, forall_const, implies_true, if_true, if_false, reduceIte, reduceCtorEq, Nat.reduceEqDiff, Nat.reduceAdd, Nat.reduceLT, ↓us_lFnMusic, r_lFnMusic, hq16.facts, hzl]
        exact (hxL.trans hx15).trans hxn
    · have hRd := decide_eq_false hR
      simp only [↓vsd, vsn, gW, qd, qv, ev, pick, argE, zipE, ne_eq, eq_self, forall_const, implies_true, if_true, if_false, reduceIte, reduceCtorEq, Nat.reduceEqDiff, Nat.reduceAdd, Nat.reduceLT, ↓us_lFnMusic, r_lFnMusic, hRd]
      exact hxL
  · have hSd := decide_eq_false hS
    simp only [↓vsd, vsn, gW, qd, qv, ev, pick, argE, zipE, ne_eq, eq_self, forall_const, implies_true, if_true, if_false, reduceIte, reduceCtorEq, Nat.reduceEqDiff, Nat.reduceAdd, Nat.reduceLT, ↓us_lFnMusic, r_lFnMusic, hSd]
    exact hxL
end Go.Proofs.Ytpnopboffalfnaa
