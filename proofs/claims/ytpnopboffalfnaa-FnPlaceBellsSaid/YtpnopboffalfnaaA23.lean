/-
  Hunt bells and still bells, of both sides.
  Conditions: none.
-/
import Derived.Test.YtpnopboffalfnaaA11
import Derived.Test.YtpnopboffalfnaaVw
set_option linter.unusedSimpArgs false
set_option linter.unusedVariables false
set_option linter.defProp false
namespace Go.Proofs.Ytpnopboffalfnaa
open Go Go.RowKit
section
variable (P : Program) (k : KT) (e : Env) (w : World)
abbrev b213_1 : X := (.cond (.t 15) (.seq (.reg [4] (.c (.q 4 [] (.mv (.c (.bool true)))) .nil)) .ret) .skip)
def t213_1 := b213_1
theorem u213_1 : vcK P t213_1 k e w = vcK P b213_1 k e w := rfl
abbrev b213_2 : X := (.seq (.reg [1, 7, 8, 9, 15] (.c (.q 13 [] (.mv (.t 6))) (.c (.q 14 [] (.mv (.t 1))) (.c (.q 15 [] (.bin .eql (.t 13) (.t 14))) .nil)))) t213_1)
def t213_2 := b213_2
theorem u213_2 : vcK P t213_2 k e w = vcK P b213_2 k e w := rfl
abbrev b213_3 : X := (.reg [1, 7, 8, 9] (.c (.q 16 [] (.bin .add (.t 9) (.c (.int .i64 1)))) (.c (.q 9 [] (.mv (.t 16))) .nil)))
def t213_3 := b213_3
theorem u213_3 : vcK P t213_3 k e w = vcK P b213_3 k e w := rfl
abbrev b213_4 : X := (.seq (.blk 1 (.seq (.reg [1, 6, 7, 8, 9] (.c (.q 11 [] (.ia 1 (.t 7) (.t 9))) (.c (.q 12 [] (.ld (.t 11))) (.c (.q 6 [] (.mv (.t 12))) .nil)))) t213_2)) t213_3)
def t213_4 := b213_4
theorem u213_4 : vcK P t213_4 k e w = vcK P b213_4 k e w := rfl
abbrev b213_5 : X := (.seq (.cond (.t 10) .skip (.exit 0)) t213_4)
def t213_5 := b213_5
theorem u213_5 : vcK P t213_5 k e w = vcK P b213_5 k e w := rfl
abbrev b213_6 : X := (.seq (.reg [1, 7, 8, 9, 10] (.c (.q 10 [] (.bin .lss (.t 9) (.t 8))) .nil)) t213_5)
def t213_6 := b213_6
theorem u213_6 : vcK P t213_6 k e w = vcK P b213_6 k e w := rfl
abbrev b213_7 : X := (.blk 0 (.loop [9] [1, 7, 8] t213_6))
def t213_7 := b213_7
theorem u213_7 : vcK P t213_7 k e w = vcK P b213_7 k e w := rfl
abbrev b213_8 : X := (.seq (.reg [4] (.c (.q 4 [] (.mv (.c (.bool false)))) .nil)) .ret)
def t213_8 := b213_8
theorem u213_8 : vcK P t213_8 k e w = vcK P b213_8 k e w := rfl
abbrev b213_9 : X := (.seq (.seq (.reg [1, 7, 8, 9] (.c (.q 7 [] (.mv (.t 0))) (.c (.q 8 [] (.lens (.t 7))) (.c (.q 9 [] (.mv (.c (.int .i64 0)))) .nil)))) t213_7) t213_8)
def t213_9 := b213_9
theorem u213_9 : vcK P t213_9 k e w = vcK P b213_9 k e w := rfl
abbrev b213_0 : X := (.seq (.reg [0, 1] (.c (.q 4 [] (.mv (.c (.bool false)))) .nil)) t213_9)
def x_lhas := b213_0
theorem u213_0 : vcK P x_lhas k e w = vcK P b213_0 k e w := rfl
def r_lhas : List XO := [(.mv (.t 4))]
theorem c_lhas : convF Try.prog [169, 170, 207, 208, 210, 227, 232, 233, 255, 259, 268, 269, 270, 280, 281, 296, 299, 306, 307, 309] Try.f213 [([0, 1], []), ([1, 7, 8, 9], []), ([9], [1, 7, 8]), ([1, 7, 8, 9, 10], []), ([1, 6, 7, 8, 9], []), ([1, 7, 8, 9, 15], []), ([4], []), ([1, 7, 8, 9], []), ([4], [])] = some (x_lhas, r_lhas) := by kernel_rfl
def us_lhas := aI @u213_0 (aI @u213_1 (aI @u213_2 (aI @u213_3 (aI @u213_4 (aI @u213_5 (aI @u213_6 (aI @u213_7 (aI @u213_8 @u213_9))))))))
abbrev b73_1 : X := (.cond (.t 16) (.seq (.reg [4] (.c (.q 4 [] (.mv (.c (.bool false)))) .nil)) .ret) .skip)
def t73_1 := b73_1
theorem u73_1 : vcK P t73_1 k e w = vcK P b73_1 k e w := rfl
abbrev b73_2 : X := (.seq (.reg [1, 7, 8, 9, 16] (.c (.q 13 [] (.mv (.t 1))) (.c (.q 14 [] (.mv (.t 6))) (.c (.e (some 15) [] (.call false 213 [(.t 13), (.t 14)])) (.c (.q 16 [] (.not (.t 15))) .nil))))) t73_1)
def t73_2 := b73_2
theorem u73_2 : vcK P t73_2 k e w = vcK P b73_2 k e w := rfl
abbrev b73_3 : X := (.reg [1, 7, 8, 9] (.c (.q 17 [] (.bin .add (.t 9) (.c (.int .i64 1)))) (.c (.q 9 [] (.mv (.t 17))) .nil)))
def t73_3 := b73_3
theorem u73_3 : vcK P t73_3 k e w = vcK P b73_3 k e w := rfl
abbrev b73_4 : X := (.seq (.blk 1 (.seq (.reg [1, 6, 7, 8, 9] (.c (.q 11 [] (.ia 1 (.t 7) (.t 9))) (.c (.q 12 [] (.ld (.t 11))) (.c (.q 6 [] (.mv (.t 12))) .nil)))) t73_2)) t73_3)
def t73_4 := b73_4
theorem u73_4 : vcK P t73_4 k e w = vcK P b73_4 k e w := rfl
abbrev b73_5 : X := (.seq (.cond (.t 10) .skip (.exit 0)) t73_4)
def t73_5 := b73_5
theorem u73_5 : vcK P t73_5 k e w = vcK P b73_5 k e w := rfl
abbrev b73_6 : X := (.seq (.reg [1, 7, 8, 9, 10] (.c (.q 10 [] (.bin .lss (.t 9) (.t 8))) .nil)) t73_5)
def t73_6 := b73_6
theorem u73_6 : vcK P t73_6 k e w = vcK P b73_6 k e w := rfl
abbrev b73_7 : X := (.blk 0 (.loop [9] [1, 7, 8] t73_6))
def t73_7 := b73_7
theorem u73_7 : vcK P t73_7 k e w = vcK P b73_7 k e w := rfl
abbrev b73_8 : X := (.seq (.reg [4] (.c (.q 4 [] (.mv (.c (.bool true)))) .nil)) .ret)
def t73_8 := b73_8
theorem u73_8 : vcK P t73_8 k e w = vcK P b73_8 k e w := rfl
abbrev b73_9 : X := (.seq (.seq (.reg [1, 7, 8, 9] (.c (.q 7 [] (.mv (.t 0))) (.c (.q 8 [] (.lens (.t 7))) (.c (.q 9 [] (.mv (.c (.int .i64 0)))) .nil)))) t73_7) t73_8)
def t73_9 := b73_9
theorem u73_9 : vcK P t73_9 k e w = vcK P b73_9 k e w := rfl
abbrev b73_0 : X := (.seq (.reg [0, 1] (.c (.q 4 [] (.mv (.c (.bool false)))) .nil)) t73_9)
def x_lwithin := b73_0
theorem u73_0 : vcK P x_lwithin k e w = vcK P b73_0 k e w := rfl
def r_lwithin : List XO := [(.mv (.t 4))]
theorem c_lwithin : convF Try.prog [169, 170, 207, 208, 210, 227, 232, 233, 255, 259, 268, 269, 270, 280, 281, 296, 299, 306, 307, 309] Try.f73 [([0, 1], []), ([1, 7, 8, 9], []), ([9], [1, 7, 8]), ([1, 7, 8, 9, 10], []), ([1, 6, 7, 8, 9], []), ([1, 7, 8, 9, 16], []), ([4], []), ([1, 7, 8, 9], []), ([4], [])] = some (x_lwithin, r_lwithin) := by kernel_rfl
def us_lwithin := aI @u73_0 (aI @u73_1 (aI @u73_2 (aI @u73_3 (aI @u73_4 (aI @u73_5 (aI @u73_6 (aI @u73_7 (aI @u73_8 @u73_9))))))))
end

section
variable {P : Program} {m : Option World} {ps : List Nat} {k : KT} {r : XT} {d : Option Nat} {l : EL} {w : World}
/-- A call of a function's value. -/
theorem m_callv {n : Nat} {first cap args : List Value} {R : Value → World → Prop} (hfn : ∃ fn, P.funcs[n]? = some fn ∧ fn.body.isSome = true ∧ (fn.name == "runtime.NumGoroutine") = false)
    (h : CallsV P n (first ++ args ++ cap) w fun v w' => Ext w w' ∧ R v w') (hR : ∀ v w', Ext w w' → R v w' → ∀ s, ops P m ps k r (setO ⟨l, s⟩ d v) w') : callvL P m ps k r d l w (.func (.func n) ⟨first⟩ ⟨cap⟩) args := by
  unfold callvL
  intro s
  unfold callvK
  exact ⟨n, first, cap, rfl, hfn, CallsV.mono h fun v w' ⟨a, b⟩ => hR v w' a b s⟩
end
/-- An append, which leaves what the old slice shows. -/
theorem m_app3 {α : Type} {f : α → List Value} {z : Nat} {E : TypeId} {B : Nat} {w : World} {v : Value} {l : List α} {P : Program} {m : Option World} {ps : List Nat} {k : KT} {r : XT} {d : Option Nat} {e : EL} {T bytes : Nat} {zero : List Value} {ty : TypeId} {x : Value} {l' : List α}
    (ho : Own f z E B w v l) (hx : Sq f z w x l') (h1 : ∀ a, ∀ u ∈ f a, u.oneCell' = true) (hz : zero.length = z ∧ 0 < z) (hn : l.length + l'.length ≤ 1000000000) (hb : bytes ≤ 100000) (hB : B ≤ w.heap.size)
    (h : ∀ v' w', Own f z E B w' v' (l ++ l') → Own f z E B w' v l → w.grownBy w' v.ownBlock → (∀ b, v'.ownBlock = some b → v.ownBlock = some b ∨ w.heap.size ≤ b) → ∀ q, ops P m ps k r (setO ⟨e, q⟩ d v') w') : appL P m ps k r d e w T E z bytes zero ty v x := by
  unfold appL appK runK
  rintro q ⟨hul, i, z0, hi, hs, hby, hz0, hcs⟩
  have hsz : z0.cells.size = z := by rw [← hz.1, ← hcs]; exact Array.size_eq_length_toList
  have hnews : ∀ u ∈ l'.flatMap f, u.oneCell' = true := fun u hu => by obtain ⟨a, _, ha⟩ := List.mem_flatMap.1 hu; exact h1 a u ha
  have hml : l.length + l'.length ≤ maxLen := by unfold maxLen; omega
  have hbb : (l.length + l'.length) * bytes ≤ 140737488355328 := Nat.le_trans (Nat.mul_le_mul hn hb) (by decide)
  rcases hx.2.2 with ⟨rfl, h0⟩ | ⟨a, c, rfl, hnc, hc⟩
  · obtain rfl : l' = [] := List.length_eq_zero_iff.1 h0
    have hr : (Builtin.append_ #[T, T] ty #[v, .slice none 0 0]).run P w = .ok v w := by
      rcases ho.2 with ⟨rfl, _⟩ | ⟨g, cap, cur, rfl, _, _, hle, _⟩
      · simp [Builtin.append_, run_underlying hul, sizeOf, typeInfo, hi, Builtin.lenOf, Builtin.firstCells]
      · simp [Builtin.append_, run_underlying hul, sizeOf, typeInfo, hi, Builtin.lenOf, Builtin.firstCells, hle, storeCells]
    exact ⟨v, w, hr, fun _ _ h _ => absurd h (by decide), h v w (by simpa using ho) ho ⟨rfl, rfl, rfl, Nat.le_refl _, fun _ _ _ => rfl⟩ (fun _ h => .inl h) q⟩
  · rcases ho.2 with ⟨rfl, rfl⟩ | ⟨g, cap, cur, rfl, hg, hblk, hle, hcm, hcl, hct⟩
    · obtain ⟨v', w', hr, hw, hg, _⟩ := run_append_own (P := P) w w.heap.size T ty E i z0 z bytes hul hi hz0 hs hby hsz hz.2 (.slice none 0 0) 0 [] (World.ownsRow_nil w _ E z) a l'.length c (l'.flatMap f) hx.2.1
        hc hnews (by simpa using hml) (by simpa using hbb) (Nat.le_refl _)
      refine ⟨v', w', hr, fun _ _ h _ => absurd h (by decide), h v' w' (?_ : Own f z E B w' v' ([] ++ l')) ⟨ho.1, .inl ⟨rfl, rfl⟩⟩ hg (fun b hb => .inr (Own.bound (Own.of (B := w.heap.size) ho.1 (by rw [Nat.zero_add, List.nil_append] at hw; exact hw) (Nat.le_refl _)) b hb).1) q⟩
      rw [Nat.zero_add, List.nil_append] at hw
      rw [List.nil_append]
      exact Own.of ho.1 hw hB
    · by_cases hroom : l.length + l'.length ≤ cap
      · have hfl := flat_len ho.1 l'
        have hmul : l.length * z + l'.length * z ≤ cap * z := by rw [← Nat.add_mul]; exact Nat.mul_le_mul_right z hroom
        subst hs
        have hr := run_append_room_cells (P := P) w T ty E i hul hi g 0 l.length cap a l'.length c (l'.flatMap f) hx.2.1 hc hnews hroom
          (fun j hj => by rw [hblk.cell, List.getElem?_eq_getElem (by omega)]; rfl) (fun j hj => hblk.frozen _ (by omega))
        obtain ⟨_, hb', hu⟩ := storeCells_run (P := P) (off := 0 + l.length * i.size) (vs := l'.flatMap f) hblk (by omega) hnews
        refine ⟨_, _, hr, fun _ _ h _ => absurd h (by decide), h _ _ ⟨ho.1, .inr ⟨g, cap, _, by rw [List.length_append], hg, hb', by rw [List.length_append]; exact hroom, hcm, by rw [spl_len _ _ _ (by omega)]; exact hcl, ?_⟩⟩ ⟨ho.1, .inr ⟨g, cap, _, rfl, hg, hb', hle, hcm, by rw [spl_len _ _ _ (by omega)]; exact hcl, ?_⟩⟩ hu.grown (fun b hb2 => .inl (by simpa only [Value.ownBlock] using hb2)) q⟩
        · rw [List.length_append, Nat.add_mul, ← hfl, List.flatMap_append, ← hct, Nat.zero_add]
          exact spl_head _ _ _ (by omega)
        · rw [← hct, Nat.zero_add]
          have := spl_head cur (l'.flatMap f) (l.length * i.size) (by omega)
          have h2 := congrArg (List.take (l.length * i.size)) this
          rw [List.take_take, Nat.min_eq_left (by omega), List.take_append_of_le_length (by rw [List.length_take]; omega), List.take_take, Nat.min_self] at h2
          exact h2
      · obtain ⟨v', w', hr, hw, hg'⟩ := run_append_arg_grows (P := P) w T ty E i z0 z bytes hul hi hz0 hs hby hsz hz.2 ⟨g, 0, none⟩ l.length cap (l.flatMap f) (flat_len ho.1 l)
          (fun j u hj => by
            rw [← hct, List.getElem?_take] at hj
            rw [Addr.add_lit, Nat.zero_add, hblk.cell]
            split at hj
            · exact hj
            · cases hj)
          a l'.length c (l'.flatMap f) hx.2.1 hc (by omega) hml hbb
        refine ⟨v', w', hr, fun _ _ h _ => absurd h (by decide), h v' w' (Own.of ho.1 (by rw [List.length_append, List.flatMap_append]; exact hw) hB) (ho.ext ⟨hg'.os, hg'.tape, hg'.output, hg'.size, fun k hk => hg'.block k hk (Option.some_ne_none _)⟩) ⟨hg'.os, hg'.tape, hg'.output, hg'.size, fun k hk _ => hg'.block k hk (Option.some_ne_none _)⟩ (fun b hb => .inr (Own.bound (Own.of (B := w.heap.size) ho.1 (by rw [List.length_append, List.flatMap_append]; exact hw) (Nat.le_refl _)) b hb).1) q⟩
/-- The bells that are in their own places in all of some rows. -/
def stillK (rows : List (List UInt8)) (n : Nat) : List Int := ((List.range n).filter fun i => decide (∀ r ∈ rows, r.getD i 0 = UInt8.ofNat (49 + i))).map fun i : Nat => ((i : Int) + 1)
theorem stillK_succ (rows : List (List UInt8)) (n : Nat) : stillK rows (n + 1) = stillK rows n ++ if (∀ r ∈ rows, r.getD n 0 = UInt8.ofNat (49 + n)) then [(n : Int) + 1] else [] := by
  rw [stillK, List.range_succ, List.filter_append, List.map_append]
  congr 1
  by_cases h : ∀ r ∈ rows, r.getD n 0 = UInt8.ofNat (49 + n)
  · rw [if_pos h, List.filter_cons_of_pos (by rw [decide_eq_true h])]; rfl
  · rw [if_neg h, List.filter_cons_of_neg (by rw [decide_eq_false h]; decide)]; rfl
theorem stillK_len (rows : List (List UInt8)) (n : Nat) : (stillK rows n).length ≤ n := by
  rw [stillK, List.length_map]
  exact Nat.le_trans (List.length_filter_le _ _) (by simp)
theorem take_mem {α : Type} {l : List α} {k : Nat} {d : α} (h : k < l.length) : l.getD k d ∈ l.take (k + 1) := by
  have e : l.take (k + 1) = l.take k ++ [l[k]] := by rw [List.take_add_one, List.getElem?_eq_getElem h]; rfl
  rw [List.getD_eq_getElem?_getD, List.getElem?_eq_getElem h, e]
  exact List.mem_append_right _ (List.mem_singleton.2 rfl)
theorem own_bell (c : UInt8) (i : Nat) (h : i ≤ 100) : ((c.toNat : Int) - 48 = ((i + 1 : Nat) : Int)) = (c = UInt8.ofNat (49 + i)) :=
  propext ⟨fun e => UInt8.toNat_inj.1 (by rw [u8_nat (by omega)]; omega), fun e => by rw [e, u8_nat (by omega)]; omega⟩
theorem lhas_ok (v : Value) (l : List Int) (x : Int) (hl : l.length ≤ 1000000000) (w : World) (h : Sq fI 1 w v l) : Fn 213 [v, .int .i64 x] w (fun r _ => r = .bool (decide (x ∈ l))) := by
  (refine callsV_of mix Try.func213 c_lhas ?_; simp only [↓vsd, vsn, gW, qd, qv, ev, pick, argE, zipE, ne_eq, eq_self, forall_const, implies_true, if_true, if_false, reduceIte, reduceCtorEq, Nat.reduceEqDiff, Nat.reduceAdd, Nat.reduceLT, ↓us_lhas, r_lhas])
  simp only [↓vsd, vsn, gW, qd, qv, ev, pick, argE, zipE, ne_eq, eq_self, forall_const, implies_true, if_true, if_false, reduceIte, reduceCtorEq, Nat.reduceEqDiff, Nat.reduceAdd, Nat.reduceLT, ↓us_lhas, r_lhas, h.facts]
  refine m_upto l.length (fun k vs w' => vs = [.int .i64 k] ∧ x ∉ l.take k ∧ Ext w w') ⟨rfl, by simp, Ext.refl _⟩ ?_
  rintro k vs w1 hk ⟨rfl, hall, hx⟩
  have hq := h.ext hx
  by_cases hlt : k < l.length
  · have hltI : (k : Int) < l.length := by omega
    have hltJ : ¬ (l.length : Int) ≤ k := by omega
    simp only [↓vsd, vsn, gW, qd, qv, ev, pick, argE, zipE, ne_eq, eq_self, forall_const, implies_true, if_true, if_false, reduceIte, reduceCtorEq, Nat.reduceEqDiff, Nat.reduceAdd, Nat.reduceLT, ↓us_lhas, r_lhas, hltI, hltJ, hq.facts, hq.at1 0 hlt]
    refine ⟨by omega, fun he => ⟨hx, ?_⟩, fun hne => ⟨inR_i64 (by omega), UpTo.next hlt ⟨rfl, fun hm => ?_, hx⟩⟩⟩
    · rw [decide_eq_true (by rw [← he]; exact getD_mem 0 hlt)]
    · rcases mem_take (d := 0) hlt hm with h' | h'
      · exact hall h'
      · exact hne h'.symm
  · obtain rfl : k = l.length := by omega
    have hltI : ¬ (l.length : Int) < l.length := by omega
    simp only [↓vsd, vsn, gW, qd, qv, ev, pick, argE, zipE, ne_eq, eq_self, forall_const, implies_true, if_true, if_false, reduceIte, reduceCtorEq, Nat.reduceEqDiff, Nat.reduceAdd, Nat.reduceLT, ↓us_lhas, r_lhas, hltI]
    rw [List.take_length] at hall
    exact ⟨hx, by rw [decide_eq_false hall]⟩
theorem lwithin_ok (v u : Value) (l l' : List Int) (hl : l.length ≤ 1000000000) (hl' : l'.length ≤ 1000000000) (w : World) (h : Sq fI 1 w v l) (h' : Sq fI 1 w u l') : Fn 73 [v, u] w (fun r _ => r = .bool (decide (∀ x ∈ l, x ∈ l'))) := by
  (refine callsV_of mix Try.func73 c_lwithin ?_; simp only [↓vsd, vsn, gW, qd, qv, ev, pick, argE, zipE, ne_eq, eq_self, forall_const, implies_true, if_true, if_false, reduceIte, reduceCtorEq, Nat.reduceEqDiff, Nat.reduceAdd, Nat.reduceLT, ↓us_lwithin, r_lwithin])
  simp only [↓vsd, vsn, gW, qd, qv, ev, pick, argE, zipE, ne_eq, eq_self, forall_const, implies_true, if_true, if_false, reduceIte, reduceCtorEq, Nat.reduceEqDiff, Nat.reduceAdd, Nat.reduceLT, ↓us_lwithin, r_lwithin, h.facts]
  refine m_upto l.length (fun k vs w' => vs = [.int .i64 k] ∧ (∀ x ∈ l.take k, x ∈ l') ∧ Ext w w') ⟨rfl, by simp, Ext.refl _⟩ ?_
  rintro k vs w1 hk ⟨rfl, hall, hx⟩
  have hq := h.ext hx
  by_cases hlt : k < l.length
  · have hltI : (k : Int) < l.length := by omega
    have hltJ : ¬ (l.length : Int) ≤ k := by omega
    simp only [↓vsd, vsn, gW, qd, qv, ev, pick, argE, zipE, ne_eq, eq_self, forall_const, implies_true, if_true, if_false, reduceIte, reduceCtorEq, Nat.reduceEqDiff, Nat.reduceAdd, Nat.reduceLT, ↓us_lwithin, r_lwithin, hltI, hltJ, hq.facts, hq.at1 0 hlt]
    refine ⟨by omega, m_call (lhas_ok u l' _ hl' _ (h'.ext hx)) ?_⟩
    rintro _ w2 hx2 rfl
    simp only [↓vsd, vsn, gW, qd, qv, ev, pick, argE, zipE, ne_eq, eq_self, forall_const, implies_true, if_true, if_false, reduceIte, reduceCtorEq, Nat.reduceEqDiff, Nat.reduceAdd, Nat.reduceLT, ↓us_lwithin, r_lwithin]
    refine ⟨fun hno => ⟨hx.trans hx2, ?_⟩, fun hyes => ⟨inR_i64 (by omega), UpTo.next hlt ⟨rfl, fun x hm => ?_, hx.trans hx2⟩⟩⟩
    · rw [decide_eq_false (fun hh : ∀ x ∈ l, x ∈ l' => hno (hh _ (getD_mem 0 hlt)))]
    · rcases mem_take (d := 0) hlt hm with h' | rfl
      · exact hall x h'
      · exact hyes
  · obtain rfl : k = l.length := by omega
    have hltI : ¬ (l.length : Int) < l.length := by omega
    simp only [↓vsd, vsn, gW, qd, qv, ev, pick, argE, zipE, ne_eq, eq_self, forall_const, implies_true, if_true, if_false, reduceIte, reduceCtorEq, Nat.reduceEqDiff, Nat.reduceAdd, Nat.reduceLT, ↓us_lwithin, r_lwithin, hltI]
    rw [List.take_length] at hall
    exact ⟨hx, by rw [decide_eq_true hall]⟩
end Go.Proofs.Ytpnopboffalfnaa
