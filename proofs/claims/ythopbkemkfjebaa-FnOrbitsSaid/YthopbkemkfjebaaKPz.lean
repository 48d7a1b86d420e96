/-
  Plain lists: parts of equal size; groups of rows, their cosets, the order of a group. No program.
  Conditions: none.
-/
import Derived.Test.YthopbkemkfjebaaKPr
import Derived.Test.YthopbkemkfjebaaKPv
set_option linter.unusedSimpArgs false
set_option linter.unusedVariables false
set_option linter.defProp false
namespace Go.Proofs.Ythopbkemkfjebaa
open Go
theorem filter_add {α : Type} (p : α → Bool) : ∀ l : List α, (l.filter p).length + (l.filter fun x => !p x).length = l.length
  | [] => rfl
  | a :: l => by
    have := filter_add p l
    cases h : p a
    · rw [List.filter_cons_of_neg (by simp [h]), List.filter_cons_of_pos (by simp [h]), List.length_cons, List.length_cons]; omega
    · rw [List.filter_cons_of_pos h, List.filter_cons_of_neg (by simp [h]), List.length_cons, List.length_cons]; omega
theorem sub_lenP {α : Type} [DecidableEq α] : ∀ {A B : List α}, A.Nodup → (∀ x ∈ A, x ∈ B) → A.length ≤ B.length
  | [], B, _, _ => Nat.zero_le _
  | a :: A, B, hn, hs => by
    rw [List.nodup_cons] at hn
    have ha : a ∈ B := hs a List.mem_cons_self
    have h1 := sub_lenP (A := A) (B := B.erase a) hn.2 fun x hx => by
      rw [List.mem_erase_of_ne (show x ≠ a from fun e => hn.1 (e ▸ hx))]
      exact hs x (List.mem_cons_of_mem _ hx)
    rw [List.length_erase_of_mem ha] at h1
    have := List.length_pos_of_mem ha
    rw [List.length_cons]; omega
theorem sub_all {α : Type} [DecidableEq α] {A B : List α} (hn : A.Nodup) (hs : ∀ x ∈ A, x ∈ B) (hl : B.length ≤ A.length) {b : α} (hb : b ∈ B) : b ∈ A := by
  refine Decidable.byContradiction fun h => ?_
  have := sub_lenP (A := b :: A) (B := B) (List.nodup_cons.2 ⟨h, hn⟩) fun x hx => by
    rcases List.mem_cons.1 hx with rfl | hx
    · exact hb
    · exact hs x hx
  rw [List.length_cons] at this; omega
theorem map_nodup {α β : Type} {f : α → β} : ∀ {l : List α}, l.Nodup → (∀ x ∈ l, ∀ y ∈ l, f x = f y → x = y) → (l.map f).Nodup
  | [], _, _ => List.nodup_nil
  | a :: l, hn, hi => by
    rw [List.nodup_cons] at hn
    rw [List.map_cons, List.nodup_cons]
    refine ⟨fun hm => ?_, map_nodup hn.2 fun x hx y hy => hi x (List.mem_cons_of_mem _ hx) y (List.mem_cons_of_mem _ hy)⟩
    obtain ⟨b, hb, he⟩ := List.mem_map.1 hm
    have := hi b (List.mem_cons_of_mem _ hb) a List.mem_cons_self he
    subst this
    exact hn.1 hb
theorem fib_sum {α β : Type} [DecidableEq β] (f : α → β) (m : Nat) : ∀ (L : List β) (X : List α), L.Nodup → (∀ x ∈ X, f x ∈ L) → (∀ b ∈ L, (X.filter fun y => decide (f y = b)).length = m) → X.length = L.length * m
  | [], X, _, hX, _ => by
    cases X with
    | nil => simp
    | cons x X => exact absurd (hX x List.mem_cons_self) (List.not_mem_nil)
  | b :: L, X, hn, hX, hm => by
    rw [List.nodup_cons] at hn
    have h1 := filter_add (fun y => decide (f y = b)) X
    have h2 := fib_sum f m L (X.filter fun y => !decide (f y = b)) hn.2 (fun x hx => by
      rw [List.mem_filter] at hx
      rcases List.mem_cons.1 (hX x hx.1) with h | h
      · simp [h] at hx
      · exact h) fun c hc => by
      rw [List.filter_filter, ← hm c (List.mem_cons_of_mem _ hc)]
      congr 1
      refine List.filter_congr fun z _ => ?_
      by_cases hz : f z = c
      · have : c ≠ b := fun e => hn.1 (e ▸ hc)
        simp [hz, this]
      · simp [hz]
    rw [hm b List.mem_cons_self, h2] at h1
    rw [← h1, List.length_cons, Nat.add_mul, Nat.one_mul, Nat.add_comm]
/-- A group of rows of a stage. -/
structure IsGrp (n : Nat) (G : List Bs) : Prop where
  rows : ∀ g ∈ G, IsRow g ∧ g.length = n
  nodup : G.Nodup
  one : roundsL n ∈ G
  mul : ∀ a ∈ G, ∀ b ∈ G, timesL a b ∈ G
def cosL (x : Bs) (G : List Bs) : List Bs := srt (G.map (timesL x))
theorem cosL_mem (x : Bs) (G : List Bs) (y : Bs) : y ∈ cosL x G ↔ ∃ g ∈ G, y = timesL x g := by
  rw [cosL, srt_mem, List.mem_map]
  exact ⟨fun ⟨g, h1, h2⟩ => ⟨g, h1, h2.symm⟩, fun ⟨g, h1, h2⟩ => ⟨g, h1, h2.symm⟩⟩
section
variable {n : Nat} {G : List Bs}
theorem IsGrp.map_nodup (hG : IsGrp n G) {x : Bs} (hx : IsRow x) (hl : x.length = n) : (G.map (timesL x)).Nodup :=
  Go.Proofs.Ythopbkemkfjebaa.map_nodup hG.nodup fun a ha b hb h => times_cancel hx (hG.rows a ha).1 (hG.rows b hb).1 (by rw [hl, (hG.rows a ha).2]) (by rw [hl, (hG.rows b hb).2]) h
theorem IsGrp.rise (hG : IsGrp n G) {x : Bs} (hx : IsRow x) (hl : x.length = n) : Rise (cosL x G) := srt_rise (hG.map_nodup hx hl)
theorem IsGrp.pos (hG : IsGrp n G) : 0 < G.length := List.length_pos_of_mem hG.one
theorem IsGrp.stage (hG : IsGrp n G) : 3 ≤ n ∧ n ≤ 8 := by
  have h := hG.rows _ hG.one
  rw [← h.2]; exact h.1.1
/-- A row of the group moves the group onto itself. -/
theorem IsGrp.shift (hG : IsGrp n G) {h g : Bs} (hh : h ∈ G) (hg : g ∈ G) : ∃ g' ∈ G, g = timesL h g' := by
  have hr := hG.rows h hh
  have := sub_all (A := G.map (timesL h)) (B := G) (hG.map_nodup hr.1 hr.2) (fun x hx => by
    obtain ⟨g', h1, rfl⟩ := List.mem_map.1 hx
    exact hG.mul _ hh _ h1) (by rw [List.length_map]; exact Nat.le_refl _) hg
  obtain ⟨g', h1, h2⟩ := List.mem_map.1 this
  exact ⟨g', h1, h2.symm⟩
theorem IsGrp.inv (hG : IsGrp n G) {h : Bs} (hh : h ∈ G) : turnL h ∈ G := by
  obtain ⟨g, hg, he⟩ := hG.shift hh hG.one
  have hr := hG.rows h hh
  have hgr := hG.rows g hg
  have : turnL h = g := by
    have h1 := congrArg (timesL (turnL h)) he
    rw [← timesL_assoc _ hgr.1 (by rw [hr.2, hgr.2]), turn_times hr.1, hr.2, show roundsL n = roundsL g.length by rw [hgr.2], rounds_times hgr.1, hgr.2] at h1
    rw [← h1, ← hr.2, ← turnL_len h]
    exact (times_rounds (by rw [turnL_len, hr.2]; exact hG.stage.2)).symm
  rw [this]; exact hg
/-- Two cosets are equal where they meet. -/
theorem IsGrp.same (hG : IsGrp n G) {x y : Bs} (hx : IsRow x) (hl : x.length = n) (hy : y ∈ cosL x G) : cosL y G = cosL x G := by
  obtain ⟨h, hh, rfl⟩ := (cosL_mem x G y).1 hy
  have hr := hG.rows h hh
  refine rise_uniq (hG.rise (timesL_row hx hr.1 (by rw [hl, hr.2])) (by rw [timesL_len, hr.2])) (hG.rise hx hl) fun z => ?_
  rw [cosL_mem, cosL_mem]
  constructor
  · rintro ⟨g, hg, rfl⟩
    have hgr := hG.rows g hg
    exact ⟨timesL h g, hG.mul _ hh _ hg, timesL_assoc _ hgr.1 (by rw [hr.2, hgr.2])⟩
  · rintro ⟨g, hg, rfl⟩
    obtain ⟨g', hg', rfl⟩ := hG.shift hh hg
    have hgr := hG.rows g' hg'
    exact ⟨g', hg', (timesL_assoc _ hgr.1 (by rw [hr.2, hgr.2])).symm⟩
end
/-- All rows of a stage. -/
def allR (n : Nat) : List Bs := (List.range (factL n)).map fun k => rowGo n (roundsL n) k
theorem row_of_perm {n : Nat} (hn : 3 ≤ n ∧ n ≤ 8) {r : Bs} (hp : r.Perm (roundsL n)) : IsRow r := by
  have hR := (isRow_iff2 (roundsL n)).1 (roundsL_row n hn)
  have hl : r.length = n := by rw [hp.length_eq, roundsL_len]
  refine (isRow_iff2 r).2 ⟨by rw [hl]; exact hn, hp.nodup_iff.2 hR.2.1, fun x hx => ?_⟩
  have := hR.2.2 x (hp.mem_iff.1 hx)
  rw [roundsL_len] at this
  rw [hl]; exact this
theorem allR_mem {n : Nat} (hn : 3 ≤ n ∧ n ≤ 8) (r : Bs) : r ∈ allR n ↔ IsRow r ∧ r.length = n := by
  constructor
  · intro h
    obtain ⟨k, hk, rfl⟩ := List.mem_map.1 h
    have := (rank_go n (roundsL n) k (roundsL_len n) (rounds_sorted n (by omega)) (List.mem_range.1 hk)).2
    exact ⟨row_of_perm hn this, rowGo_len _ _ _⟩
  · rintro ⟨h1, h2⟩
    have hk := rankL_lt r
    rw [h2] at hk
    refine List.mem_map.2 ⟨rankL r, List.mem_range.2 hk, ?_⟩
    have hg := rank_go n (roundsL n) (rankL r) (roundsL_len n) (rounds_sorted n (by omega)) hk
    exact rank_inj (row_of_perm hn hg.2) h1 (by rw [rowGo_len, h2]) hg.1
/-- What some rows generate is a group. -/
theorem gen_grp {n : Nat} (hn : 3 ≤ n ∧ n ≤ 8) {gens : List Bs} (hg : ∀ g ∈ gens, IsRow g ∧ g.length = n) {m : Nat} (h : GenOk gens (roundsL n) m) : IsGrp n (clo gens (roundsL n) m) where
  rows := clo_all (fun x => IsRow x ∧ x.length = n) ⟨roundsL_row n hn, roundsL_len n⟩ (fun a ha g hgm => ⟨timesL_row ha.1 (hg g hgm).1 (by rw [ha.2, (hg g hgm).2]), by rw [timesL_len, (hg g hgm).2]⟩) m
  nodup := clo_nodup _ _ _
  one := clo_first _ _ _
  mul := fun a ha b hb => by
    have hra := clo_all (fun x => IsRow x ∧ x.length = n) ⟨roundsL_row n hn, roundsL_len n⟩ (fun a ha g hgm => ⟨timesL_row ha.1 (hg g hgm).1 (by rw [ha.2, (hg g hgm).2]), by rw [timesL_len, (hg g hgm).2]⟩) m a ha
    refine clo_all (gens := gens) (e := roundsL n) (fun x => timesL a x ∈ clo gens (roundsL n) m ∧ x.length = n) ⟨?_, roundsL_len n⟩ (fun x hx g hgm => ⟨?_, by rw [timesL_len, (hg g hgm).2]⟩) m b hb |>.1
    · have := times_rounds (a := a) (by rw [hra.2]; exact hn.2)
      rw [hra.2] at this
      rw [this]; exact ha
    · rw [← timesL_assoc a (hg g hgm).1 (by rw [hx.2, (hg g hgm).2])]
      exact gen_closed h hx.1 hgm
theorem gen_has {n : Nat} {gens : List Bs} (hg : ∀ g ∈ gens, IsRow g ∧ g.length = n) {m : Nat} (h : GenOk gens (roundsL n) m) {g : Bs} (hm : g ∈ gens) : g ∈ clo gens (roundsL n) m := by
  have := gen_closed h (clo_first gens (roundsL n) m) hm
  rwa [show roundsL n = roundsL g.length by rw [(hg g hm).2], rounds_times (hg g hm).1, (hg g hm).2] at this
theorem genV_mem {gens : List Bs} {e : Bs} {m : Nat} (h : GenOk gens e m) (x : Bs) : x ∈ genV gens e m ↔ x ∈ clo gens e m := by rw [genV, if_pos h, srt_mem]
theorem genV_grp {n : Nat} (hn : 3 ≤ n ∧ n ≤ 8) {gens : List Bs} (hg : ∀ g ∈ gens, IsRow g ∧ g.length = n) {m : Nat} (h : GenOk gens (roundsL n) m) : IsGrp n (genV gens (roundsL n) m) where
  rows := fun g hgm => (gen_grp hn hg h).rows g ((genV_mem h g).1 hgm)
  nodup := (genV_rise _ _ _).nodup
  one := (genV_mem h _).2 (gen_grp hn hg h).one
  mul := fun a ha b hb => (genV_mem h _).2 ((gen_grp hn hg h).mul _ ((genV_mem h a).1 ha) _ ((genV_mem h b).1 hb))
end Go.Proofs.Ythopbkemkfjebaa
