/-
  Plain lists: pairs of equal rows, how often each row occurs. No program.
  Conditions: none.
-/
import Derived.Test.YtfklonhjgkahdaaKPc
import Derived.Test.YtfklonhjgkahdaaKPv
set_option linter.unusedSimpArgs false
set_option linter.unusedVariables false
set_option linter.defProp false
namespace Go.Proofs.Ytfklonhjgkahdaa
open Go
theorem sub_lenP {α : Type} [DecidableEq α] : ∀ {A B : List α}, A.Nodup → (∀ x ∈ A, x ∈ B) → A.length ≤ B.length
  | [], B, _, _ => Nat.zero_le _
  | a :: A, B, hn, hs => by
    rw [List.nodup_cons] at hn
    have ha : a ∈ B := hs a List.mem_cons_self
    have h1 := sub_lenP (A := A) (B := B.erase a) hn.2 fun x hx => by
      rw [List.mem_erase_of_ne (show x ≠ a from fun e => hn.1 (e ▸ hx))]
      exact hs x (List.mem_cons_of_mem _ hx)
    rw [List.length_erase_of_mem ha] at h1
    have := List.length_pos_of_mem ha
    rw [List.length_cons]; omega
theorem sub_all {α : Type} [DecidableEq α] {A B : List α} (hn : A.Nodup) (hs : ∀ x ∈ A, x ∈ B) (hl : B.length ≤ A.length) {b : α} (hb : b ∈ B) : b ∈ A := by
  refine Decidable.byContradiction fun h => ?_
  have := sub_lenP (A := b :: A) (B := B) (List.nodup_cons.2 ⟨h, hn⟩) fun x hx => by
    rcases List.mem_cons.1 hx with rfl | hx
    · exact hb
    · exact hs x hx
  rw [List.length_cons] at this; omega
theorem map_nodup {α β : Type} {f : α → β} : ∀ {l : List α}, l.Nodup → (∀ x ∈ l, ∀ y ∈ l, f x = f y → x = y) → (l.map f).Nodup
  | [], _, _ => List.nodup_nil
  | a :: l, hn, hi => by
    rw [List.nodup_cons] at hn
    rw [List.map_cons, List.nodup_cons]
    refine ⟨fun hm => ?_, map_nodup hn.2 fun x hx y hy => hi x (List.mem_cons_of_mem _ hx) y (List.mem_cons_of_mem _ hy)⟩
    obtain ⟨b, hb, he⟩ := List.mem_map.1 hm
    have := hi b (List.mem_cons_of_mem _ hb) a List.mem_cons_self he
    subst this
    exact hn.1 hb
/-- A group of rows of a stage. -/
structure IsGrp (n : Nat) (G : List Bs) : Prop where
  rows : ∀ g ∈ G, IsRow g ∧ g.length = n
  nodup : G.Nodup
  one : roundsL n ∈ G
  mul : ∀ a ∈ G, ∀ b ∈ G, timesL a b ∈ G
def cosL (x : Bs) (G : List Bs) : List Bs := srt (G.map (timesL x))
theorem cosL_mem (x : Bs) (G : List Bs) (y : Bs) : y ∈ cosL x G ↔ ∃ g ∈ G, y = timesL x g := by
  rw [cosL, srt_mem, List.mem_map]
  exact ⟨fun ⟨g, h1, h2⟩ => ⟨g, h1, h2.symm⟩, fun ⟨g, h1, h2⟩ => ⟨g, h1, h2.symm⟩⟩
section
variable {n : Nat} {G : List Bs}
theorem IsGrp.map_nodup (hG : IsGrp n G) {x : Bs} (hx : IsRow x) (hl : x.length = n) : (G.map (timesL x)).Nodup :=
  Go.Proofs.Ytfklonhjgkahdaa.map_nodup hG.nodup fun a ha b hb h => times_cancel hx (hG.rows a ha).1 (hG.rows b hb).1 (by rw [hl, (hG.rows a ha).2]) (by rw [hl, (hG.rows b hb).2]) h
theorem IsGrp.rise (hG : IsGrp n G) {x : Bs} (hx : IsRow x) (hl : x.length = n) : Rise (cosL x G) := srt_rise (hG.map_nodup hx hl)
theorem IsGrp.pos (hG : IsGrp n G) : 0 < G.length := List.length_pos_of_mem hG.one
theorem IsGrp.stage (hG : IsGrp n G) : 3 ≤ n ∧ n ≤ 8 := by
  have h := hG.rows _ hG.one
  rw [← h.2]; exact h.1.1
/-- A row of the group moves the group onto itself. -/
theorem IsGrp.shift (hG : IsGrp n G) {h g : Bs} (hh : h ∈ G) (hg : g ∈ G) : ∃ g' ∈ G, g = timesL h g' := by
  have hr := hG.rows h hh
  have := sub_all (A := G.map (timesL h)) (B := G) (hG.map_nodup hr.1 hr.2) (fun x hx => by
    obtain ⟨g', h1, rfl⟩ := List.mem_map.1 hx
    exact hG.mul _ hh _ h1) (by rw [List.length_map]; exact Nat.le_refl _) hg
  obtain ⟨g', h1, h2⟩ := List.mem_map.1 this
  exact ⟨g', h1, h2.symm⟩
theorem IsGrp.inv (hG : IsGrp n G) {h : Bs} (hh : h ∈ G) : turnL h ∈ G := by
  obtain ⟨g, hg, he⟩ := hG.shift hh hG.one
  have hr := hG.rows h hh
  have hgr := hG.rows g hg
  have : turnL h = g := by
    have h1 := congrArg (timesL (turnL h)) he
    rw [← timesL_assoc _ hgr.1 (by rw [hr.2, hgr.2]), turn_times hr.1, hr.2, show roundsL n = roundsL g.length by rw [hgr.2], rounds_times hgr.1, hgr.2] at h1
    rw [← h1, ← hr.2, ← turnL_len h]
    exact (times_rounds (by rw [turnL_len, hr.2]; exact hG.stage.2)).symm
  rw [this]; exact hg
/-- Two cosets are equal where they meet. -/
theorem IsGrp.same (hG : IsGrp n G) {x y : Bs} (hx : IsRow x) (hl : x.length = n) (hy : y ∈ cosL x G) : cosL y G = cosL x G := by
  obtain ⟨h, hh, rfl⟩ := (cosL_mem x G y).1 hy
  have hr := hG.rows h hh
  refine rise_uniq (hG.rise (timesL_row hx hr.1 (by rw [hl, hr.2])) (by rw [timesL_len, hr.2])) (hG.rise hx hl) fun z => ?_
  rw [cosL_mem, cosL_mem]
  constructor
  · rintro ⟨g, hg, rfl⟩
    have hgr := hG.rows g hg
    exact ⟨timesL h g, hG.mul _ hh _ hg, timesL_assoc _ hgr.1 (by rw [hr.2, hgr.2])⟩
  · rintro ⟨g, hg, rfl⟩
    obtain ⟨g', hg', rfl⟩ := hG.shift hh hg
    have hgr := hG.rows g' hg'
    exact ⟨g', hg', (timesL_assoc _ hgr.1 (by rw [hr.2, hgr.2])).symm⟩
end
end Go.Proofs.Ytfklonhjgkahdaa
namespace Go.Proofs.Ytfklonhjgkahdaa
open Go
theorem nodup_iff {l : List Bs} : l.Nodup ↔ ∀ i k, i < k → k < l.length → l.getD k [] ≠ l.getD i [] := by
  rw [List.nodup_iff_pairwise_ne, List.pairwise_iff_getElem]
  constructor
  · intro h i k hik hk e
    rw [List.getD_eq_getElem?_getD, List.getD_eq_getElem?_getD, List.getElem?_eq_getElem hk, List.getElem?_eq_getElem (show i < l.length by omega)] at e
    exact h i k (by omega) hk hik e.symm
  · intro h i k hi hk hik e
    refine h i k hik hk ?_
    rw [List.getD_eq_getElem?_getD, List.getD_eq_getElem?_getD, List.getElem?_eq_getElem hk, List.getElem?_eq_getElem hi, Option.getD_some, Option.getD_some, e]
theorem sorted_nodup {l : List Bs} : (∀ k, k + 1 < (srt l).length → (srt l).getD (k + 1) [] ≠ (srt l).getD k []) ↔ l.Nodup := by
  constructor
  · intro h
    refine (srt_perm l).nodup_iff.1 (Rise.nodup (rise_next fun k hk => ?_))
    rcases List.le_iff_lt_or_eq.1 (sorted_get (srt_sorted l) (Nat.le_succ k) hk) with h1 | h1
    · exact h1
    · exact absurd h1.symm (h k hk)
  · intro h k hk e
    have := rise_get (srt_rise h) k (k + 1) (by omega) hk
    rw [e] at this
    exact List.lt_irrefl _ this
end Go.Proofs.Ytfklonhjgkahdaa
