/-
  Plain lists: parts of equal size; groups of rows, their cosets, the order of a group. No program.
  Conditions: none.
-/
import Derived.Test.YtnincmnkdjlndaaPv
import Derived.Test.YtnincmnkdjlndaaPr
set_option linter.unusedSimpArgs false
set_option linter.unusedVariables false
set_option linter.defProp false
namespace Go.Proofs.Ytnincmnkdjlndaa
open Go
theorem filter_add {α : Type} (p : α → Bool) : ∀ l : List α, (l.filter p).length + (l.filter fun x => !p x).length = l.length
  | [] => rfl
  | a :: l => by
    have := filter_add p l
    cases h : p a
    · rw [List.filter_cons_of_neg (by simp [h]), List.filter_cons_of_pos (by simp [h]), List.length_cons, List.length_cons]; omega
    · rw [List.filter_cons_of_pos h, List.filter_cons_of_neg (by simp [h]), List.length_cons, List.length_cons]; omega
theorem sub_lenP {α : Type} [DecidableEq α] : ∀ {A B : List α}, A.Nodup → (∀ x ∈ A, x ∈ B) → A.length ≤ B.length
  | [], B, _, _ => Nat.zero_le _
  | a :: A, B, hn, hs => by
    rw [List.nodup_cons] at hn
    have ha : a ∈ B := hs a List.mem_cons_self
    have h1 := sub_lenP (A := A) (B := B.erase a) hn.2 fun x hx => by
      rw [List.mem_erase_of_ne (show x ≠ a from fun e => hn.1 (e ▸ hx))]
      exact hs x (List.mem_cons_of_mem _ hx)
    rw [List.length_erase_of_mem ha] at h1
    have := List.length_pos_of_mem ha
    rw [List.length_cons]; omega
theorem sub_all {α : Type} [DecidableEq α] {A B : List α} (hn : A.Nodup) (hs : ∀ x ∈ A, x ∈ B) (hl : B.length ≤ A.length) {b : α} (hb : b ∈ B) : b ∈ A := by
  refine Decidable.byContradiction fun h => ?_
  have := sub_lenP (A := b :: A) (B := B) (List.nodup_cons.2 ⟨h, hn⟩) fun x hx => by
    rcases List.mem_cons.1 hx with rfl | hx
    · exact hb
    · exact hs x hx
  rw [List.length_cons] at this; omega
theorem map_nodup {α β : Type} {f : α → β} : ∀ {l : List α}, l.Nodup → (∀ x ∈ l, ∀ y ∈ l, f x = f y → x = y) → (l.map f).Nodup
  | [], _, _ => List.nodup_nil
  | a :: l, hn, hi => by
    rw [List.nodup_cons] at hn
    rw [List.map_cons, List.nodup_cons]
    refine ⟨fun hm => ?_, map_nodup hn.2 fun x hx y hy => hi x (List.mem_cons_of_mem _ hx) y (List.mem_cons_of_mem _ hy)⟩
    obtain ⟨b, hb, he⟩ := List.mem_map.1 hm
    have := hi b (List.mem_cons_of_mem _ hb) a List.mem_cons_self he
    subst this
    exact hn.1 hb
/-- All parts, the elements of one value, have m elements. -/
theorem fib_dvd {α β : Type} [DecidableEq β] (f : α → β) (m : Nat) : ∀ (n : Nat) (X : List α), X.length ≤ n → (∀ x ∈ X, (X.filter fun y => decide (f y = f x)).length = m) → m ∣ X.length
  | _, [], _, _ => ⟨0, rfl⟩
  | 0, x :: X, h, _ => by simp at h
  | n + 1, x :: X, h, hf => by
    have h1 := hf x List.mem_cons_self
    have h2 := filter_add (fun y => decide (f y = f x)) (x :: X)
    have h3 : m ∣ ((x :: X).filter fun y => !decide (f y = f x)).length := by
      refine fib_dvd f m n _ ?_ fun y hy => ?_
      · rw [List.filter_cons_of_neg (by simp)]
        exact Nat.le_trans (List.length_filter_le _ _) (by simpa using h)
      · rw [List.mem_filter] at hy
        rw [← hf y hy.1, List.filter_filter]
        congr 1
        refine List.filter_congr fun z _ => ?_
        by_cases hz : f z = f y
        · have : f y ≠ f x := by simpa using hy.2
          simp [hz, this]
        · simp [hz]
    rw [← h2, h1]
    exact Nat.dvd_add (Nat.dvd_refl _) h3
theorem fib_sum {α β : Type} [DecidableEq β] (f : α → β) (m : Nat) : ∀ (L : List β) (X : List α), L.Nodup → (∀ x ∈ X, f x ∈ L) → (∀ b ∈ L, (X.filter fun y => decide (f y = b)).length = m) → X.length = L.length * m
  | [], X, _, hX, _ => by
    cases X with
    | nil => simp
    | cons x X => exact absurd (hX x List.mem_cons_self) (List.not_mem_nil)
  | b :: L, X, hn, hX, hm => by
    rw [List.nodup_cons] at hn
    have h1 := filter_add (fun y => decide (f y = b)) X
    have h2 := fib_sum f m L (X.filter fun y => !decide (f y = b)) hn.2 (fun x hx => by
      rw [List.mem_filter] at hx
      rcases List.mem_cons.1 (hX x hx.1) with h | h
      · simp [h] at hx
      · exact h) fun c hc => by
      rw [List.filter_filter, ← hm c (List.mem_cons_of_mem _ hc)]
      congr 1
      refine List.filter_congr fun z _ => ?_
      by_cases hz : f z = c
      · have : c ≠ b := fun e => hn.1 (e ▸ hc)
        simp [hz, this]
      · simp [hz]
    rw [hm b List.mem_cons_self, h2] at h1
    rw [← h1, List.length_cons, Nat.add_mul, Nat.one_mul, Nat.add_comm]
/-- A group of rows of a stage. -/
structure IsGrp (n : Nat) (G : List Bs) : Prop where
  rows : ∀ g ∈ G, IsRow g ∧ g.length = n
  nodup : G.Nodup
  one : roundsL n ∈ G
  mul : ∀ a ∈ G, ∀ b ∈ G, timesL a b ∈ G
def cosL (x : Bs) (G : List Bs) : List Bs := srt (G.map (timesL x))
theorem cosL_len (x : Bs) (G : List Bs) : (cosL x G).length = G.length := by rw [cosL, srt_len, List.length_map]
theorem cosL_mem (x : Bs) (G : List Bs) (y : Bs) : y ∈ cosL x G ↔ ∃ g ∈ G, y = timesL x g := by
  rw [cosL, srt_mem, List.mem_map]
  exact ⟨fun ⟨g, h1, h2⟩ => ⟨g, h1, h2.symm⟩, fun ⟨g, h1, h2⟩ => ⟨g, h1, h2.symm⟩⟩
section
variable {n : Nat} {G : List Bs}
theorem IsGrp.map_nodup (hG : IsGrp n G) {x : Bs} (hx : IsRow x) (hl : x.length = n) : (G.map (timesL x)).Nodup :=
  Go.Proofs.Ytnincmnkdjlndaa.map_nodup hG.nodup fun a ha b hb h => times_cancel hx (hG.rows a ha).1 (hG.rows b hb).1 (by rw [hl, (hG.rows a ha).2]) (by rw [hl, (hG.rows b hb).2]) h
theorem IsGrp.rise (hG : IsGrp n G) {x : Bs} (hx : IsRow x) (hl : x.length = n) : Rise (cosL x G) := srt_rise (hG.map_nodup hx hl)
theorem IsGrp.pos (hG : IsGrp n G) : 0 < G.length := List.length_pos_of_mem hG.one
theorem IsGrp.stage (hG : IsGrp n G) : 3 ≤ n ∧ n ≤ 8 := by
  have h := hG.rows _ hG.one
  rw [← h.2]; exact h.1.1
/-- A row of the group moves the group onto itself. -/
theorem IsGrp.shift (hG : IsGrp n G) {h g : Bs} (hh : h ∈ G) (hg : g ∈ G) : ∃ g' ∈ G, g = timesL h g' := by
  have hr := hG.rows h hh
  have := sub_all (A := G.map (timesL h)) (B := G) (hG.map_nodup hr.1 hr.2) (fun x hx => by
    obtain ⟨g', h1, rfl⟩ := List.mem_map.1 hx
    exact hG.mul _ hh _ h1) (by rw [List.length_map]; exact Nat.le_refl _) hg
  obtain ⟨g', h1, h2⟩ := List.mem_map.1 this
  exact ⟨g', h1, h2.symm⟩
theorem IsGrp.inv (hG : IsGrp n G) {h : Bs} (hh : h ∈ G) : turnL h ∈ G := by
  obtain ⟨g, hg, he⟩ := hG.shift hh hG.one
  have hr := hG.rows h hh
  have hgr := hG.rows g hg
  have : turnL h = g := by
    have h1 := congrArg (timesL (turnL h)) he
    rw [← timesL_assoc _ hgr.1 (by rw [hr.2, hgr.2]), turn_times hr.1, hr.2, show roundsL n = roundsL g.length by rw [hgr.2], rounds_times hgr.1, hgr.2] at h1
    rw [← h1, ← hr.2, ← turnL_len h]
    exact (times_rounds (by rw [turnL_len, hr.2]; exact hG.stage.2)).symm
  rw [this]; exact hg
theorem IsGrp.self (hG : IsGrp n G) {x : Bs} (hl : x.length = n) : x ∈ cosL x G :=
  (cosL_mem x G x).2 ⟨_, hG.one, by rw [← hl]; exact (times_rounds (by rw [hl]; exact hG.stage.2)).symm⟩
/-- Two cosets are equal where they meet. -/
theorem IsGrp.same (hG : IsGrp n G) {x y : Bs} (hx : IsRow x) (hl : x.length = n) (hy : y ∈ cosL x G) : cosL y G = cosL x G := by
  obtain ⟨h, hh, rfl⟩ := (cosL_mem x G y).1 hy
  have hr := hG.rows h hh
  refine rise_uniq (hG.rise (timesL_row hx hr.1 (by rw [hl, hr.2])) (by rw [timesL_len, hr.2])) (hG.rise hx hl) fun z => ?_
  rw [cosL_mem, cosL_mem]
  constructor
  · rintro ⟨g, hg, rfl⟩
    have hgr := hG.rows g hg
    exact ⟨timesL h g, hG.mul _ hh _ hg, timesL_assoc _ hgr.1 (by rw [hr.2, hgr.2])⟩
  · rintro ⟨g, hg, rfl⟩
    obtain ⟨g', hg', rfl⟩ := hG.shift hh hg
    have hgr := hG.rows g' hg'
    exact ⟨g', hg', (timesL_assoc _ hgr.1 (by rw [hr.2, hgr.2])).symm⟩
theorem cos_row (hG : IsGrp n G) {x y : Bs} (hx : IsRow x) (hl : x.length = n) (hy : y ∈ cosL x G) : IsRow y ∧ y.length = n := by
  obtain ⟨h, hh, rfl⟩ := (cosL_mem x G y).1 hy
  have hr := hG.rows h hh
  exact ⟨timesL_row hx hr.1 (by rw [hl, hr.2]), by rw [timesL_len, hr.2]⟩
/-- The order of a group divides the number of the rows of a list that it moves onto itself. -/
theorem IsGrp.dvd (hG : IsGrp n G) {X : List Bs} (hX : ∀ x ∈ X, IsRow x ∧ x.length = n) (hn : X.Nodup) (hm : ∀ x ∈ X, ∀ g ∈ G, timesL x g ∈ X) : G.length ∣ X.length := by
  refine fib_dvd (fun x => cosL x G) G.length X.length X (Nat.le_refl _) fun x hx => ?_
  have hr := hX x hx
  have hA : (X.filter fun y => decide (cosL y G = cosL x G)).Nodup := hn.sublist (List.filter_sublist)
  have hB := hG.map_nodup hr.1 hr.2
  refine Nat.le_antisymm ?_ ?_
  · rw [← List.length_map (as := G) (timesL x)]
    refine sub_lenP hA fun y hy => ?_
    rw [List.mem_filter, decide_eq_true_eq] at hy
    have := hG.self (hX y hy.1).2
    rw [hy.2, cosL_mem] at this
    obtain ⟨g, hg, he⟩ := this
    exact List.mem_map.2 ⟨g, hg, he.symm⟩
  · rw [← List.length_map (as := G) (timesL x)]
    refine sub_lenP hB fun y hy => ?_
    obtain ⟨g, hg, rfl⟩ := List.mem_map.1 hy
    rw [List.mem_filter, decide_eq_true_eq]
    exact ⟨hm x hx g hg, hG.same hr.1 hr.2 ((cosL_mem _ _ _).2 ⟨g, hg, rfl⟩)⟩
end
/-- All rows of a stage. -/
def allR (n : Nat) : List Bs := (List.range (factL n)).map fun k => rowGo n (roundsL n) k
theorem allR_rank (n k : Nat) (hn : n < 9) (hk : k < factL n) : rankL (rowGo n (roundsL n) k) = k := (rank_go n (roundsL n) k (roundsL_len n) (rounds_sorted n hn) hk).1
theorem row_of_perm {n : Nat} (hn : 3 ≤ n ∧ n ≤ 8) {r : Bs} (hp : r.Perm (roundsL n)) : IsRow r := by
  have hR := (isRow_iff2 (roundsL n)).1 (roundsL_row n hn)
  have hl : r.length = n := by rw [hp.length_eq, roundsL_len]
  refine (isRow_iff2 r).2 ⟨by rw [hl]; exact hn, hp.nodup_iff.2 hR.2.1, fun x hx => ?_⟩
  have := hR.2.2 x (hp.mem_iff.1 hx)
  rw [roundsL_len] at this
  rw [hl]; exact this
theorem allR_mem {n : Nat} (hn : 3 ≤ n ∧ n ≤ 8) (r : Bs) : r ∈ allR n ↔ IsRow r ∧ r.length = n := by
  constructor
  · intro h
    obtain ⟨k, hk, rfl⟩ := List.mem_map.1 h
    have := (rank_go n (roundsL n) k (roundsL_len n) (rounds_sorted n (by omega)) (List.mem_range.1 hk)).2
    exact ⟨row_of_perm hn this, rowGo_len _ _ _⟩
  · rintro ⟨h1, h2⟩
    have hk := rankL_lt r
    rw [h2] at hk
    refine List.mem_map.2 ⟨rankL r, List.mem_range.2 hk, ?_⟩
    have hg := rank_go n (roundsL n) (rankL r) (roundsL_len n) (rounds_sorted n (by omega)) hk
    exact rank_inj (row_of_perm hn hg.2) h1 (by rw [rowGo_len, h2]) hg.1
theorem allR_nodup {n : Nat} (hn : 3 ≤ n ∧ n ≤ 8) : (allR n).Nodup :=
  map_nodup List.nodup_range fun i hi j hj h => by
    have h1 := allR_rank n i (by omega) (List.mem_range.1 hi)
    rw [h, allR_rank n j (by omega) (List.mem_range.1 hj)] at h1
    exact h1.symm
theorem allR_len (n : Nat) : (allR n).length = factL n := by rw [allR, List.length_map, List.length_range]
theorem IsGrp.fact {n : Nat} {G : List Bs} (hG : IsGrp n G) : factL n % G.length = 0 := by
  have hn := hG.stage
  have := hG.dvd (X := allR n) (fun x hx => (allR_mem hn x).1 hx) (allR_nodup hn) fun x hx g hg => by
    have h1 := (allR_mem hn x).1 hx
    have h2 := hG.rows g hg
    exact (allR_mem hn _).2 ⟨timesL_row h1.1 h2.1 (by rw [h1.2, h2.2]), by rw [timesL_len, h2.2]⟩
  rw [allR_len] at this
  exact Nat.mod_eq_zero_of_dvd this
/-- The powers of a row. -/
def powS (a : Bs) (k : Nat) : List Bs := (List.range k).map (powL a)
theorem pow_mod {a : Bs} (h : IsRow a) {k : Nat} (hO : IsOrd a k) (j : Nat) : powL a j = powL a (j % k) := by
  have hk := hO.2.2.1
  have hm : ∀ q, powL a (k * q) = roundsL a.length := fun q => by
    induction q with
    | zero => rfl
    | succ q ih =>
      rw [Nat.mul_succ, powL_add h, ih, hk]
      have := times_rounds (a := roundsL a.length) (by rw [roundsL_len]; exact h.1.2)
      rwa [roundsL_len] at this
  have e : j = k * (j / k) + j % k := (Nat.div_add_mod j k).symm
  rw [show powL a j = powL a (k * (j / k) + j % k) by rw [← e], powL_add h, hm]
  have := rounds_times (powL_row h (j % k))
  rwa [powL_len] at this
theorem pow_grp {a : Bs} (h : IsRow a) {k : Nat} (hO : IsOrd a k) : IsGrp a.length (powS a k) where
  rows := fun g hg => by
    obtain ⟨j, _, rfl⟩ := List.mem_map.1 hg
    exact ⟨powL_row h j, powL_len a j⟩
  nodup := by
    refine map_nodup List.nodup_range fun i hi j hj he => ?_
    have key : ∀ i j, i < j → j < k → powL a i ≠ powL a j := fun i j hij hj e => by
      refine hO.2.2.2 (j - i) (by omega) (by omega) ?_
      have h1 : powL a j = timesL (powL a i) (powL a (j - i)) := by rw [← powL_add h]; congr 1; omega
      have h2 : powL a i = timesL (powL a i) (roundsL a.length) := by
        have := times_rounds (a := powL a i) (by rw [powL_len]; exact h.1.2)
        rw [powL_len] at this; exact this.symm
      rw [← e, h2] at h1
      have hR := roundsL_row a.length h.1
      refine (times_cancel (powL_row h i) hR (powL_row h (j - i)) (by rw [powL_len, roundsL_len]) (by rw [powL_len, powL_len]) ?_).symm
      rw [← h2] at h1 ⊢
      exact h1
    have hi := List.mem_range.1 hi
    have hj := List.mem_range.1 hj
    rcases Nat.lt_trichotomy i j with hl | hl | hl
    · exact absurd he (key i j hl hj)
    · exact hl
    · exact absurd he.symm (key j i hl hi)
  one := List.mem_map.2 ⟨0, List.mem_range.2 hO.1, rfl⟩
  mul := fun x hx y hy => by
    obtain ⟨i, _, rfl⟩ := List.mem_map.1 hx
    obtain ⟨j, _, rfl⟩ := List.mem_map.1 hy
    rw [← powL_add h, pow_mod h hO]
    exact List.mem_map.2 ⟨_, List.mem_range.2 (Nat.mod_lt _ hO.1), rfl⟩
theorem pow_in {n : Nat} {G : List Bs} (hG : IsGrp n G) {a : Bs} (ha : a ∈ G) (j : Nat) : powL a j ∈ G := by
  induction j with
  | zero => rw [show powL a 0 = roundsL a.length from rfl, (hG.rows a ha).2]; exact hG.one
  | succ j ih =>
    have := hG.rows a ha
    rw [powL_add this.1]
    have h1 : powL a 1 = a := by
      show timesL (roundsL a.length) a = a
      exact rounds_times this.1
    rw [h1]; exact hG.mul _ ih _ ha
/-- The order of a row divides that of its group. -/
theorem IsGrp.ord {n : Nat} {G : List Bs} (hG : IsGrp n G) {a : Bs} (ha : a ∈ G) {k : Nat} (hO : IsOrd a k) : G.length % k = 0 := by
  have hr := hG.rows a ha
  have := (pow_grp hr.1 hO).dvd (X := G) (fun x hx => by rw [hr.2]; exact hG.rows x hx) hG.nodup fun x hx g hg => by
    obtain ⟨j, _, rfl⟩ := List.mem_map.1 hg
    exact hG.mul _ hx _ (pow_in hG ha j)
  rw [powS, List.length_map, List.length_range] at this
  exact Nat.mod_eq_zero_of_dvd this
/-- What some rows generate is a group. -/
theorem gen_grp {n : Nat} (hn : 3 ≤ n ∧ n ≤ 8) {gens : List Bs} (hg : ∀ g ∈ gens, IsRow g ∧ g.length = n) {m : Nat} (h : GenOk gens (roundsL n) m) : IsGrp n (clo gens (roundsL n) m) where
  rows := clo_all (fun x => IsRow x ∧ x.length = n) ⟨roundsL_row n hn, roundsL_len n⟩ (fun a ha g hgm => ⟨timesL_row ha.1 (hg g hgm).1 (by rw [ha.2, (hg g hgm).2]), by rw [timesL_len, (hg g hgm).2]⟩) m
  nodup := clo_nodup _ _ _
  one := clo_first _ _ _
  mul := fun a ha b hb => by
    have hra := clo_all (fun x => IsRow x ∧ x.length = n) ⟨roundsL_row n hn, roundsL_len n⟩ (fun a ha g hgm => ⟨timesL_row ha.1 (hg g hgm).1 (by rw [ha.2, (hg g hgm).2]), by rw [timesL_len, (hg g hgm).2]⟩) m a ha
    refine clo_all (gens := gens) (e := roundsL n) (fun x => timesL a x ∈ clo gens (roundsL n) m ∧ x.length = n) ⟨?_, roundsL_len n⟩ (fun x hx g hgm => ⟨?_, by rw [timesL_len, (hg g hgm).2]⟩) m b hb |>.1
    · have := times_rounds (a := a) (by rw [hra.2]; exact hn.2)
      rw [hra.2] at this
      rw [this]; exact ha
    · rw [← timesL_assoc a (hg g hgm).1 (by rw [hx.2, (hg g hgm).2])]
      exact gen_closed h hx.1 hgm
theorem gen_has {n : Nat} {gens : List Bs} (hg : ∀ g ∈ gens, IsRow g ∧ g.length = n) {m : Nat} (h : GenOk gens (roundsL n) m) {g : Bs} (hm : g ∈ gens) : g ∈ clo gens (roundsL n) m := by
  have := gen_closed h (clo_first gens (roundsL n) m) hm
  rwa [show roundsL n = roundsL g.length by rw [(hg g hm).2], rounds_times (hg g hm).1, (hg g hm).2] at this
/-- A group that has the generators has all that they generate. -/
theorem gen_sub {n : Nat} {G gens : List Bs} (hG : IsGrp n G) (hs : ∀ g ∈ gens, g ∈ G) (m : Nat) : ∀ x ∈ clo gens (roundsL n) m, x ∈ G :=
  clo_all (fun x => x ∈ G) hG.one (fun a ha g hg => hG.mul _ ha _ (hs g hg)) m
theorem gen_ok {n : Nat} {G gens : List Bs} (hG : IsGrp n G) (hs : ∀ g ∈ gens, g ∈ G) {m : Nat} (hm : G.length ≤ m) : GenOk gens (roundsL n) m :=
  Nat.le_trans (sub_lenP (clo_nodup _ _ _) (gen_sub hG hs m)) hm
theorem genV_mem {gens : List Bs} {e : Bs} {m : Nat} (h : GenOk gens e m) (x : Bs) : x ∈ genV gens e m ↔ x ∈ clo gens e m := by rw [genV, if_pos h, srt_mem]
theorem genV_grp {n : Nat} (hn : 3 ≤ n ∧ n ≤ 8) {gens : List Bs} (hg : ∀ g ∈ gens, IsRow g ∧ g.length = n) {m : Nat} (h : GenOk gens (roundsL n) m) : IsGrp n (genV gens (roundsL n) m) where
  rows := fun g hgm => (gen_grp hn hg h).rows g ((genV_mem h g).1 hgm)
  nodup := (genV_rise _ _ _).nodup
  one := (genV_mem h _).2 (gen_grp hn hg h).one
  mul := fun a ha b hb => (genV_mem h _).2 ((gen_grp hn hg h).mul _ ((genV_mem h a).1 ha) _ ((genV_mem h b).1 hb))
/-! ### the test of a group, and the least rows of cosets -/
/-- A sorted list is the least of its rearrangements. -/
theorem sorted_le : ∀ {l m : Bs}, l.Perm m → l.Pairwise (fun x y => x.toNat < y.toNat) → l ≤ m
  | [], m, h, _ => by rw [List.Perm.eq_nil h.symm]; exact List.le_refl _
  | a :: l, [], h, _ => absurd h.length_eq (by simp)
  | a :: l, b :: m, h, hs => by
    have hb : b ∈ a :: l := h.mem_iff.2 List.mem_cons_self
    rw [List.cons_le_cons_iff]
    rcases List.mem_cons.1 hb with e | e
    · subst e
      exact .inr ⟨rfl, sorted_le (List.Perm.cons_inv h) (List.pairwise_cons.1 hs).2⟩
    · exact .inl (UInt8.lt_iff_toNat_lt.2 ((List.pairwise_cons.1 hs).1 b e))
theorem rounds_le {r : Bs} (h : IsRow r) : roundsL r.length ≤ r := sorted_le (row_perm h).symm (rounds_sorted r.length (by have := h.1; omega))
/-- The rows l begin with rounds and are closed under products. -/
def GrpL (l : List Bs) : Prop := 0 < l.length ∧ l.getD 0 [] = roundsL (l.getD 0 []).length ∧ ∀ a ∈ l, ∀ b ∈ l, timesL a b ∈ l
instance (l : List Bs) : Decidable (GrpL l) := by unfold GrpL; infer_instance
theorem getD_memB {l : List Bs} {k : Nat} (h : k < l.length) : l.getD k [] ∈ l := by rw [List.getD_eq_getElem?_getD, List.getElem?_eq_getElem h]; exact List.getElem_mem h
theorem GrpL.grp {n : Nat} {l : List Bs} (hr : ∀ r ∈ l, IsRow r ∧ r.length = n) (hs : l.Nodup) (h : GrpL l) : IsGrp n l where
  rows := hr
  nodup := hs
  one := by
    have hm := getD_memB h.1
    have e := h.2.1
    rw [(hr _ hm).2] at e
    rw [← e]; exact hm
  mul := h.2.2
theorem IsGrp.grpL {n : Nat} {l : List Bs} (h : IsGrp n l) (hs : Rise l) : GrpL l := by
  have hp := h.pos
  have hm := getD_memB hp
  have hr := h.rows _ hm
  refine ⟨hp, ?_, h.mul⟩
  obtain ⟨i, hi, he⟩ := List.getElem_of_mem h.one
  have h1 := sorted_get hs.sorted (Nat.zero_le i) hi
  have e2 : l.getD i [] = roundsL n := by rw [List.getD_eq_getElem?_getD, List.getElem?_eq_getElem hi, Option.getD_some, he]
  rw [e2] at h1
  have h2 := rounds_le hr.1
  rw [hr.2] at h2 ⊢
  exact List.le_antisymm h1 h2
theorem gen_more {gens gens' : List Bs} {e : Bs} {m m' : Nat} (h : GenOk gens' e m') (hs : ∀ g ∈ gens, g ∈ gens') : ∀ x ∈ clo gens e m, x ∈ clo gens' e m' :=
  clo_all (fun x => x ∈ clo gens' e m') (clo_first _ _ _) (fun a ha g hg => gen_closed h ha (hs g hg)) m
theorem isgrp_fail {n : Nat} {l gens : List Bs} (hr : ∀ r ∈ l, IsRow r ∧ r.length = n) (hs : Rise l) (hg : ∀ g ∈ gens, g ∈ l) (hno : ¬ GenOk gens (roundsL n) l.length) : ¬ GrpL l := fun h =>
  hno (gen_ok (h.grp hr hs.nodup) hg (Nat.le_refl _))
theorem isgrp_end {n : Nat} (hn : 3 ≤ n ∧ n ≤ 8) {l gens : List Bs} {m : Nat} (hr : ∀ r ∈ l, IsRow r ∧ r.length = n) (hs : Rise l) (hg : ∀ g ∈ gens, g ∈ l) (hok : GenOk gens (roundsL n) m) (hall : ∀ r ∈ l, r ∈ genV gens (roundsL n) m) : genV gens (roundsL n) m = l ↔ GrpL l := by
  constructor
  · intro e
    have := genV_grp hn (fun g hgm => hr g (hg g hgm)) hok
    rw [e] at this
    exact this.grpL hs
  · intro h
    refine rise_uniq (genV_rise _ _ _) hs fun x => ⟨fun hx => ?_, hall x⟩
    exact gen_sub (h.grp hr hs.nodup) hg m x ((genV_mem hok x).1 hx)
/-- The least row of a coset. -/
def leastC (G : List Bs) (x : Bs) : Bs := (cosL x G).getD 0 []
def cosetsL (G l : List Bs) : List Bs := uqL [] (srt (l.map (leastC G)))
theorem least_of {l : List Bs} {m : Bs} (hm : m ∈ l) (h : ∀ x ∈ l, m ≤ x) : (srt l).getD 0 [] = m := by
  have hp : 0 < (srt l).length := by rw [srt_len]; exact List.length_pos_of_mem hm
  have h1 := h _ (srt_mem.1 (getD_memB hp))
  obtain ⟨i, hi, he⟩ := List.getElem_of_mem (srt_mem.2 hm)
  have h2 := sorted_get (srt_sorted l) (Nat.zero_le i) hi
  have e2 : (srt l).getD i [] = m := by rw [List.getD_eq_getElem?_getD, List.getElem?_eq_getElem hi, Option.getD_some, he]
  rw [e2] at h2
  exact List.le_antisymm h2 h1
theorem leastC_mem {n : Nat} {G : List Bs} (hG : IsGrp n G) (x : Bs) : leastC G x ∈ cosL x G := getD_memB (by rw [cosL_len]; exact hG.pos)
theorem leastC_idem {n : Nat} {G : List Bs} (hG : IsGrp n G) {x : Bs} (hx : IsRow x) (hl : x.length = n) {y : Bs} (hy : y ∈ cosL x G) : leastC G y = leastC G x := by
  rw [leastC, hG.same hx hl hy]; rfl
theorem cosetsL_one {n : Nat} {G : List Bs} (hG : IsGrp n G) {x : Bs} (hx : IsRow x) (hl : x.length = n) : cosetsL G (cosL x G) = [leastC G x] := by
  obtain ⟨h1, h2, _⟩ := uqL_spec [] (srt ((cosL x G).map (leastC G))) (srt_sorted _)
  refine rise_uniq h1 (List.pairwise_singleton _ _) fun y => ?_
  rw [cosetsL, h2, srt_mem, List.mem_map, List.mem_singleton]
  constructor
  · rintro ⟨⟨z, hz, rfl⟩, _⟩
    exact leastC_idem hG hx hl hz
  · rintro rfl
    exact ⟨⟨_, leastC_mem hG x, leastC_idem hG hx hl (leastC_mem hG x)⟩, by simp⟩
theorem cosetsL_rise (G l : List Bs) : Rise (cosetsL G l) := (uqL_spec [] _ (srt_sorted _)).1
theorem cosetsL_at {n : Nat} {G : List Bs} (hG : IsGrp n G) {l : List Bs} (hr : ∀ r ∈ l, IsRow r ∧ r.length = n) {y : Bs} (hy : y ∈ cosetsL G l) : (IsRow y ∧ y.length = n) ∧ leastC G y = y := by
  have h2 := ((uqL_spec [] _ (srt_sorted _)).2.1 y).1 hy
  obtain ⟨x, hx, rfl⟩ := List.mem_map.1 (srt_mem.1 h2.1)
  have hxr := hr x hx
  have hm := leastC_mem hG x
  exact ⟨cos_row hG hxr.1 hxr.2 hm, leastC_idem hG hxr.1 hxr.2 hm⟩
theorem cosetsL_len (G l : List Bs) : (cosetsL G l).length ≤ l.length := by
  have := (uqL_spec [] _ (srt_sorted (l.map (leastC G)))).2.2
  rw [srt_len, List.length_map] at this
  exact this
end Go.Proofs.Ytnincmnkdjlndaa
