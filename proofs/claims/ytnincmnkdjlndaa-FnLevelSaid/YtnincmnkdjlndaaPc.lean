/-
  Plain lists: the cycles of a row, its order, its sign; ranks. No program.
  Conditions: none.
-/
import Derived.Test.YtnincmnkdjlndaaPh
set_option linter.unusedSimpArgs false
set_option linter.unusedVariables false
set_option linter.defProp false
namespace Go.Proofs.Ytnincmnkdjlndaa
open Go
/-- The place to which k steps lead. -/
def itb (a : List UInt8) : Nat → Nat → Nat
  | 0, i => i
  | k + 1, i => bell a (itb a k i)
section
variable {a : List UInt8}
theorem itb_lt (h : IsRow a) {i : Nat} (hi : i < a.length) : ∀ k, itb a k i < a.length
  | 0 => hi
  | k + 1 => h.bell_lt (itb_lt h hi k)
theorem itb_add (j : Nat) (i : Nat) : ∀ k, itb a (j + k) i = itb a k (itb a j i)
  | 0 => rfl
  | k + 1 => by rw [← Nat.add_assoc]; show bell a _ = bell a _; rw [itb_add j i k]
theorem itb_step (i k : Nat) : itb a (k + 1) i = itb a k (bell a i) := by rw [Nat.add_comm]; exact itb_add 1 i k
theorem itb_inj (h : IsRow a) {i j : Nat} (hi : i < a.length) (hj : j < a.length) : ∀ k, itb a k i = itb a k j → i = j
  | 0, e => e
  | k + 1, e => itb_inj h hi hj k (h.inj' (itb_lt h hi k) (itb_lt h hj k) e)
theorem itb_pow (h : IsRow a) {i : Nat} (hi : i < a.length) : ∀ k, bell (powL a k) i = itb a k i
  | 0 => roundsL_bell _ _ h.1.2 hi
  | k + 1 => by
    have h1 := pow_bell h 1 k i hi
    have e : powL a 1 = a := rounds_times h
    rw [e, Nat.add_comm 1 k, itb_pow h hi k] at h1
    exact h1
/-- c is the length of the cycle of i. -/
def IsPer (a : List UInt8) (i c : Nat) : Prop := 1 ≤ c ∧ c ≤ 8 ∧ itb a c i = i ∧ ∀ j, 1 ≤ j → j < c → itb a j i ≠ i
theorem per_exists (h : IsRow a) {i : Nat} (hi : i < a.length) : ∃ c, IsPer a i c := by
  obtain ⟨c, h1, h8, hc⟩ := bell_home h hi
  rw [itb_pow h hi] at hc
  have least : ∀ n k, k ≤ n → 1 ≤ k → k ≤ 8 → itb a k i = i → ∃ c, IsPer a i c := by
    intro n
    induction n with
    | zero => intro k hk h1 _ _; omega
    | succ n ih =>
      intro k hk h1 h2 h3
      by_cases hx : ∃ j, 1 ≤ j ∧ j < k ∧ itb a j i = i
      · obtain ⟨j, hj1, hj2, hj3⟩ := hx
        exact ih j (by omega) hj1 (by omega) hj3
      · exact ⟨k, h1, h2, h3, fun j hj1 hj2 he => hx ⟨j, hj1, hj2, he⟩⟩
  exact least c c (Nat.le_refl _) h1 h8 hc
/-- The length of the cycle of i. -/
def per (a : List UInt8) (i : Nat) : Nat := ((List.range 9).find? fun c => decide (1 ≤ c) && decide (itb a c i = i)).getD 0
theorem per_is (h : IsRow a) {i : Nat} (hi : i < a.length) : IsPer a i (per a i) := by
  obtain ⟨c, hc⟩ := per_exists h hi
  have : (List.range 9).find? (fun c => decide (1 ≤ c) && decide (itb a c i = i)) = some c := by
    rw [List.find?_range_eq_some]
    refine ⟨by simp [hc.1, hc.2.2.1], by simp; have := hc.2.1; omega, fun j hj => ?_⟩
    by_cases h0 : 1 ≤ j
    · simp [hc.2.2.2 j h0 hj]
    · simp [h0]
  unfold per
  rw [this]
  exact hc
theorem IsPer.many {i c : Nat} (h : IsPer a i c) : ∀ m, itb a (c * m) i = i
  | 0 => rfl
  | m + 1 => by rw [Nat.mul_succ, itb_add, h.many m, h.2.2.1]
theorem IsPer.mod {i c : Nat} (h : IsPer a i c) (k : Nat) : itb a k i = itb a (k % c) i := by
  have e : c * (k / c) + k % c = k := Nat.div_add_mod k c
  rw [← congrArg (fun n => itb a n i) e]
  show itb a (c * (k / c) + k % c) i = _
  rw [itb_add, h.many]
theorem IsPer.dvd {i c n : Nat} (h : IsPer a i c) (hn : itb a n i = i) : n % c = 0 := by
  rw [h.mod] at hn
  have hlt : n % c < c := Nat.mod_lt _ h.1
  rcases Nat.eq_zero_or_pos (n % c) with h0 | h0
  · exact h0
  · exact absurd hn (h.2.2.2 _ h0 hlt)
theorem IsPer.inj (hr : IsRow a) {i c j k : Nat} (h : IsPer a i c) (hi : i < a.length) (hj : j < c) (hk : k < c) (he : itb a j i = itb a k i) : j = k := by
  have key : ∀ j k, j < k → k < c → itb a j i ≠ itb a k i := fun j k hjk hk he => by
    have e : itb a k i = itb a j (itb a (k - j) i) := by rw [← itb_add, Nat.sub_add_cancel (Nat.le_of_lt hjk)]
    rw [e] at he
    have := itb_inj hr hi (itb_lt hr hi _) j he
    exact h.2.2.2 (k - j) (by omega) (by omega) this.symm
  rcases Nat.lt_trichotomy j k with h1 | h1 | h1
  · exact absurd he (key j k h1 hk)
  · exact h1
  · exact absurd he.symm (key k j h1 hj)
/-- y lies in the cycle of x. -/
def InC (a : List UInt8) (x y : Nat) : Prop := ∃ k, itb a k x = y
theorem InC.refl (x : Nat) : InC a x x := ⟨0, rfl⟩
theorem InC.trans {x y z : Nat} (h : InC a x y) (k : InC a y z) : InC a x z := by
  obtain ⟨m, rfl⟩ := h
  obtain ⟨n, rfl⟩ := k
  exact ⟨m + n, itb_add m x n⟩
theorem InC.symm (hr : IsRow a) {x y : Nat} (hx : x < a.length) (h : InC a x y) : InC a y x := by
  obtain ⟨m, rfl⟩ := h
  have hp := per_is hr hx
  have h1 := hp.1
  refine ⟨per a x * m - m, ?_⟩
  rw [← itb_add]
  have : m ≤ per a x * m := Nat.le_mul_of_pos_left m h1
  rw [Nat.add_sub_cancel' this]
  exact hp.many m
theorem InC.small (hr : IsRow a) {x y : Nat} (hx : x < a.length) (h : InC a x y) : ∃ k, k < per a x ∧ itb a k x = y := by
  obtain ⟨m, rfl⟩ := h
  have hp := per_is hr hx
  exact ⟨m % per a x, Nat.mod_lt _ hp.1, (hp.mod m).symm⟩
/-- The cycle of x. -/
def orbit (a : List UInt8) (x : Nat) : List Nat := (List.range (per a x)).map fun k => itb a k x
theorem orbit_mem (hr : IsRow a) {x : Nat} (hx : x < a.length) (y : Nat) : y ∈ orbit a x ↔ InC a x y := by
  simp only [orbit, List.mem_map, List.mem_range]
  exact ⟨fun ⟨k, _, e⟩ => ⟨k, e⟩, fun h => h.small hr hx⟩
theorem orbit_nodup (hr : IsRow a) {x : Nat} (hx : x < a.length) : (orbit a x).Nodup := by
  have hp := per_is hr hx
  unfold orbit
  rw [List.nodup_iff_pairwise_ne, List.pairwise_map]
  refine List.Pairwise.imp_of_mem ?_ (List.nodup_iff_pairwise_ne.1 List.nodup_range)
  intro j k hj hk hne he
  exact hne (hp.inj hr hx (List.mem_range.1 hj) (List.mem_range.1 hk) he)
/-- x is the least of its cycle. -/
def isMin (a : List UInt8) (x : Nat) : Bool := (orbit a x).all fun y => decide (x ≤ y)
theorem isMin_iff (hr : IsRow a) {x : Nat} (hx : x < a.length) : isMin a x = true ↔ ∀ y, InC a x y → x ≤ y := by
  simp only [isMin, List.all_eq_true, decide_eq_true_eq]
  exact ⟨fun h y hy => h y ((orbit_mem hr hx y).2 hy), fun h y hy => h y ((orbit_mem hr hx y).1 hy)⟩
theorem min_of (hr : IsRow a) : ∀ n x, x ≤ n → x < a.length → ∃ m, InC a x m ∧ m < a.length ∧ isMin a m = true := by
  intro n
  induction n with
  | zero =>
    intro x hx hxl
    exact ⟨x, InC.refl x, hxl, (isMin_iff hr hxl).2 fun y _ => by omega⟩
  | succ n ih =>
    intro x hx hxl
    by_cases hm : ∃ y, InC a x y ∧ y < x
    · obtain ⟨y, hy, hlt⟩ := hm
      obtain ⟨m, h1, h2, h3⟩ := ih y (by omega) (by omega)
      exact ⟨m, hy.trans h1, h2, h3⟩
    · exact ⟨x, InC.refl x, hxl, (isMin_iff hr hxl).2 fun y hy => Nat.not_lt.1 fun h => hm ⟨y, hy, h⟩⟩
/-- The least ones. -/
def mins (a : List UInt8) : List Nat := (List.range a.length).filter (isMin a)
theorem mins_lt {m : Nat} (h : m ∈ mins a) : m < a.length ∧ isMin a m = true := by
  simpa [mins] using h
theorem len_of_cover {L : List Nat} {n : Nat} (h1 : L.Nodup) (h2 : ∀ x ∈ L, x < n) (h3 : ∀ x, x < n → x ∈ L) : L.length = n := by
  apply Nat.le_antisymm
  · refine Nat.not_lt.1 fun hlt => ?_
    obtain ⟨i, j, hij, hj, he⟩ := pigeon n (fun i => L.getD i 0) (fun i hi => h2 _ (by
      rw [List.getD_eq_getElem?_getD, List.getElem?_eq_getElem (by omega)]; exact List.getElem_mem _))
    simp only [List.getD_eq_getElem?_getD] at he
    rw [List.getElem?_eq_getElem (by omega), List.getElem?_eq_getElem (by omega), Option.getD_some, Option.getD_some] at he
    have := (List.getElem_inj h1).1 he
    omega
  · refine Nat.not_lt.1 fun hlt => ?_
    have hidx : ∀ x, x < n → L.idxOf x < L.length := fun x hx => List.idxOf_lt_length_of_mem (h3 x hx)
    obtain ⟨i, j, hij, hj, he⟩ := pigeon L.length (fun x => L.idxOf x) (fun i hi => hidx i (by omega))
    have key : ∀ x, x < n → L.getD (L.idxOf x) 0 = x := fun x hx => by
      rw [List.getD_eq_getElem?_getD, List.getElem?_eq_getElem (hidx x hx), Option.getD_some]
      exact List.getElem_idxOf (hidx x hx)
    have he' : L.idxOf i = L.idxOf j := he
    have k1 := key i (by omega)
    rw [he', key j (by omega)] at k1
    omega
/-- The cycles hold every place once. -/
theorem mins_sum (hr : IsRow a) : ((mins a).map (per a)).sum = a.length := by
  have hl : ((mins a).flatMap (orbit a)).length = a.length := by
    refine len_of_cover ?_ (fun x hx => ?_) (fun x hx => ?_)
    · rw [List.nodup_iff_pairwise_ne, List.pairwise_flatMap]
      refine ⟨fun m hm => List.nodup_iff_pairwise_ne.1 (orbit_nodup hr (mins_lt hm).1), ?_⟩
      refine List.Pairwise.imp_of_mem ?_ (List.Pairwise.filter (isMin a) (List.nodup_iff_pairwise_ne.1 List.nodup_range))
      intro m m' hm hm' hne x hx y hy he
      subst he
      have h1 := mins_lt (a := a) hm
      have h2 := mins_lt (a := a) hm'
      have hx := (orbit_mem hr h1.1 x).1 hx
      have hy := (orbit_mem hr h2.1 x).1 hy
      have h12 : InC a m m' := hx.trans (hy.symm hr h2.1)
      have a1 := (isMin_iff hr h1.1).1 h1.2 _ h12
      have a2 := (isMin_iff hr h2.1).1 h2.2 _ (h12.symm hr h1.1)
      exact hne (Nat.le_antisymm a1 a2)
    · obtain ⟨m, hm, hx⟩ := List.mem_flatMap.1 hx
      obtain ⟨k, rfl⟩ := (orbit_mem hr (mins_lt hm).1 x).1 hx
      exact itb_lt hr (mins_lt hm).1 k
    · obtain ⟨m, h1, h2, h3⟩ := min_of hr x x (Nat.le_refl _) hx
      exact List.mem_flatMap.2 ⟨m, by simp [mins, h2, h3], (orbit_mem hr h2 x).2 (h1.symm hr hx)⟩
  rw [List.length_flatMap] at hl
  rw [← hl]
  congr 1
  exact List.map_congr_left fun m _ => by simp [orbit]
/-- The cycles of length two at least. -/
def cycL (a : List UInt8) : List (List Nat) := ((mins a).filter fun m => decide (2 ≤ per a m)).map (orbit a)
def stayN (a : List UInt8) : Nat := ((List.range a.length).filter fun i => decide (bell a i = i)).length
theorem per_one (hr : IsRow a) {i : Nat} (hi : i < a.length) : per a i = 1 ↔ bell a i = i := by
  have hp := per_is hr hi
  constructor
  · intro h; have := hp.2.2.1; rw [h] at this; exact this
  · intro h
    rcases Nat.lt_or_ge 1 (per a i) with h1 | h1
    · exact absurd h (hp.2.2.2 1 (by omega) h1)
    · have := hp.1; omega
theorem fixed_min (hr : IsRow a) {i : Nat} (hi : i < a.length) (h : bell a i = i) : isMin a i = true := by
  rw [isMin_iff hr hi]
  rintro y ⟨k, rfl⟩
  have : ∀ k, itb a k i = i := fun k => by
    induction k with
    | zero => rfl
    | succ k ih => show bell a _ = i; rw [ih, h]
  rw [this]
  exact Nat.le_refl _
theorem stay_mins (hr : IsRow a) : stayN a = ((mins a).filter fun m => decide (per a m = 1)).length := by
  unfold stayN mins
  rw [List.filter_filter]
  congr 1
  refine List.filter_congr fun i hi => ?_
  have hi := List.mem_range.1 hi
  by_cases h : bell a i = i
  · simp [h, fixed_min hr hi h, (per_one hr hi).2 h]
  · simp only [h, decide_false, Bool.false_eq, Bool.and_eq_false_iff, decide_eq_false_iff_not]
    exact .inl fun e => h ((per_one hr hi).1 e)
theorem sum_split (f : Nat → Nat) : ∀ l : List Nat, (∀ m ∈ l, 1 ≤ f m) → ((l.filter fun m => decide (2 ≤ f m)).map f).sum + (l.filter fun m => decide (f m = 1)).length = (l.map f).sum ∧ ((l.filter fun m => decide (2 ≤ f m)).map fun m => f m - 1).sum + l.length = (l.map f).sum := by
  intro l
  induction l with
  | nil => intro _; exact ⟨rfl, rfl⟩
  | cons m l ih =>
    intro h
    have h1 := h m (by simp)
    obtain ⟨i1, i2⟩ := ih fun x hx => h x (by simp [hx])
    simp only [List.filter_cons, List.map_cons, List.sum_cons, List.length_cons]
    by_cases h2 : 2 ≤ f m
    · have e2 := decide_eq_true h2
      have e3 : decide (f m = 1) = false := decide_eq_false (by omega)
      simp only [e2, e3, if_true, if_false, List.map_cons, List.sum_cons, Bool.false_eq_true]
      constructor <;> omega
    · have e2 := decide_eq_false h2
      have e3 : decide (f m = 1) = true := decide_eq_true (by omega)
      simp only [e2, e3, if_true, if_false, List.length_cons, Bool.false_eq_true]
      constructor <;> omega
theorem cyc_sum (hr : IsRow a) : ((cycL a).map List.length).sum + stayN a = a.length ∧ ((cycL a).map fun c => c.length - 1).sum + (mins a).length = a.length := by
  have h := sum_split (per a) (mins a) fun m hm => (per_is hr (mins_lt hm).1).1
  rw [mins_sum hr] at h
  have e1 : (cycL a).map List.length = (((mins a).filter fun m => decide (2 ≤ per a m)).map (per a)) := by
    rw [cycL, List.map_map]; exact List.map_congr_left fun m _ => by simp [orbit]
  have e2 : (cycL a).map (fun c => c.length - 1) = (((mins a).filter fun m => decide (2 ≤ per a m)).map fun m => per a m - 1) := by
    rw [cycL, List.map_map]; exact List.map_congr_left fun m _ => by simp [orbit]
  rw [e1, e2, stay_mins hr]
  exact h
/-! ### the sign -/
/-- The transposition of two places. -/
def swp (n i j : Nat) : List UInt8 := ((roundsL n).set i (UInt8.ofNat (49 + j))).set j (UInt8.ofNat (49 + i))
theorem swp_row : ∀ n < 9, 3 ≤ n → ∀ j < n, ∀ i < j, IsRow (swp n i j) := by decide +kernel
theorem swp_inv : ∀ n < 9, 3 ≤ n → ∀ j < n, ∀ i < j, (swp n i j).length = n ∧ invL (swp n i j) % 2 = 1 := by decide +kernel
theorem swp_bell : ∀ n < 9, ∀ j < n, ∀ i < j, ∀ x < n, bell (swp n i j) x = if x = i then j else if x = j then i else x := by decide +kernel
/-- The number of places that are not the least of their cycle. -/
def tn (a : List UInt8) : Nat := ((List.range a.length).filter fun x => !isMin a x).length
theorem tn_mins : tn a + (mins a).length = a.length := by
  have key : ∀ (p : Nat → Bool) (l : List Nat), (l.filter fun x => !p x).length + (l.filter p).length = l.length := by
    intro p l
    induction l with
    | nil => rfl
    | cons x l ih =>
      simp only [List.filter_cons, List.length_cons]
      cases p x <;> simp <;> omega
  have := key (isMin a) (List.range a.length)
  rw [List.length_range] at this
  exact this
theorem filter_one (p q : Nat → Bool) (j : Nat) : ∀ n, (∀ x < n, x ≠ j → p x = q x) → p j = true → q j = false →
    ((List.range n).filter p).length = ((List.range n).filter q).length + if j < n then 1 else 0 := by
  intro n
  induction n with
  | zero => intro _ _ _; rfl
  | succ n ih =>
    intro h hp hq
    have := ih (fun x hx => h x (by omega)) hp hq
    rw [List.range_succ, List.filter_append, List.filter_append, List.length_append, List.length_append]
    by_cases hj : n = j
    · subst hj
      rw [if_neg (Nat.lt_irrefl n)] at this
      simp [hp, hq, this]
    · have h1 := h n (by omega) hj
      have e : ([n].filter p).length = ([n].filter q).length := by simp only [List.filter_cons, List.filter_nil, h1]
      rw [e]
      by_cases hlt : j < n
      · rw [if_pos hlt] at this
        rw [if_pos (show j < n + 1 by omega)]; omega
      · rw [if_neg hlt] at this
        rw [if_neg (show ¬ j < n + 1 by omega)]; omega
theorem all_min (hr : IsRow a) (h : tn a = 0) : a = roundsL a.length := by
  have hall : ∀ x, x < a.length → isMin a x = true := fun x hx => by
    have h0 := List.length_eq_zero_iff.1 h
    have := List.filter_eq_nil_iff.1 h0 x (List.mem_range.2 hx)
    simpa using this
  refine row_ext (by rw [roundsL_len]) hr (roundsL_row _ hr.1) fun i hi => ?_
  rw [roundsL_bell _ _ hr.1.2 hi]
  have h1 := (isMin_iff hr hi).1 (hall i hi) _ ⟨1, rfl⟩
  have hb := hr.bell_lt hi
  have h2 := (isMin_iff hr hb).1 (hall _ hb) i (InC.symm hr hi ⟨1, rfl⟩)
  exact Nat.le_antisymm h2 h1
/-- A place taken out of its cycle. -/
theorem cut_one (hr : IsRow a) {m j : Nat} (hm : m < a.length) (hmin : isMin a m = true) (hj : bell a m = j) (hne : j ≠ m) :
    ∃ b, IsRow b ∧ b.length = a.length ∧ tn a = tn b + 1 ∧ invL b % 2 = (invL a + 1) % 2 := by
  have hjl : j < a.length := hj ▸ hr.bell_lt hm
  have hmj : m < j := by
    have := (isMin_iff hr hm).1 hmin j ⟨1, hj⟩
    omega
  have hrow := swp_row a.length (by have := hr.1; omega) hr.1.1 j hjl m hmj
  obtain ⟨hl, hinv⟩ := swp_inv a.length (by have := hr.1; omega) hr.1.1 j hjl m hmj
  have hbell := swp_bell a.length (by have := hr.1; omega) j hjl m hmj
  have hsg := sign_times hr _ _ (Nat.le_refl _) hrow hl.symm
  refine ⟨timesL a (swp a.length m j), timesL_row hr hrow hl.symm, by rw [timesL_len, hl], ?_, by omega⟩
  generalize hb : timesL a (swp a.length m j) = b
  have hbl : b.length = a.length := by rw [← hb, timesL_len, hl]
  have hbr : IsRow b := by rw [← hb]; exact timesL_row hr hrow hl.symm
  have hbb : ∀ x, x < a.length → bell b x = bell a (if x = m then j else if x = j then m else x) := fun x hx => by
    rw [← hb, timesL_bell _ _ _ (by rw [hl]; exact hx), hbell x hx]
  have bj : bell b j = j := by rw [hbb j hjl, if_neg hne, if_pos rfl, hj]
  have bm : bell b m = bell a j := by rw [hbb m hm, if_pos rfl]
  have bx : ∀ x, x < a.length → x ≠ m → x ≠ j → bell b x = bell a x := fun x hx h1 h2 => by rw [hbb x hx, if_neg h1, if_neg h2]
  -- a step of b is one or two steps of a
  have fwd : ∀ k x, x < a.length → InC a x (itb b k x) := by
    intro k
    induction k with
    | zero => intro x _; exact InC.refl x
    | succ k ih =>
      intro x hx
      have h1 := ih x hx
      have hlt : itb b k x < a.length := by have := itb_lt hbr (i := x) (by omega) k; omega
      refine h1.trans ?_
      show InC a (itb b k x) (bell b (itb b k x))
      by_cases h2 : itb b k x = m
      · rw [h2, bm, ← hj]; exact ⟨2, rfl⟩
      · by_cases h3 : itb b k x = j
        · rw [h3, bj]; exact InC.refl j
        · rw [bx _ hlt h2 h3]; exact ⟨1, rfl⟩
  have bwd : ∀ k x, x < a.length → x ≠ j → itb a k x ≠ j → InC b x (itb a k x) := by
    intro k
    induction k using Nat.strongRecOn with
    | _ k ih =>
      intro x hx hxj hk
      cases k with
      | zero => exact InC.refl x
      | succ k =>
        have hlt : itb a k x < a.length := itb_lt hr hx k
        by_cases h3 : itb a k x = j
        · cases k with
          | zero => exact absurd h3 hxj
          | succ k =>
            have hlt' : itb a k x < a.length := itb_lt hr hx k
            have h4 : itb a k x = m := hr.inj' hlt' hm (by rw [hj]; exact h3)
            have h5 := ih k (by omega) x hx hxj (by rw [h4]; exact Ne.symm hne)
            refine h5.trans ?_
            show InC b (itb a k x) (bell a (bell a (itb a k x)))
            rw [h4, hj, ← bm]
            exact ⟨1, rfl⟩
        · have h5 := ih k (by omega) x hx hxj h3
          refine h5.trans ?_
          show InC b (itb a k x) (bell a (itb a k x))
          have h6 : itb a k x ≠ m := fun e => hk (by show bell a _ = j; rw [e, hj])
          rw [← bx _ hlt h6 h3]
          exact ⟨1, rfl⟩
  have hsame : ∀ x, x < a.length → x ≠ j → isMin b x = isMin a x := fun x hx hxj => by
    have e : (isMin b x = true) ↔ (isMin a x = true) := by
      rw [isMin_iff hbr (by omega), isMin_iff hr hx]
      constructor
      · rintro h y ⟨k, rfl⟩
        by_cases hy : itb a k x = j
        · rw [hy]
          have h1 : InC a x m := (show InC a x j from ⟨k, hy⟩).trans (InC.symm hr hm ⟨1, hj⟩)
          obtain ⟨k', hk'⟩ := h1
          have h2 := bwd k' x hx hxj (by rw [hk']; exact Ne.symm hne)
          rw [hk'] at h2
          have := h m h2
          omega
        · exact h _ (bwd k x hx hxj hy)
      · rintro h y ⟨k, rfl⟩
        exact h _ (fwd k x hx)
    cases h1 : isMin b x <;> cases h2 : isMin a x <;> simp_all
  have hbjm : isMin b j = true := fixed_min hbr (by omega) bj
  have hajm : isMin a j = false := by
    cases h : isMin a j with
    | false => rfl
    | true =>
      have := (isMin_iff hr hjl).1 h m (InC.symm hr hm ⟨1, hj⟩)
      omega
  have := filter_one (fun x => !isMin a x) (fun x => !isMin b x) j a.length (fun x hx hxj => by rw [hsame x hx hxj]) (by simp [hajm]) (by simp [hbjm])
  rw [if_pos hjl] at this
  unfold tn
  rw [hbl]
  exact this
theorem sign_tn : ∀ (n : Nat) (a : List UInt8), IsRow a → tn a = n → invL a % 2 = n % 2 := by
  intro n
  induction n with
  | zero =>
    intro a hr h
    have := all_min hr h
    have h0 := inv_rounds a.length (by have := hr.1; omega)
    rw [← this] at h0
    rw [h0]
  | succ n ih =>
    intro a hr h
    have hex : ∃ y, y < a.length ∧ isMin a y = false := by
      refine Classical.byContradiction fun hn => ?_
      have : tn a = 0 := by
        unfold tn
        rw [List.length_eq_zero_iff, List.filter_eq_nil_iff]
        intro x hx
        have hx := List.mem_range.1 hx
        cases h : isMin a x with
        | true => simp
        | false => exact absurd ⟨x, hx, h⟩ hn
      omega
    obtain ⟨y, hy, hym⟩ := hex
    obtain ⟨m, h1, h2, h3⟩ := min_of hr y y (Nat.le_refl _) hy
    have hne : bell a m ≠ m := fun e => by
      have hc : ∀ k, itb a k m = m := fun k => by
        induction k with
        | zero => rfl
        | succ k ih => show bell a _ = m; rw [ih, e]
      obtain ⟨k, hk⟩ := h1.symm hr hy
      rw [hc] at hk
      rw [hk, hym] at h3
      cases h3
    obtain ⟨b, hb, hbl, ht, hi⟩ := cut_one hr h2 h3 rfl hne
    have := ih b hb (by omega)
    omega
/-- The sign by the cycles. -/
theorem sign_cyc (hr : IsRow a) : invL a % 2 = ((cycL a).map fun c => c.length - 1).sum % 2 := by
  have h1 := (cyc_sum hr).2
  have h2 := tn_mins (a := a)
  rw [sign_tn (tn a) a hr rfl]
  congr 1
  omega
end
/-! ### ranks -/
/-- The rank of a row among the orders of its bells. -/
def rankL : List UInt8 → Nat
  | [] => 0
  | x :: l => (l.filter fun y => decide (y.toNat < x.toNat)).length * factL l.length + rankL l
theorem rank_go : ∀ (i : Nat) (l : List UInt8) (k : Nat), l.length = i → l.Pairwise (fun x y => x.toNat < y.toNat) → k < factL i → rankL (rowGo i l k) = k ∧ (rowGo i l k).Perm l := by
  intro i
  induction i with
  | zero =>
    intro l k hl _ hk
    obtain rfl := List.length_eq_zero_iff.1 hl
    simp only [factL] at hk
    exact ⟨by simp [rowGo, rankL]; omega, List.Perm.refl _⟩
  | succ i ih =>
    intro l k hl hp hk
    obtain ⟨h1, h2⟩ := rank_lt i k hk
    have hq : k / factL i < l.length := by omega
    have hsplit : l = l.take (k / factL i) ++ l[k / factL i] :: l.drop (k / factL i + 1) := by
      rw [← List.drop_eq_getElem_cons hq, List.take_append_drop]
    have hlen : (l.take (k / factL i) ++ l.drop (k / factL i + 1)).length = i := by simp; omega
    have hp' := hp
    rw [hsplit] at hp'
    obtain ⟨p1, p2, p3⟩ := List.pairwise_append.1 hp'
    obtain ⟨p4, p5⟩ := List.pairwise_cons.1 p2
    have hps : (l.take (k / factL i) ++ l.drop (k / factL i + 1)).Pairwise (fun x y => x.toNat < y.toNat) :=
      List.pairwise_append.2 ⟨p1, p5, fun x hx y hy => p3 x hx y (List.mem_cons_of_mem _ hy)⟩
    obtain ⟨i1, i2⟩ := ih _ _ hlen hps h2
    have hg : l.getD (k / factL i) 0 = l[k / factL i] := by rw [List.getD_eq_getElem?_getD, List.getElem?_eq_getElem hq]; rfl
    constructor
    · simp only [rowGo, rankL, rowGo_len, i1, hg]
      have hc : ((rowGo i (l.take (k / factL i) ++ l.drop (k / factL i + 1)) (k % factL i)).filter fun y => decide (y.toNat < (l[k / factL i]).toNat)).length = k / factL i := by
        rw [(i2.filter _).length_eq, List.filter_append, List.filter_eq_self.2 (fun x hx => by simpa using p3 x hx _ (List.mem_cons_self)), List.filter_eq_nil_iff.2 (fun x hx => by have := p4 x hx; simp; omega), List.append_nil, List.length_take]
        omega
      rw [hc, Nat.mul_comm]
      exact Nat.div_add_mod k (factL i)
    · rw [rowGo, hg]
      refine ((i2.cons _).trans ?_)
      have := List.perm_middle (l₁ := l.take (k / factL i)) (a := l[k / factL i]) (l₂ := l.drop (k / factL i + 1))
      rw [← hsplit] at this
      exact this.symm
theorem go_less : ∀ (i : Nat) (l : List UInt8) (k k' : Nat), l.length = i → l.Pairwise (fun x y => x.toNat < y.toNat) → k < k' → k' < factL i → Op.bytesLess (rowGo i l k) (rowGo i l k') = true := by
  intro i
  induction i with
  | zero => intro l k k' _ _ h1 h2; simp only [factL] at h2; omega
  | succ i ih =>
    intro l k k' hl hp hkk hk'
    obtain ⟨h1, h2⟩ := rank_lt i k' hk'
    obtain ⟨h3, h4⟩ := rank_lt i k (by omega)
    have hle : k / factL i ≤ k' / factL i := Nat.div_le_div_right (Nat.le_of_lt hkk)
    have hq : k / factL i < l.length := by omega
    have hq' : k' / factL i < l.length := by omega
    simp only [rowGo, Op.bytesLess, Bool.or_eq_true, decide_eq_true_eq, Bool.and_eq_true, beq_iff_eq]
    have g1 : l.getD (k / factL i) 0 = l[k / factL i] := by rw [List.getD_eq_getElem?_getD, List.getElem?_eq_getElem hq]; rfl
    have g2 : l.getD (k' / factL i) 0 = l[k' / factL i] := by rw [List.getD_eq_getElem?_getD, List.getElem?_eq_getElem hq']; rfl
    rw [g1, g2]
    rcases Nat.lt_or_ge (k / factL i) (k' / factL i) with hlt | hge
    · left
      exact UInt8.lt_iff_toNat_lt.2 (List.pairwise_iff_getElem.1 hp _ _ hq hq' hlt)
    · right
      have e : k / factL i = k' / factL i := by omega
      refine ⟨by simp only [e], ?_⟩
      rw [e]
      refine ih _ _ _ (by simp; omega) ?_ ?_ h2
      · have hsplit : l = l.take (k' / factL i) ++ l[k' / factL i] :: l.drop (k' / factL i + 1) := by
          rw [← List.drop_eq_getElem_cons hq', List.take_append_drop]
        rw [hsplit] at hp
        obtain ⟨p1, p2, p3⟩ := List.pairwise_append.1 hp
        exact List.pairwise_append.2 ⟨p1, (List.pairwise_cons.1 p2).2, fun x hx y hy => p3 x hx y (List.mem_cons_of_mem _ hy)⟩
      · have d1 := Nat.div_add_mod k (factL i)
        have d2 := Nat.div_add_mod k' (factL i)
        rw [e] at d1
        omega
theorem rounds_sorted : ∀ n < 9, (roundsL n).Pairwise (fun x y => x.toNat < y.toNat) := by decide
end Go.Proofs.Ytnincmnkdjlndaa
