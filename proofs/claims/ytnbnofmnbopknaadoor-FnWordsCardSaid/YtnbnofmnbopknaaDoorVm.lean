/-
  Slices in memory: what is read of one, what is owned, what append and make leave.
  Conditions: none.
-/
import Derived.Test.YtnbnofmnbopknaaDoorVs
import Derived.Laws.OwnMore
import Derived.ArgAppend
import Derived.Lib.ConvBytes
import Derived.Laws.IdiomStrings
set_option linter.unusedSimpArgs false
set_option linter.unusedVariables false
set_option linter.defProp false
namespace Go.Proofs.YtnbnofmnbopknaaDoor
open Go Go.RowKit

/-- v is a slice of n elements of z cells each, which read xs. -/
def Rd (w : World) (z : Nat) (v : Value) (n : Nat) (xs : List Value) : Prop :=
  xs.length = n * z ∧ ((v = .slice none 0 0 ∧ n = 0) ∨ ∃ a c, v = .slice (some a) n c ∧ n ≤ c ∧ ∀ j u, xs[j]? = some u → w.cell? (a.add j) = some u)
section
variable {w w' : World} {z n : Nat} {v : Value} {xs : List Value}
theorem Rd.ext (h : Rd w z v n xs) (he : Ext w w') : Rd w' z v n xs :=
  ⟨h.1, h.2.imp id fun ⟨a, c, e, hc, hx⟩ => ⟨a, c, e, hc, fun j u hj => he.cell (hx j u hj)⟩⟩
theorem Rd.lens (h : Rd w z v n xs) : lensV v = .int .i64 n := by
  rcases h.2 with ⟨rfl, rfl⟩ | ⟨a, c, rfl, _⟩ <;> rfl
theorem Rd.lensd (h : Rd w z v n xs) : lensD v = True := by
  rcases h.2 with ⟨rfl, rfl⟩ | ⟨a, c, rfl, _⟩ <;> rfl
theorem Rd.iad (h : Rd w z v n xs) (k : IntKind) (i : Int) : iaD v (.int k i) = (0 ≤ i ∧ i < n) := by
  rcases h.2 with ⟨rfl, rfl⟩ | ⟨a, c, rfl, _⟩
  · exact propext ⟨fun h => h.elim, fun h => by omega⟩
  · rfl
theorem Rd.at (h : Rd w z v n xs) (k : IntKind) (i : Nat) (hi : i < n) : ∃ a : Addr, iaV z v (.int k i) = .pointer (some (a.add (i * z))) ∧ ∀ j u, xs[j]? = some u → w.cell? (a.add j) = some u := by
  rcases h.2 with ⟨rfl, rfl⟩ | ⟨a, c, rfl, _, hx⟩
  · omega
  · exact ⟨a, by simp only [iaV, Int.toNat_natCast], hx⟩
theorem Rd.lt (h : Rd w z v n xs) {i o : Nat} (hi : i < n) (ho : o < z) : i * z + o < xs.length := by
  rw [h.1]
  calc i * z + o < i * z + z := by omega
    _ = (i + 1) * z := by rw [Nat.add_mul, Nat.one_mul]
    _ ≤ n * z := Nat.mul_le_mul_right z hi
theorem Rd.cell (h : Rd w z v n xs) (k : IntKind) {i o : Nat} (hi : i < n) (ho : o < z) : ∃ a, faV o (iaV z v (.int k i)) = .pointer (some a) ∧ w.cell? a = some (xs.getD (i * z + o) undef) := by
  obtain ⟨a, e, hx⟩ := h.at k i hi
  refine ⟨a.add (i * z + o), by rw [e]; simp only [faV, Addr.add_add], ?_⟩
  have := h.lt hi ho
  exact hx _ _ (by simp [List.getD_eq_getElem?_getD, this])
theorem Rd.ldf (h : Rd w z v n xs) (k : IntKind) {i o : Nat} (hi : i < n) (ho : o < z) : ldV w (faV o (iaV z v (.int k i))) = xs.getD (i * z + o) undef ∧ ldD w (faV o (iaV z v (.int k i))) = True := by
  obtain ⟨a, e, hc⟩ := h.cell k hi ho
  rw [e]
  exact ⟨by simp [ldV, hc], by simp [ldD, hc]⟩
theorem Rd.ld (h : Rd w 1 v n xs) (k : IntKind) {i : Nat} (hi : i < n) : ldV w (iaV 1 v (.int k i)) = xs.getD i undef ∧ ldD w (iaV 1 v (.int k i)) = True := by
  obtain ⟨a, e, hx⟩ := h.at k i hi
  have h1 := h.1
  have := hx i (xs.getD i undef) (by simp [List.getD_eq_getElem?_getD, show i < xs.length by omega])
  rw [e, Nat.mul_one]
  exact ⟨by simp [ldV, this], by simp [ldD, this]⟩
theorem Rd.lda (h : Rd w z v n xs) (k : IntKind) {i : Nat} (hi : i < n) : ldaV w z (iaV z v (.int k i)) = .agg ⟨(xs.drop (i * z)).take z⟩ ∧ ldaD w z (iaV z v (.int k i)) = True := by
  obtain ⟨a, e, hx⟩ := h.at k i hi
  have hc : ∀ j, j < z → w.cell? ((a.add (i * z)).add j) = some (xs.getD (i * z + j) undef) := fun j hj => by
    rw [Addr.add_add]
    have := h.lt hi hj
    exact hx _ _ (by simp [List.getD_eq_getElem?_getD, this])
  rw [e]
  refine ⟨?_, eq_true fun j hj => by rw [hc j hj]; exact Option.some_ne_none _⟩
  simp only [ldaV]
  congr 2
  apply List.ext_getElem?
  intro j
  by_cases hj : j < z
  · have := h.lt hi hj
    simp [hc j hj, hj, List.getD_eq_getElem?_getD, this]
  · have : z ≤ j := by omega
    simp [this, List.getElem?_take, hj]
end

/-- v is a slice that reads the elements l, each by its cells f. -/
def Sq {α : Type} (f : α → List Value) (z : Nat) (w : World) (v : Value) (l : List α) : Prop := (∀ a, (f a).length = z) ∧ Rd w z v l.length (l.flatMap f)
/-- The same, in a block of its own, at B or behind. -/
def Own {α : Type} (f : α → List Value) (z : Nat) (E : TypeId) (B : Nat) (w : World) (v : Value) (l : List α) : Prop := (∀ a, (f a).length = z) ∧
  ((v = .slice none 0 0 ∧ l = []) ∨ ∃ g cap cur, v = .slice (some ⟨g, 0, none⟩) l.length cap ∧ B ≤ g ∧ Blk w g cur E ∧ l.length ≤ cap ∧ cap ≤ maxLen ∧ cur.length = cap * z ∧ cur.take (l.length * z) = l.flatMap f)

section
variable {α : Type} {f : α → List Value} {z : Nat} {E : TypeId} {B : Nat} {w w' : World} {v : Value} {l : List α}
theorem flat_getD (hz : ∀ a, (f a).length = z) (d : α) : ∀ (l : List α) (i o : Nat), i < l.length → o < z → (l.flatMap f).getD (i * z + o) undef = (f (l.getD i d)).getD o undef := by
  intro l
  induction l with
  | nil => intro i o h; simp at h
  | cons a l ih =>
    intro i o hi ho
    cases i with
    | zero =>
      simp only [List.flatMap_cons, Nat.zero_mul, Nat.zero_add, List.getD_cons_zero, List.getD_eq_getElem?_getD]
      rw [List.getElem?_append_left (by rw [hz]; exact ho), List.getElem?_cons_zero, Option.getD_some]
    | succ i =>
      simp only [List.length_cons] at hi
      have e : (i + 1) * z + o = z + (i * z + o) := by rw [Nat.add_mul]; omega
      simp only [List.flatMap_cons, List.getD_cons_succ, List.getD_eq_getElem?_getD]
      rw [List.getElem?_append_right (by rw [hz, e]; omega), hz, e, Nat.add_sub_cancel_left]
      have := ih i o (by omega) ho
      simpa only [List.getD_eq_getElem?_getD, List.getElem?_cons_succ] using this
theorem flat_part (hz : ∀ a, (f a).length = z) (d : α) : ∀ (l : List α) (i : Nat), i < l.length → ((l.flatMap f).drop (i * z)).take z = f (l.getD i d) := by
  intro l
  induction l with
  | nil => intro i h; simp at h
  | cons a l ih =>
    intro i hi
    cases i with
    | zero => simp [← hz a]
    | succ i =>
      simp only [List.length_cons] at hi
      have e : (i + 1) * z = (f a).length + i * z := by rw [Nat.add_mul, hz]; omega
      rw [List.flatMap_cons, e, ← List.drop_drop, List.drop_left, List.getD_cons_succ]
      exact ih i (by omega)
theorem flat_len (hz : ∀ a, (f a).length = z) (l : List α) : (l.flatMap f).length = l.length * z := by
  induction l with
  | nil => simp
  | cons a l ih => rw [List.flatMap_cons, List.length_append, ih, hz, List.length_cons, Nat.add_mul]; omega
theorem Own.of (hz : ∀ a, (f a).length = z) {B' : Nat} (h : w.ownsRow B' E z v l.length (l.flatMap f)) (hB : B ≤ B') : Own f z E B w v l := by
  refine ⟨hz, ?_⟩
  rcases h.2 with ⟨rfl, h0⟩ | ⟨g, cap, cur, rfl, hg, hb, hn, hm, hs, hx⟩
  · exact .inl ⟨rfl, List.length_eq_zero_iff.1 h0⟩
  · exact .inr ⟨g, cap, cur.toList, rfl, Nat.le_trans hB hg, .plain hb, hn, hm, by rw [← hs, Array.size_eq_length_toList], hx⟩
theorem Own.sq (h : Own f z E B w v l) : Sq f z w v l := by
  refine ⟨h.1, flat_len h.1 l, ?_⟩
  rcases h.2 with ⟨rfl, h0⟩ | ⟨g, cap, cur, rfl, hB, hb, hn, _, hs, hx⟩
  · exact .inl ⟨rfl, by rw [h0]; rfl⟩
  · refine .inr ⟨⟨g, 0, none⟩, cap, rfl, hn, fun j u hj => ?_⟩
    rw [← hx, List.getElem?_take] at hj
    rw [Addr.add_lit, Nat.zero_add, hb.cell]
    split at hj
    · exact hj
    · cases hj
theorem Own.nil (hz : ∀ a, (f a).length = z) : Own f z E B w (.slice none 0 0) ([] : List α) := ⟨hz, .inl ⟨rfl, rfl⟩⟩
theorem Own.empty {b : Nat} (hz : ∀ a, (f a).length = z) (hb : Blk w b [] E) (hB : B ≤ b) : Own f z E B w (.slice (some ⟨b, 0, none⟩) 0 0) ([] : List α) :=
  ⟨hz, .inr ⟨b, 0, [], rfl, hB, hb, Nat.le_refl _, Nat.zero_le _, by simp, by simp⟩⟩
theorem Sq.nil (hz : ∀ a, (f a).length = z) : Sq f z w (.slice none 0 0) ([] : List α) := ⟨hz, by simp, .inl ⟨rfl, rfl⟩⟩
theorem Own.same (h : Own f z E B w v l) (he : ∀ g, v.ownBlock = some g → w'.heap[g]? = w.heap[g]?) : Own f z E B w' v l := by
  refine ⟨h.1, ?_⟩
  rcases h.2 with h0 | ⟨g, cap, cur, rfl, hB, hb, hr⟩
  · exact .inl h0
  · exact .inr ⟨g, cap, cur, rfl, hB, hb.same (he g rfl), hr⟩
theorem Own.bound (h : Own f z E B w v l) : ∀ b, v.ownBlock = some b → B ≤ b ∧ b < w.heap.size := by
  intro b hb
  rcases h.2 with ⟨rfl, _⟩ | ⟨g, cap, cur, rfl, hB, hg, _⟩
  · cases hb
  · simp only [Value.ownBlock, Option.some.injEq] at hb
    subst hb
    exact ⟨hB, hg.lt⟩
theorem Own.lt (h : Own f z E B w v l) : ∀ b, v.ownBlock = some b → b < w.heap.size := fun b hb => (h.bound b hb).2
theorem Own.ext (h : Own f z E B w v l) (he : Ext w w') : Own f z E B w' v l := h.same fun g hg => he.block (h.lt g hg)
theorem Sq.ext (h : Sq f z w v l) (he : Ext w w') : Sq f z w' v l := ⟨h.1, h.2.ext he⟩
theorem Sq.lens (h : Sq f z w v l) : lensV v = .int .i64 l.length := h.2.lens
theorem Sq.oneC (h : Sq f z w v l) : oneC v = True := by
  rcases h.2.2 with ⟨rfl, _⟩ | ⟨a, c, rfl, _⟩ <;> exact eq_true rfl
theorem Sq.facts (h : Sq f z w v l) : lensV v = .int .i64 l.length ∧ lensD v = True ∧ Go.Proofs.YtnbnofmnbopknaaDoor.oneC v = True ∧ ∀ (k : IntKind) (i : Int), iaD v (.int k i) = (0 ≤ i ∧ i < l.length) := ⟨h.2.lens, h.2.lensd, h.oneC, h.2.iad⟩
/-- What is read at place i. -/
theorem Sq.at1 (d : α) (h : Sq f 1 w v l) {i : Nat} (hi : i < l.length) : ∀ k : IntKind, ldV w (iaV 1 v (.int k i)) = (f (l.getD i d)).getD 0 undef ∧ ldD w (iaV 1 v (.int k i)) = True := fun k => by
  have := h.2.ld k hi
  rw [this.1, ← flat_getD h.1 d l i 0 hi (by omega)]
  exact ⟨by rw [Nat.mul_one, Nat.add_zero], this.2⟩
theorem Sq.at0 (d : α) (h : Sq f 1 w v l) (hi : 0 < l.length) : ∀ k : IntKind, ldV w (iaV 1 v (.int k 0)) = (f (l.getD 0 d)).getD 0 undef ∧ ldD w (iaV 1 v (.int k 0)) = True := h.at1 d hi
theorem Sq.atf (d : α) (h : Sq f z w v l) {i : Nat} (hi : i < l.length) : ∀ (k : IntKind) (o : Nat), o < z → ldV w (faV o (iaV z v (.int k i))) = (f (l.getD i d)).getD o undef ∧ ldD w (faV o (iaV z v (.int k i))) = True := fun k o ho => by
  have := h.2.ldf k hi ho
  rw [this.1, ← flat_getD h.1 d l i o hi ho]
  exact ⟨rfl, this.2⟩
theorem Sq.ata (d : α) (h : Sq f z w v l) {i : Nat} (hi : i < l.length) : ∀ (k : IntKind), ldaV w z (iaV z v (.int k i)) = .agg ⟨f (l.getD i d)⟩ ∧ ldaD w z (iaV z v (.int k i)) = True := fun k => by
  have := h.2.lda k hi
  rw [this.1, flat_part h.1 d l i hi]
  exact ⟨rfl, this.2⟩
/-- A block that holds one element, as a slice. -/
theorem Sq.one {a : α} {b : Nat} {cs : List Value} (hz : ∀ a, (f a).length = z) (hb : Blk w b cs E) (e : cs = f a) : Sq f z w (.slice (some ⟨b, 0, none⟩) 1 1) [a] := by
  subst e
  refine ⟨hz, by simp [hz], .inr ⟨⟨b, 0, none⟩, 1, rfl, Nat.le_refl _, fun j u hj => ?_⟩⟩
  rw [Addr.add_lit, Nat.zero_add, hb.cell]
  simpa using hj
/-- An owned slice stays where another block was written. -/
theorem Own.keep (h : Own f z E B w v l) {row : Option Nat} (hg : w.grownBy w' row) (hne : ∀ b, row = some b → b < B) : Own f z E B w' v l :=
  h.same fun g hv => hg.block g (h.lt g hv) fun he => by have := hne g he.symm; have := (h.bound g hv).1; omega
/-- A world in which the owner's block alone was written. -/
theorem Own.grown (h : Own f z E B w v l) {w0 : World} (hx : Ext w0 w) (hB : w0.heap.size ≤ B) (hg : w.grownBy w' v.ownBlock) : Ext w0 w' := by
  have hs := hx.size
  exact Below.trans hx ⟨hg.os, hg.tape, hg.output, hg.size, fun i hi => hg.block i (by omega) fun he => by have := (h.bound i he.symm).1; omega⟩
theorem spl_len (cur ys : List Value) (o : Nat) (h : o + ys.length ≤ cur.length) : (spl cur o ys).length = cur.length := by
  unfold spl
  simp only [List.length_append, List.length_take, List.length_drop]
  omega
theorem spl_head (cur ys : List Value) (o : Nat) (h : o + ys.length ≤ cur.length) : (spl cur o ys).take (o + ys.length) = cur.take o ++ ys := by
  have e : (cur.take o ++ ys).length = o + ys.length := by rw [List.length_append, List.length_take, Nat.min_eq_left (by omega)]
  unfold spl
  rw [← e, List.take_left]
theorem m_app2 {P : Program} {m : Option World} {ps : List Nat} {k : KT} {r : XT} {d : Option Nat} {e : EL} {T bytes : Nat} {zero : List Value} {ty : TypeId} {x : Value} {l' : List α}
    (ho : Own f z E B w v l) (hx : Sq f z w x l') (h1 : ∀ a, ∀ u ∈ f a, u.oneCell' = true) (hz : zero.length = z ∧ 0 < z) (hn : l.length + l'.length ≤ 1000000000) (hb : bytes ≤ 100000) (hB : B ≤ w.heap.size)
    (h : ∀ v' w', Own f z E B w' v' (l ++ l') → w.grownBy w' v.ownBlock → (∀ b, v'.ownBlock = some b → v.ownBlock = some b ∨ w.heap.size ≤ b) → ∀ q, ops P m ps k r (setO ⟨e, q⟩ d v') w') : appL P m ps k r d e w T E z bytes zero ty v x := by
  unfold appL appK runK
  rintro q ⟨hul, i, z0, hi, hs, hby, hz0, hcs⟩
  have hsz : z0.cells.size = z := by rw [← hz.1, ← hcs]; exact Array.size_eq_length_toList
  have hnews : ∀ u ∈ l'.flatMap f, u.oneCell' = true := fun u hu => by obtain ⟨a, _, ha⟩ := List.mem_flatMap.1 hu; exact h1 a u ha
  have hml : l.length + l'.length ≤ maxLen := by unfold maxLen; omega
  have hbb : (l.length + l'.length) * bytes ≤ 140737488355328 := Nat.le_trans (Nat.mul_le_mul hn hb) (by decide)
  rcases hx.2.2 with ⟨rfl, h0⟩ | ⟨a, c, rfl, hnc, hc⟩
  · obtain rfl : l' = [] := List.length_eq_zero_iff.1 h0
    have hr : (Builtin.append_ #[T, T] ty #[v, .slice none 0 0]).run P w = .ok v w := by
      rcases ho.2 with ⟨rfl, _⟩ | ⟨g, cap, cur, rfl, _, _, hle, _⟩
      · simp [Builtin.append_, run_underlying hul, sizeOf, typeInfo, hi, Builtin.lenOf, Builtin.firstCells]
      · simp [Builtin.append_, run_underlying hul, sizeOf, typeInfo, hi, Builtin.lenOf, Builtin.firstCells, hle, storeCells]
    exact ⟨v, w, hr, fun _ _ h _ => absurd h (by decide), h v w (by simpa using ho) ⟨rfl, rfl, rfl, Nat.le_refl _, fun _ _ _ => rfl⟩ (fun _ h => .inl h) q⟩
  · rcases ho.2 with ⟨rfl, rfl⟩ | ⟨g, cap, cur, rfl, hg, hblk, hle, hcm, hcl, hct⟩
    · obtain ⟨v', w', hr, hw, hg, _⟩ := run_append_own (P := P) w w.heap.size T ty E i z0 z bytes hul hi hz0 hs hby hsz hz.2 (.slice none 0 0) 0 [] (World.ownsRow_nil w _ E z) a l'.length c (l'.flatMap f) hx.2.1
        hc hnews (by simpa using hml) (by simpa using hbb) (Nat.le_refl _)
      refine ⟨v', w', hr, fun _ _ h _ => absurd h (by decide), h v' w' (?_ : Own f z E B w' v' ([] ++ l')) hg (fun b hb => .inr (Own.bound (Own.of (B := w.heap.size) ho.1 (by rw [Nat.zero_add, List.nil_append] at hw; exact hw) (Nat.le_refl _)) b hb).1) q⟩
      rw [Nat.zero_add, List.nil_append] at hw
      rw [List.nil_append]
      exact Own.of ho.1 hw hB
    · by_cases hroom : l.length + l'.length ≤ cap
      · have hfl := flat_len ho.1 l'
        have hmul : l.length * z + l'.length * z ≤ cap * z := by rw [← Nat.add_mul]; exact Nat.mul_le_mul_right z hroom
        subst hs
        have hr := run_append_room_cells (P := P) w T ty E i hul hi g 0 l.length cap a l'.length c (l'.flatMap f) hx.2.1 hc hnews hroom
          (fun j hj => by rw [hblk.cell, List.getElem?_eq_getElem (by omega)]; rfl) (fun j hj => hblk.frozen _ (by omega))
        obtain ⟨_, hb', hu⟩ := storeCells_run (P := P) (off := 0 + l.length * i.size) (vs := l'.flatMap f) hblk (by omega) hnews
        refine ⟨_, _, hr, fun _ _ h _ => absurd h (by decide), h _ _ ⟨ho.1, .inr ⟨g, cap, _, by rw [List.length_append], hg, hb', by rw [List.length_append]; exact hroom, hcm, by rw [spl_len _ _ _ (by omega)]; exact hcl, ?_⟩⟩ hu.grown (fun b hb2 => .inl (by simpa only [Value.ownBlock] using hb2)) q⟩
        rw [List.length_append, Nat.add_mul, ← hfl, List.flatMap_append, ← hct, Nat.zero_add]
        exact spl_head _ _ _ (by omega)
      · obtain ⟨v', w', hr, hw, hg'⟩ := run_append_arg_grows (P := P) w T ty E i z0 z bytes hul hi hz0 hs hby hsz hz.2 ⟨g, 0, none⟩ l.length cap (l.flatMap f) (flat_len ho.1 l)
          (fun j u hj => by
            rw [← hct, List.getElem?_take] at hj
            rw [Addr.add_lit, Nat.zero_add, hblk.cell]
            split at hj
            · exact hj
            · cases hj)
          a l'.length c (l'.flatMap f) hx.2.1 hc (by omega) hml hbb
        refine ⟨v', w', hr, fun _ _ h _ => absurd h (by decide), h v' w' (Own.of ho.1 (by rw [List.length_append, List.flatMap_append]; exact hw) hB) ⟨hg'.os, hg'.tape, hg'.output, hg'.size, fun k hk _ => hg'.block k hk (Option.some_ne_none _)⟩ (fun b hb => .inr (Own.bound (Own.of (B := w.heap.size) ho.1 (by rw [List.length_append, List.flatMap_append]; exact hw) (Nat.le_refl _)) b hb).1) q⟩
theorem m_app {P : Program} {m : Option World} {ps : List Nat} {k : KT} {r : XT} {d : Option Nat} {e : EL} {T bytes : Nat} {zero : List Value} {ty : TypeId} {x : Value} {l' : List α}
    (ho : Own f z E B w v l) (hx : Sq f z w x l') (h1 : ∀ a, ∀ u ∈ f a, u.oneCell' = true) (hz : zero.length = z ∧ 0 < z) (hn : l.length + l'.length ≤ 1000000000) (hb : bytes ≤ 100000) (hB : B ≤ w.heap.size)
    (h : ∀ v' w', Own f z E B w' v' (l ++ l') → w.grownBy w' v.ownBlock → ∀ q, ops P m ps k r (setO ⟨e, q⟩ d v') w') : appL P m ps k r d e w T E z bytes zero ty v x :=
  m_app2 ho hx h1 hz hn hb hB fun v' w' a b _ => h v' w' a b
/-- Zeros appended to no slice at all: a new block with room. -/
theorem m_apz {P : Program} {m : Option World} {ps : List Nat} {k : KT} {r : XT} {d : Option Nat} {e : EL} {T Ti bytes n : Nat} {zero : List Value} {ty : TypeId} {kl : IntKind}
    (hz : zero.length = z ∧ 0 < z) (hn : 0 < n ∧ n ≤ 1000000000) (hb : bytes ≤ 100000)
    (h : ∀ cap cur w', n ≤ cap → cap ≤ maxLen → cur.length = cap * z → Blk w' w.heap.size cur E → Ext w w' → ∀ q, ops P m ps k r (setO ⟨e, q⟩ d (.slice (some ⟨w.heap.size, 0, none⟩) n cap)) w') : apzL P m ps k r d e w T Ti E z bytes zero ty (.slice none 0 0) (.int kl n) := by
  unfold apzL apzK runK
  rintro q ⟨hul, i, z0, hi, hs, hby, hz0, hcs⟩ ⟨kn, hkn⟩
  have hsz : z0.cells.size = z := by rw [← hz.1, ← hcs]; exact Array.size_eq_length_toList
  have hge := grownCap_ge w n 0 E
  have hle := grownCap_le_maxLen w n 0 E (by unfold maxLen; omega)
  have hsz0 : 0 < z := hz.2
  have hr : (Builtin.append_ #[T, Ti] ty #[.slice none 0 0, .int kl n]).run P w = .ok (.slice (some ⟨w.heap.size, 0, none⟩) n (grownCap w n 0 E)) (w.drew.alloc (.cells (Builtin.zeroCells z0.cells n ++ Builtin.zeroCells z0.cells (grownCap w n 0 E - n)) E)) := by
    have h1 : n ≠ 0 := by omega
    have hwr : IntKind.i64.wrap (n : Int) = n := by rw [IntKind.wrap_i64]; omega
    have h0 : ¬ (n : Int) < 0 := by omega
    have hbb : n * i.bytes ≤ 281474976710656 := by rw [hby]; exact Nat.le_trans (Nat.mul_le_mul hn.2 hb) (by decide)
    have h48 : ¬ (281474976710656 < (n : Int) * (i.bytes : Int)) := by rw [← Int.natCast_mul]; omega
    have h63 : ¬ (9223372036854775807 < (n : Int)) := by omega
    have h48' : ¬ (281474976710656 < Builtin.nextslicecap n 0 * i.bytes) := by rw [nextslicecap_zero hn.1]; omega
    have hsn : n * i.size ≠ 0 := by rw [hs]; exact Nat.ne_of_gt (Nat.mul_pos hn.1 hsz0)
    simp [Builtin.append_, run_underlying hul, run_underlying hkn, sizeOf, typeInfo, zeroValue, hi, hz0, asInt, asIntOf, hwr, h0, h48, h1, h63, h48', Question.forced, run_firstCells_none, newRow, grownCap]
    exact fun hh => absurd hh hsn
  refine ⟨_, _, hr, fun _ _ h _ => absurd h (by decide), h _ (Builtin.zeroCells z0.cells n ++ Builtin.zeroCells z0.cells (grownCap w n 0 E - n)).toList _ hge hle ?_ (Blk.new w.drew _ E) ?_ q⟩
  · rw [Array.length_toList, Array.size_append, size_zeroCells, size_zeroCells, hsz, ← Nat.add_mul, Nat.add_sub_cancel' hge]
  · have := Ext.alloc w.drew (.cells (Builtin.zeroCells z0.cells n ++ Builtin.zeroCells z0.cells (grownCap w n 0 E - n)) E)
    rw [drew_ext] at this
    exact this
/-- An append to a new, empty slice: nothing that was there is written. -/
theorem m_apf {P : Program} {m : Option World} {ps : List Nat} {k : KT} {r : XT} {d : Option Nat} {e : EL} {T bytes g : Nat} {zero : List Value} {ty : TypeId} {x : Value} {l' : List α}
    (hf : ∀ a, (f a).length = z) (hg : Blk w g [] E) (hBg : B ≤ g) (hx : Sq f z w x l') (h1 : ∀ a, ∀ u ∈ f a, u.oneCell' = true) (hz : zero.length = z ∧ 0 < z) (hn : l'.length ≤ 1000000000) (hb : bytes ≤ 100000)
    (h : ∀ v' w', Own f z E B w' v' l' → Ext w w' → (∀ c, v'.ownBlock = some c → c = g ∨ w.heap.size ≤ c) → ∀ q, ops P m ps k r (setO ⟨e, q⟩ d v') w') : apfL P m ps k r d e w T E z bytes zero ty (.slice (some ⟨g, 0, none⟩) 0 0) x := by
  unfold apfL apfK runK
  rintro q ⟨hul, i, z0, hi, hs, hby, hz0, hcs⟩
  have hB : B ≤ w.heap.size := Nat.le_trans hBg (Nat.le_of_lt hg.lt)
  have hsz : z0.cells.size = z := by rw [← hz.1, ← hcs]; exact Array.size_eq_length_toList
  have hnews : ∀ u ∈ l'.flatMap f, u.oneCell' = true := fun u hu => by obtain ⟨a, _, ha⟩ := List.mem_flatMap.1 hu; exact h1 a u ha
  have hml : l'.length ≤ maxLen := by unfold maxLen; omega
  have hbb : l'.length * bytes ≤ 140737488355328 := Nat.le_trans (Nat.mul_le_mul hn hb) (by decide)
  have nil : l' = [] → ∀ v, (Builtin.append_ #[T, T] ty #[.slice (some ⟨g, 0, none⟩) 0 0, v]).run P w = .ok (.slice (some ⟨g, 0, none⟩) 0 0) w → ∃ v' w', (Builtin.append_ #[T, T] ty #[.slice (some ⟨g, 0, none⟩) 0 0, v]).run P w = .ok v' w' ∧ (∀ w0, m = some w0 → false = false → Ext w0 w → Ext w0 w') ∧ ops P m ps k r (setO ⟨e, q⟩ d v') w' := fun hl v hr =>
    ⟨_, _, hr, fun _ _ _ h => h, h _ w (by subst hl; exact Own.empty hf hg hBg) (Ext.refl _) (fun c hc => .inl (by simp only [Value.ownBlock, Option.some.injEq] at hc; exact hc.symm)) q⟩
  rcases hx.2.2 with ⟨rfl, h0⟩ | ⟨a, c, rfl, hnc, hc⟩
  · have hl : l' = [] := List.length_eq_zero_iff.1 h0
    refine nil hl _ ?_
    simp [Builtin.append_, run_underlying hul, sizeOf, typeInfo, hi, Builtin.lenOf, Builtin.firstCells, storeCells]
  · by_cases h0 : l'.length = 0
    · have hl : l' = [] := List.length_eq_zero_iff.1 h0
      subst hl
      refine nil rfl _ ?_
      subst hs
      have hr := run_append_room_cells (P := P) w T ty E i hul hi g 0 0 0 a 0 c [] (by simp) (by simp) (by simp) (by omega) (by simp) (by simp)
      exact hr
    · obtain ⟨v', w', hr, hw, hg'⟩ := run_append_arg_grows (P := P) w T ty E i z0 z bytes hul hi hz0 hs hby hsz hz.2 ⟨g, 0, none⟩ 0 0 [] (by simp) (by simp) a l'.length c (l'.flatMap f) hx.2.1 hc (by omega) (by simpa using hml) (by simpa using hbb)
      have hx' : Ext w w' := ⟨hg'.os, hg'.tape, hg'.output, hg'.size, fun k hk => hg'.block k hk (Option.some_ne_none _)⟩
      exact ⟨v', w', hr, fun _ _ _ h => h.trans hx', h v' w' (Own.of hf (by rw [Nat.zero_add, List.nil_append] at hw; exact hw) hB) hx' (fun c hc => .inr (Own.bound (Own.of (B := w.heap.size) hf (by rw [Nat.zero_add, List.nil_append] at hw; exact hw) (Nat.le_refl _)) c hc).1) q⟩
/-- Two own slices in two blocks. -/
def Apart (v u : Value) : Prop := ∀ b, v.ownBlock = some b → u.ownBlock ≠ some b
theorem Apart.symm {v u : Value} (h : Apart v u) : Apart u v := fun b hb hc => h b hc hb
theorem Own.keep2 {v u : Value} (h : Own f z E B w u l) (hg : w.grownBy w' v.ownBlock) (ha : Apart v u) : Own f z E B w' u l :=
  h.same fun g hv => hg.block g (h.lt g hv) fun he => ha g he.symm hv
theorem Apart.of_lt {v u : Value} (hu : Own f z E B w u l) (hv : ∀ b, v.ownBlock = some b → w.heap.size ≤ b) : Apart v u := fun b hb hc => by
  have := hv b hb; have := hu.lt b hc; omega
theorem Apart.next {v v' u : Value} (h : Apart v u) (hu : Own f z E B w u l) (hv : ∀ b, v'.ownBlock = some b → v.ownBlock = some b ∨ w.heap.size ≤ b) : Apart v' u := fun b hb hc => by
  rcases hv b hb with h' | h'
  · exact h b h' hc
  · have := hu.lt b hc; omega
/-- A new slice of n zeros. -/
theorem m_msl {P : Program} {m : Option World} {ps : List Nat} {k : KT} {r : XT} {d : Option Nat} {e : EL} {T bytes : Nat} {zero : List Value} {n : Nat} {kl kc : IntKind} (a0 : α) (hf : ∀ a, (f a).length = z) (hz : zero = f a0) (hn : n ≤ 1000000000) (hb : bytes ≤ 100000) (hB : B ≤ w.heap.size)
    (h : ∀ v' w', Own f z E B w' v' (List.replicate n a0) → w.heap.size ≤ v'.ownBlock.getD 0 → Ext w w' → ∀ q, ops P m ps k r (setO ⟨e, q⟩ d v') w') : mslL P m ps k r d e w T E z bytes zero (.int kl n) (.int kc n) := by
  unfold mslL mslK runK
  rintro q ⟨hul, i, z0, hi, hs, hby, hz0, hcs⟩
  obtain ⟨w', hr, hw, hg⟩ := run_make_full (P := P) w B T E i z0 z hul hi hz0 hs kl kc n (by rw [hby]; exact Nat.le_trans (Nat.mul_le_mul hb hn) (by decide)) (by unfold maxLen; omega) hB
  have hx : Ext w w' := ⟨hg.os, hg.tape, hg.output, hg.size, fun i hi => hg.block i hi (Option.some_ne_none _)⟩
  refine ⟨_, w', hr, fun _ _ _ h => h.trans hx, h _ w' (Own.of hf ?_ (Nat.le_refl _)) (Nat.le_refl _) hx q⟩
  have e : (madeCells z0.cells (n * z)).toList = (List.replicate n a0).flatMap f := by
    have hl : ((List.replicate n a0).flatMap f).length = n * z := by simp [List.length_flatMap, hf]
    apply List.ext_getElem?
    intro j
    by_cases hj : j < n * z
    · have hzp : 0 < z := by
        rcases Nat.eq_zero_or_pos z with h0 | h0
        · rw [h0] at hj; simp at hj
        · exact h0
      have hq : j / z < n := (Nat.div_lt_iff_lt_mul hzp).2 hj
      have hr := Nat.mod_lt j hzp
      have := flat_getD hf a0 (List.replicate n a0) (j / z) (j % z) (by simpa using hq) hr
      rw [Nat.mul_comm, Nat.div_add_mod] at this
      have hsz : z0.cells.size = z := by rw [← hf a0, ← hz, ← hcs]; exact Array.size_eq_length_toList
      rw [List.getElem?_eq_getElem (by simpa [size_madeCells] using hj), List.getElem?_eq_getElem (by omega)]
      congr 1
      simp only [List.getD_eq_getElem?_getD] at this
      rw [List.getElem?_eq_getElem (by omega), Option.getD_some] at this
      rw [this]
      simp only [List.getElem?_replicate, hq, if_true, Option.getD_some, ← hz, ← hcs]
      simp only [madeCells, Array.getElem_toList, Array.getElem_map, Array.getElem_range, hsz]
      simp [hsz, hr]
    · rw [List.getElem?_eq_none (by simp [size_madeCells]; omega), List.getElem?_eq_none (by omega)]
  rw [List.length_replicate, ← e]
  exact hw
theorem spl_take (cur ys : List Value) (o m : Nat) (h : o + ys.length ≤ m) (hm : m ≤ cur.length) : (spl cur o ys).take m = spl (cur.take m) o ys := by
  unfold spl
  have e : (cur.take o ++ ys).length = o + ys.length := by rw [List.length_append, List.length_take, Nat.min_eq_left (by omega)]
  rw [List.take_append, List.take_of_length_le (by omega), e, List.drop_take, List.take_take, Nat.min_eq_left (by omega)]
theorem spl_left (a b ys : List Value) (o : Nat) (h : o + ys.length ≤ a.length) : spl (a ++ b) o ys = spl a o ys ++ b := by
  unfold spl
  rw [List.take_append_of_le_length (by omega), List.drop_append_of_le_length (by omega), List.append_assoc, List.append_assoc, List.append_assoc]
theorem spl_right (a b ys : List Value) (o : Nat) : spl (a ++ b) (a.length + o) ys = a ++ spl b o ys := by
  unfold spl
  rw [List.take_length_add_append, Nat.add_assoc, List.drop_length_add_append, List.append_assoc, List.append_assoc, List.append_assoc]
theorem spl_flat (hz : ∀ a, (f a).length = z) (d : α) (o : Nat) (ys : List Value) (a : α) : ∀ (l : List α) (i : Nat), i < l.length → o + ys.length ≤ z → f a = spl (f (l.getD i d)) o ys → spl (l.flatMap f) (i * z + o) ys = (l.set i a).flatMap f := by
  intro l
  induction l with
  | nil => intro i h; simp at h
  | cons b l ih =>
    intro i hi ho ha
    cases i with
    | zero =>
      rw [List.set_cons_zero, List.flatMap_cons, List.flatMap_cons, Nat.zero_mul, Nat.zero_add, spl_left _ _ _ _ (by rw [hz]; exact ho), ha]; rfl
    | succ i =>
      simp only [List.length_cons] at hi
      rw [List.getD_cons_succ] at ha
      have e : (i + 1) * z + o = (f b).length + (i * z + o) := by rw [Nat.add_mul, hz]; omega
      rw [List.set_cons_succ, List.flatMap_cons, List.flatMap_cons, e, spl_right, ih i (by omega) ho ha]
theorem fl_map {β γ : Type} (g : β → γ) (l : List β) : (l.flatMap fun c => [g c]) = l.map g := by induction l <;> simp_all
/-- A store into an owned slice: cells of one element. -/
theorem m_set {P : Program} {m : Option World} {ps : List Nat} {k : KT} {r : XT} {dd : Option Nat} {e : EL} {n o : Nat} {ii : Int} {kk : IntKind} {x : Value} (i : Nat) (d : α) (a : α) (ho : Own f z E B w v l) (hii : ii = (i : Nat)) (hi : i < l.length) (hn : x.cells.size = n) (hoz : o + n ≤ z)
    (h1 : ∀ u ∈ x.cells.toList, u.oneCell' = true) (ha : f a = spl (f (l.getD i d)) o x.cells.toList)
    (h : ∀ w', Own f z E B w' v (l.set i a) → w.grownBy w' v.ownBlock → w'.heap.size = w.heap.size → ∀ q, ops P m ps k r (setO ⟨e, q⟩ dd undef) w') : stL P m ps k r dd e w n (faV o (iaV z v (.int kk ii))) x := by
  subst hii
  have hl : x.cells.toList.length = n := by rw [← hn]; exact Array.size_eq_length_toList.symm
  rcases ho.2 with ⟨_, h0⟩ | ⟨g, cap, cur, rfl, hB, hb, hc, hm, hcl, hx⟩
  · rw [h0] at hi; simp at hi
  · rw [v_ia, v_fa, Nat.zero_add]
    have hle : l.length * z ≤ cap * z := Nat.mul_le_mul_right z hc
    have hi' : i * z + z ≤ l.length * z := by
      rw [← Nat.succ_mul]; exact Nat.mul_le_mul_right z hi
    refine m_st (cur := cur) (T := E) hb hn (by simp only [Int.toNat_natCast]; omega) h1 fun w' hb' hu => ?_
    refine h w' ⟨ho.1, .inr ⟨g, cap, spl cur (i * z + o) x.cells.toList, by rw [List.length_set], hB, hb', by rw [List.length_set]; exact hc, hm, ?_, ?_⟩⟩ hu.grown hu.size
    · rw [← hcl, ← spl_len cur x.cells.toList (i * z + o) (by omega)]
    · rw [List.length_set, ← spl_flat ho.1 d o _ a l i hi (by omega) ha, ← hx]
      exact spl_take _ _ _ _ (by omega) (by omega)
theorem m_set1 {P : Program} {m : Option World} {ps : List Nat} {k : KT} {r : XT} {dd : Option Nat} {e : EL} {ii : Int} {kk : IntKind} {x : Value} (i : Nat) (a : α) (ho : Own f z E B w v l) (hii : ii = (i : Nat)) (hi : i < l.length) (hn : x.cells.toList = f a)
    (h1 : ∀ a, ∀ u ∈ f a, u.oneCell' = true)
    (h : ∀ w', Own f z E B w' v (l.set i a) → w.grownBy w' v.ownBlock → w'.heap.size = w.heap.size → ∀ q, ops P m ps k r (setO ⟨e, q⟩ dd undef) w') : stL P m ps k r dd e w z (iaV z v (.int kk ii)) x := by
  subst hii
  have hx : iaV z v (.int kk i) = faV 0 (iaV z v (.int kk i)) := by
    obtain ⟨a, e, _⟩ := ho.sq.2.at kk i hi
    rw [e]; simp only [faV, Addr.add_zero']
  rw [hx]
  have hs : x.cells.size = z := by rw [Array.size_eq_length_toList, hn, ho.1]
  refine m_set i a a ho rfl hi hs (by omega) (by rw [hn]; exact h1 a) ?_ h
  rw [hn]
  have h1 := ho.1 a
  have h2 := ho.1 (l.getD i a)
  unfold spl
  rw [h1, List.take_zero, List.drop_eq_nil_of_le (by omega)]
  simp
/-- The text of a slice of bytes. -/
theorem m_b2s {P : Program} {m : Option World} {ps : List Nat} {k : KT} {r : XT} {d : Option Nat} {e : EL} {l : List UInt8} (hx : Sq (fun c => [Value.int .u8 (c.toNat : Nat)]) 1 w v l)
    (h : ∀ q, ops P m ps k r (setO ⟨e, q⟩ d (S l)) w) : b2sL P m ps k r d e w v := by
  unfold b2sL b2sK runK
  intro q
  rcases hx.2.2 with ⟨rfl, h0⟩ | ⟨a, c, rfl, hnc, hc⟩
  · obtain rfl : l = [] := List.length_eq_zero_iff.1 h0
    exact ⟨_, w, rfl, fun _ _ _ h => h, h q⟩
  · refine ⟨_, w, ?_, fun _ _ _ h => h, h q⟩
    have hl := run_loadCells_list (P := P) w a (l.flatMap fun c => [Value.int .u8 (c.toNat : Nat)]) hc
    have e1 : (l.flatMap fun c => [Value.int .u8 (c.toNat : Nat)]) = (l.map fun c => (c.toNat : Int)).map (Value.int .u8) := by
      rw [fl_map, List.map_map]; rfl
    rw [e1, List.length_map, List.length_map] at hl
    rw [run_bytesToString w _ l.length c _ hl, foldl_push_byteCells]
    show Result.ok (Value.string ⟨#[] ++ l.toArray⟩) w = Result.ok (Value.string ⟨⟨l⟩⟩) w
    rw [Array.empty_append]
/-- An own slice's head. -/
theorem Own.head (h : Own f z E B w v l) (k : IntKind) (a : Nat) (ha : a ≤ l.length) : sslD v none (some (.int k a)) = True ∧ Own f z E B w (sslV z v none (some (.int k a))) (l.take a) ∧ (sslV z v none (some (.int k a))).ownBlock = v.ownBlock := by
  rcases h.2 with ⟨rfl, rfl⟩ | ⟨g, cap, cur, rfl, hB, hb, hc, hm, hcl, hx⟩
  · obtain rfl : a = 0 := by simpa using ha
    exact ⟨by simp [sslD, isI, asI], ⟨h.1, .inl ⟨by simp [sslV, cutA, asI], rfl⟩⟩, by simp [sslV, cutA, asI]⟩
  · refine ⟨by simp only [sslD, isI, asI]; exact eq_true ⟨trivial, by omega, by omega⟩, ⟨h.1, .inr ⟨g, cap, cur, ?_, hB, hb, by rw [List.length_take]; omega, hm, hcl, ?_⟩⟩, by simp only [sslV, cutA, asI, Int.toNat_natCast, Option.map_some, Nat.zero_mul, Addr.add_zero', ite_self, Value.ownBlock]⟩
    · simp only [sslV, cutA, asI, Int.toNat_natCast, Option.map_some, Nat.zero_mul, Addr.add_zero', ite_self, List.length_take, Nat.min_eq_left ha]
    · have hfl := flat_len h.1 (l.take a)
      rw [List.length_take, Nat.min_eq_left ha] at hfl ⊢
      have hle : a * z ≤ l.length * z := Nat.mul_le_mul_right z ha
      have e : l.flatMap f = (l.take a).flatMap f ++ (l.drop a).flatMap f := by rw [← List.flatMap_append, List.take_append_drop]
      rw [show cur.take (a * z) = (cur.take (l.length * z)).take (a * z) by rw [List.take_take, Nat.min_eq_left hle], hx, e, ← hfl, List.take_left]
/-- A slice's tail, as it is read. -/
theorem Sq.tail (h : Sq f z w v l) (k : IntKind) (a : Nat) (ha : a ≤ l.length) : sslD v (some (.int k a)) none = True ∧ Sq f z w (sslV z v (some (.int k a)) none) (l.drop a) := by
  have hfl := flat_len h.1 (l.drop a)
  rcases h.2.2 with ⟨rfl, h0⟩ | ⟨ad, c, rfl, hc, hx⟩
  · have hl : l = [] := List.length_eq_zero_iff.1 h0
    subst hl
    obtain rfl : a = 0 := by simpa using ha
    exact ⟨by simp [sslD, isI, asI], h.1, by simp, .inl ⟨by simp [sslV, cutA, asI], rfl⟩⟩
  · refine ⟨by simp only [sslD, isI, asI]; exact eq_true ⟨trivial, by omega, by omega⟩, h.1, hfl, ?_⟩
    have e : l.flatMap f = (l.take a).flatMap f ++ (l.drop a).flatMap f := by rw [← List.flatMap_append, List.take_append_drop]
    have hft := flat_len h.1 (l.take a)
    rw [List.length_take, Nat.min_eq_left ha] at hft
    by_cases hca : c = a
    · subst hca
      have hz0 : l.length = c := by omega
      refine .inr ⟨ad, c - c, ?_, by rw [List.length_drop]; omega, fun j u hj => ?_⟩
      · simp [sslV, cutA, asI]
      · rw [List.drop_eq_nil_of_le (by omega)] at hj
        simp at hj
    · refine .inr ⟨ad.add (a * z), c - a, ?_, by rw [List.length_drop]; omega, fun j u hj => ?_⟩
      · simp [sslV, cutA, asI, hca]
      · rw [Addr.add_add]
        refine hx (a * z + j) u ?_
        rw [e, List.getElem?_append_right (by omega), hft, Nat.add_sub_cancel_left]
        exact hj
/-- The bytes of a text, in a new block. -/
theorem run_s2b {P : Program} (w : World) (E : TypeId) (s : ByteArray) :
    (Conv.stringToBytes E s).run P w = .ok (.slice (some ⟨w.heap.size, 0, none⟩) s.size (grownCap w s.size 0 E)) (Go.Lib.bytesWorld w E s) := by
  have hsh : ∀ c : Array Value, (w.drew.alloc (.cells c E)).shape? w.heap.size = some (E, c.size) := by
    intro c
    simp [World.shape?, World.alloc, World.drew, -World.alloc_eq, -World.drew_eq]
  simp [Conv.stringToBytes, newRow, markStringish, Question.forced, Go.Lib.bytesWorld, Go.Lib.bytesCells, grownCap, hsh, Result.andThen]
theorem s2b_ext (w : World) (E : TypeId) (s : ByteArray) : Ext w (Go.Lib.bytesWorld w E s) :=
  ⟨rfl, rfl, rfl, by rw [Go.Lib.bytesWorld_size]; omega, fun i hi => Go.Lib.bytesWorld_at_old w E s i hi⟩
theorem s2b_own {B : Nat} (w : World) (E : TypeId) (s : List UInt8) (hs : s.length ≤ 1000000000) (hB : B ≤ w.heap.size) :
    Own (fun c : UInt8 => [Value.int .u8 (c.toNat : Nat)]) 1 E B (Go.Lib.bytesWorld w E ⟨⟨s⟩⟩) (.slice (some ⟨w.heap.size, 0, none⟩) s.length (grownCap w s.length 0 E)) s := by
  have hn := Go.Lib.bytesWorld_at_new w E ⟨⟨s⟩⟩
  have hge := grownCap_ge w s.length 0 E
  have hle := grownCap_le_maxLen w s.length 0 E (by unfold maxLen; omega)
  have hsz : (⟨⟨s⟩⟩ : ByteArray).size = s.length := rfl
  have hl : (Go.Lib.bytesCells w E ⟨⟨s⟩⟩).toList = s.map (fun c => Value.int .u8 (c.toNat : Nat)) ++ List.replicate (grownCap w s.length 0 E - s.length) (.int .u8 0) := by
    simp [Go.Lib.bytesCells, hsz]
  refine ⟨fun _ => rfl, .inr ⟨w.heap.size, _, (Go.Lib.bytesCells w E ⟨⟨s⟩⟩).toList, rfl, hB, ⟨_, by rw [hn], .inr ?_⟩, hge, hle, ?_, ?_⟩⟩
  · simp
  · rw [hl]; simp; omega
  · rw [hl, fl_map, Nat.mul_one]
    rw [List.take_append_of_le_length (by simp)]
    rw [List.take_of_length_le (by simp)]
theorem m_s2b {P : Program} {m : Option World} {ps : List Nat} {k : KT} {r : XT} {d : Option Nat} {e : EL} {s : List UInt8} {B : Nat} (hs : s.length ≤ 1000000000) (hB : B ≤ w.heap.size)
    (h : ∀ v' w', Own (fun c : UInt8 => [Value.int .u8 (c.toNat : Nat)]) 1 E B w' v' s → Ext w w' → w.heap.size ≤ v'.ownBlock.getD 0 → ∀ q, ops P m ps k r (setO ⟨e, q⟩ d v') w') : s2bL P m ps k r d e w E (S s) := by
  unfold s2bL s2bK runK
  intro q
  exact ⟨⟨⟨s⟩⟩, rfl, _, _, run_s2b w E ⟨⟨s⟩⟩, fun _ _ _ h => h.trans (s2b_ext w E _), h _ _ (s2b_own w E s hs hB) (s2b_ext w E _) (Nat.le_refl _) q⟩
end
/-- The cells of a whole number, of a text, of a truth value. -/
def fI (i : Int) : List Value := [.int .i64 i]
def fS (s : List UInt8) : List Value := [S s]
def fB (b : Bool) : List Value := [.bool b]
def fU (c : UInt8) : List Value := [.int .u8 c.toNat]
theorem fI_len (a : Int) : (fI a).length = 1 := rfl
theorem fS_len (a : List UInt8) : (fS a).length = 1 := rfl
theorem fB_len (a : Bool) : (fB a).length = 1 := rfl
theorem fU_len (a : UInt8) : (fU a).length = 1 := rfl
theorem fI_one : ∀ a, ∀ u ∈ fI a, u.oneCell' = true := fun a u h => by simp only [fI, List.mem_singleton] at h; subst h; rfl
theorem fS_one : ∀ a, ∀ u ∈ fS a, u.oneCell' = true := fun a u h => by simp only [fS, List.mem_singleton] at h; subst h; rfl
theorem fB_one : ∀ a, ∀ u ∈ fB a, u.oneCell' = true := fun a u h => by simp only [fB, List.mem_singleton] at h; subst h; rfl
theorem fU_one : ∀ a, ∀ u ∈ fU a, u.oneCell' = true := fun a u h => by simp only [fU, List.mem_singleton] at h; subst h; rfl
theorem fI_get (a : Int) (v : Value) : (fI a).getD 0 v = .int .i64 a := rfl
theorem fS_get (a : List UInt8) (v : Value) : (fS a).getD 0 v = S a := rfl
theorem fB_get (a : Bool) (v : Value) : (fB a).getD 0 v = .bool a := rfl
theorem fU_get (a : UInt8) (v : Value) : (fU a).getD 0 v = .int .u8 a.toNat := rfl
/-- What is read of a block that is known whole. -/
theorem Blk.facts {w : World} {b : Nat} {cs : List Value} {T : TypeId} (h : Blk w b cs T) : (∀ o, ldV w (.pointer (some ⟨b, o, none⟩)) = cs.getD o undef) ∧ (∀ o, ldD w (.pointer (some ⟨b, o, none⟩)) = (o < cs.length)) ∧
    (∀ n, n = cs.length → ldaV w n (.pointer (some ⟨b, 0, none⟩)) = .agg ⟨cs⟩ ∧ ldaD w n (.pointer (some ⟨b, 0, none⟩)) = True) := by
  refine ⟨fun o => by simp only [ldV, h.cell, List.getD_eq_getElem?_getD], fun o => by simp only [ldD, h.cell, ne_eq, List.getElem?_eq_none_iff, Nat.not_le], ?_⟩
  rintro n rfl
  refine ⟨?_, eq_true fun j hj => by rw [Addr.add_lit, h.cell, Nat.zero_add, List.getElem?_eq_getElem hj]; exact Option.some_ne_none _⟩
  simp only [ldaV]
  congr 1
  apply Array.ext'
  apply List.ext_getElem?
  intro j
  by_cases hj : j < cs.length
  · simp [Addr.add_lit, h.cell, hj]
  · simp [hj]
theorem drew_ldV (w : World) (v : Value) : ldV w.drew v = ldV w v := rfl
theorem drew_ldD (w : World) (v : Value) : ldD w.drew v = ldD w v := rfl
theorem drew_ldaV (w : World) (n : Nat) (v : Value) : ldaV w.drew n v = ldaV w n v := rfl
theorem drew_ldaD (w : World) (n : Nat) (v : Value) : ldaD w.drew n v = ldaD w n v := rfl
theorem m_s2bU {P : Program} {m : Option World} {ps : List Nat} {k : KT} {r : XT} {d : Option Nat} {e : EL} {s : List UInt8} {w : World} {E : TypeId} (B : Nat) (hs : s.length ≤ 1000000000) (hB : B ≤ w.heap.size)
    (h : ∀ v' w', Own fU 1 E B w' v' s → Ext w w' → w.heap.size ≤ v'.ownBlock.getD 0 → ∀ q, ops P m ps k r (setO ⟨e, q⟩ d v') w') : s2bL P m ps k r d e w E (S s) := m_s2b hs hB h
theorem one_el {x : Value} {z : Nat} (h : x.cells.size = z) : ∀ p ∈ [x], p.cells.size = z := fun p hp => by simp only [List.mem_singleton] at hp; subst hp; exact h
theorem Own.to {α : Type} {f : α → List Value} {z E B : Nat} {w : World} {v : Value} {l l' : List α} (h : Own f z E B w v l) (e : l = l') : Own f z E B w v l' := e ▸ h
end Go.Proofs.YtnbnofmnbopknaaDoor
