/-
  Maps that are sets of texts.
  Conditions: none.
-/
import Derived.Test.YtnhealghpfjdcaaVw
import Derived.Test.YtnhealghpfjdcaaPv
set_option linter.unusedSimpArgs false
set_option linter.unusedVariables false
set_option linter.defProp false
namespace Go.Proofs.Ytnhealghpfjdcaa
open Go Go.RowKit
def stE (L : List Bs) : List (Value × Value) := L.map fun s => (S s, .bool true)
theorem same_S (a b : Bs) : Instr.sameNow .string (S a) (S b) = some (decide (a = b)) := by
  show some ((⟨⟨a⟩⟩ : ByteArray) == ⟨⟨b⟩⟩) = _
  congr 1
  by_cases h : a = b
  · subst h; rw [ba_refl]; simp
  · rw [decide_eq_false h]
    cases he : ((⟨⟨a⟩⟩ : ByteArray) == ⟨⟨b⟩⟩) with
    | false => rfl
    | true => exact absurd (congrArg (fun x : ByteArray => x.data.toList) (ba_eq he)) h
theorem lk_st (L : List Bs) (s : Bs) : lkE .string (S s) (stE L) = some (if s ∈ L then some (.bool true) else none) := by
  induction L with
  | nil => rfl
  | cons a L ih =>
    simp only [stE, List.map_cons, lkE, same_S]
    by_cases h : s = a
    · subst h; simp
    · rw [decide_eq_false h]
      show lkE .string (S s) (stE L) = _
      rw [ih]
      by_cases hm : s ∈ L <;> simp [hm, h]
theorem put_st (L : List Bs) (s : Bs) : putE .string (S s) (.bool true) (stE L) = stE (put1 L s) := by
  induction L with
  | nil => rfl
  | cons a L ih =>
    simp only [stE, List.map_cons, putE, same_S]
    by_cases h : s = a
    · subst h
      simp [put1]
    · rw [decide_eq_false h]
      show (S a, .bool true) :: putE .string (S s) (.bool true) (stE L) = _
      rw [ih]
      unfold put1 stE
      by_cases hm : s ∈ L <;> simp [hm, h]
/-- Block m holds the set of these texts. -/
def SetAt (w : World) (m : Nat) (L : List Bs) : Prop := mapAt w (.map (some m)) = some (stE L)
section
variable {w w' : World} {m : Nat} {L : List Bs}
theorem SetAt.lt (h : SetAt w m L) : m < w.heap.size := by
  simp only [SetAt, mapAt] at h
  cases hb : w.heap[m]? with
  | none => rw [hb] at h; simp at h
  | some o => exact (Array.getElem?_eq_some_iff.1 hb).1
theorem SetAt.same (h : SetAt w m L) (he : w'.heap[m]? = w.heap[m]?) : SetAt w' m L := by
  simp only [SetAt, mapAt] at h ⊢
  rw [he]; exact h
theorem SetAt.ext (h : SetAt w m L) (hx : Ext w w') : SetAt w' m L := h.same (hx.block h.lt)
theorem SetAt.grown {row : Option Nat} (h : SetAt w m L) (hg : w.grownBy w' row) (hne : row ≠ some m) : SetAt w' m L := h.same (hg.block m h.lt fun e => hne e.symm)
theorem SetAt.look (h : SetAt w m L) (s : Bs) : mlkV w false .string (.bool false) (.map (some m)) (S s) = .bool (decide (s ∈ L)) ∧ mlkD w .string (.map (some m)) (S s) = True := by
  unfold mlkV mlkD
  rw [show mapAt w (.map (some m)) = some (stE L) from h, Option.bind_some, lk_st]
  by_cases hm : s ∈ L <;> simp [hm, mlkR]
theorem SetAt.any (h : SetAt w m L) (s : Bs) : (lkE .string (S s) (stE L)).isSome = true := by rw [lk_st]; rfl
end
theorem SetAt.apart {α : Type} {f : α → List Value} {z : Nat} {E : TypeId} {B : Nat} {w : World} {v : Value} {l : List α} {m : Nat} {L : List Bs} (h : SetAt w m L) (ho : Own f z E B w v l) : v.ownBlock ≠ some m := by
  intro e
  rcases ho.2 with ⟨rfl, _⟩ | ⟨g, cap, cur, rfl, _, ⟨fz, hb, _⟩, _⟩
  · cases e
  · simp only [Value.ownBlock, Option.some.injEq] at e
    subst e
    simp only [SetAt, mapAt, hb] at h
    cases h
/-- What is read of a slice stays where the set alone was written. -/
theorem cell_grow {w w' : World} {m : Nat} {S : List Bs} {a : Addr} {u : Value} (hm : SetAt w m S) (hg : w.grownBy w' (some m)) (hv : w.cell? a = some u) : w'.cell? a = some u := by
  have hne : a.block ≠ m := fun e => by
    simp only [SetAt, mapAt] at hm
    simp only [World.cell?, e] at hv
    cases hb : w.heap[m]? with
    | none => rw [hb] at hm; simp at hm
    | some o =>
      rw [hb] at hm hv
      cases o with
      | map es ck => simp at hv
      | _ => simp at hm
  have hk : a.block < w.heap.size := by
    simp only [World.cell?] at hv
    cases hb : w.heap[a.block]? with
    | none => rw [hb] at hv; simp at hv
    | some o => exact (Array.getElem?_eq_some_iff.1 hb).1
  have he := hg.block a.block hk (fun e => hne (Option.some.inj e))
  simp only [World.cell?] at hv ⊢
  rw [he]; exact hv
theorem Sq.grow {α : Type} {f : α → List Value} {z : Nat} {w w' : World} {v : Value} {l : List α} {m : Nat} {S : List Bs} (h : Sq f z w v l) (hg : w.grownBy w' (some m)) (hm : SetAt w m S) : Sq f z w' v l :=
  ⟨h.1, h.2.1, h.2.2.imp id fun ⟨a, c, e, hc, hx⟩ => ⟨a, c, e, hc, fun j u hj => cell_grow hm hg (hx j u hj)⟩⟩
/-- A literal list of texts, as a slice of its own. -/
theorem Own.lits {B b : Nat} {E : TypeId} {w : World} {ls : List Bs} {cells : List Value} (hb : Blk w b cells E) (e : cells = ls.flatMap fS) (hB : B ≤ b) (hl : ls.length ≤ 1000) : Own fS 1 E B w (.slice (some ⟨b, 0, none⟩) ls.length ls.length) ls := by
  subst e
  have hf := flat_len (f := fS) fS_len ls
  exact ⟨fS_len, .inr ⟨b, ls.length, _, rfl, hB, hb, Nat.le_refl _, by unfold maxLen; omega, hf, by rw [← hf, List.take_length]⟩⟩
section
variable {P : Program} {mw : Option World} {ps : List Nat} {k : KT} {r : XT} {d : Option Nat} {l : EL} {w : World}
theorem m_mkset (h : ∀ b w', b = w.heap.size → SetAt w' b [] → Ext w w' → w'.heap.size = b + 1 → ∀ s, ops P mw ps k r (setO ⟨l, s⟩ d (.map (some b))) w') : mkmapL P mw ps k r d l w := by
  unfold mkmapL mkmapK
  intro s
  exact h _ _ rfl (by simp only [SetAt, mapAt, heap_alloc_new]; rfl) (Ext.alloc w _) (by simp) s
/-- One more text in a set. -/
theorem m_put {b : Nat} {L : List Bs} {s : Bs} (hm : SetAt w b L) (h : ∀ w', SetAt w' b (put1 L s) → Upd w w' b → ∀ q, ops P mw ps k r (setO ⟨l, q⟩ d undef) w') : mupL P mw ps k r d l w false .string (.map (some b)) (S s) (.bool true) :=
  m_mup hm (hm.any s) fun w' e hu => h w' (by rw [put_st] at e; exact e) hu
/-- The same in the region that made the set. -/
theorem m_puts {b : Nat} {L : List Bs} {s : Bs} (hm : SetAt w b L) (hb : ∀ w0, mw = some w0 → w0.heap.size ≤ b) (h : ∀ w', SetAt w' b (put1 L s) → Upd w w' b → ∀ q, ops P mw ps k r (setO ⟨l, q⟩ d undef) w') : mupL P mw ps k r d l w true .string (.map (some b)) (S s) (.bool true) :=
  m_mups hm (hm.any s) hb fun w' e hu => h w' (by rw [put_st] at e; exact e) hu
end
end Go.Proofs.Ytnhealghpfjdcaa
