/-
  What a law's input reads: from what is trodden to slices and structs.
  Conditions: none.
-/
import Derived.Test.YtnbnofmnbopknaaDoorVm
import Derived.ChangeSame
import Derived.WideShapes
import Derived.SizedLaws
set_option linter.unusedSimpArgs false
set_option linter.unusedVariables false
set_option linter.defProp false
namespace Go.Proofs.YtnbnofmnbopknaaDoor
open Go Go.RowKit Go.WideShapes
section
variable {H : Type} {enc : TypeId × Value → H} {P : Program} {w : World} {base : Nat} {sp : Nat → Bool} {held : Bool}
/-- Whatever is trodden at type e is some a's cells, and good. -/
def Opens {α : Type} (enc : TypeId × Value → H) (P : Program) (w : World) (base : Nat) (sp : Nat → Bool) (held : Bool) (e : TypeId) (f : α → List Value) (good : α → Prop) : Prop := ∀ n cs x, DataW.trod enc P w base sp held n e cs = some x → ∃ a, cs = f a ∧ good a
theorem opens_int {t : TypeId} (ht : P.underlying t = some (.int .i64)) : Opens enc P w base sp held t fI (fun i => inR .i64 i) := fun n cs x h => by
  obtain ⟨i, rfl, _, hw⟩ := DataW.trod_int ht h
  exact ⟨i, rfl, by
    have h : IntKind.i64.min ≤ i ∧ i ≤ 9223372036854775807 := by simpa [Lit.wf, inR] using hw
    exact ⟨h.1, h.2⟩⟩
theorem opens_u8 {t : TypeId} (ht : P.underlying t = some (.int .u8)) : Opens enc P w base sp held t fU (fun _ => True) := fun n cs x h => by
  obtain ⟨i, rfl, _, hw⟩ := DataW.trod_int ht h
  have h : IntKind.u8.min ≤ i ∧ i ≤ IntKind.u8.max := by simpa [Lit.wf] using hw
  have h2 : 0 ≤ i ∧ i ≤ 255 := ⟨h.1, h.2⟩
  exact ⟨UInt8.ofNat i.toNat, by simp [fU, UInt8.toNat_ofNat']; omega, trivial⟩
theorem opens_str {t : TypeId} (ht : P.underlying t = some .string) : Opens enc P w base sp held t fS (fun s => s.length ≤ 9223372036854775807) := fun n cs x h => by
  obtain ⟨s, rfl, _, hs⟩ := DataW.trod_string ht h
  exact ⟨s.data.toList, rfl, hs⟩
theorem opens_bool {t : TypeId} (ht : P.underlying t = some .bool) : Opens enc P w base sp held t fB (fun _ => True) := fun n cs x h => by
  obtain ⟨b, rfl, _⟩ := DataW.trod_bool ht h
  exact ⟨b, rfl, trivial⟩
theorem opens_sliceD {α : Type} {f : α → List Value} {z : Nat} {good : α → Prop} {t e : TypeId} (ht : P.underlying t = some (.slice e)) (hc : P.cellsOf e = z) (hz : ∀ a, (f a).length = z) (ho : Opens enc P w base sp held e f good)
    {n : Nat} {cs : List Value} {x : DataW H × List MemPlace} (h : DataW.trod enc P w base sp held n t cs = some x) : ∃ v l, cs = [v] ∧ Sq f z w v l ∧ (∀ a ∈ l, good a) ∧ l.length ≤ 9223372036854775807 ∧ (l = [] ∨ ∃ el sp, x.1 = .slice el sp ∧ el.length = l.length) := by
  rcases DataW.trod_slice ht h with ⟨rfl, _⟩ | ⟨a, len, cap, elems, rest, m, _, rfl, hxe, hb, hl, hm, hlen, hel, _⟩
  · exact ⟨_, [], rfl, Sq.nil hz, by simp, by simp, .inl rfl⟩
  · have key : ∀ i, i < len → ∃ y, good y ∧ ∀ o, o < z → w.cell? (a.add (i * z + o)) = some ((f y).getD o undef) := by
      intro i hi
      have hi' := hel i hi
      rw [hc, List.getElem?_eq_getElem (by omega)] at hi'
      obtain ⟨cs, h1, h2⟩ := Option.bind_eq_some_iff.1 hi'
      obtain ⟨_, h4, h5⟩ := World.cells?_some h1
      obtain ⟨y, rfl, hg⟩ := ho _ _ _ h2
      refine ⟨y, hg, fun o hoz => ?_⟩
      have := h5 o hoz
      rw [Addr.add_add] at this
      rw [this, List.getD_eq_getElem?_getD, List.getElem?_eq_getElem (by rw [hz]; exact hoz), Option.getD_some]
    have key2 : ∀ k, k ≤ len → ∃ l : List α, l.length = k ∧ (∀ y ∈ l, good y) ∧ ∀ j u, (l.flatMap f)[j]? = some u → w.cell? (a.add j) = some u := by
      intro k
      induction k with
      | zero => exact fun _ => ⟨[], rfl, by simp, by simp⟩
      | succ k ih =>
        intro hk
        obtain ⟨l, hl, hg, hx⟩ := ih (by omega)
        obtain ⟨y, hy, hyx⟩ := key k (by omega)
        refine ⟨l ++ [y], by simp [hl], fun y' hy' => ?_, fun j u hj => ?_⟩
        · rcases List.mem_append.1 hy' with h | h
          · exact hg _ h
          · rw [List.mem_singleton.1 h]; exact hy
        · have hfl := flat_len hz l
          rw [List.flatMap_append, List.flatMap_singleton] at hj
          by_cases hjl : j < k * z
          · rw [List.getElem?_append_left (by rw [hfl, hl]; exact hjl)] at hj
            exact hx j u hj
          · rw [List.getElem?_append_right (by rw [hfl, hl]; omega), hfl, hl] at hj
            have hlt := (List.getElem?_eq_some_iff.1 hj).1
            rw [hz] at hlt
            have := hyx (j - k * z) hlt
            rw [show k * z + (j - k * z) = j by omega, List.getD_eq_getElem?_getD, hj] at this
            exact this
    obtain ⟨l, hl', hg, hx⟩ := key2 len (Nat.le_refl _)
    subst hl'
    exact ⟨_, l, rfl, ⟨hz, flat_len hz l, .inr ⟨a, cap, rfl, hl, hx⟩⟩, hg, Nat.le_trans hl hm, .inr ⟨_, _, by rw [hxe], by rw [List.length_map, hlen]⟩⟩
theorem opens_slice {α : Type} {f : α → List Value} {z : Nat} {good : α → Prop} {t e : TypeId} (ht : P.underlying t = some (.slice e)) (hc : P.cellsOf e = z) (hz : ∀ a, (f a).length = z) (ho : Opens enc P w base sp held e f good)
    {n : Nat} {cs : List Value} {x : DataW H × List MemPlace} (h : DataW.trod enc P w base sp held n t cs = some x) : ∃ v l, cs = [v] ∧ Sq f z w v l ∧ (∀ a ∈ l, good a) ∧ l.length ≤ 9223372036854775807 := by
  obtain ⟨v, l, a, b, c, d, _⟩ := opens_sliceD ht hc hz ho h
  exact ⟨v, l, a, b, c, d⟩
theorem open_sq {α : Type} {f : α → List Value} {z : Nat} {good : α → Prop} {t e : TypeId} {r : Reach} {b0 : Nat} {v : Value} {d : DataW H} {ps : List MemPlace} (ht : P.underlying t = some (.slice e)) (hc : P.cellsOf e = z) (hz : ∀ a, (f a).length = z) (ho : Opens enc P w base sp held e f good)
    (hv : Value.okWide P w r b0 t v) (h : DataW.Trod enc P w base sp held t v d ps) : ∃ l, Sq f z w v l ∧ (∀ a ∈ l, good a) ∧ l.length ≤ 9223372036854775807 := by
  obtain ⟨ad, n, c, rfl⟩ := okWide_slice ht hv
  obtain ⟨m, hf⟩ := h
  obtain ⟨v', l, e, hs, hg, hl⟩ := opens_slice ht hc hz ho hf
  simp only [Value.cells, List.cons.injEq, and_true] at e
  subst e
  exact ⟨l, hs, hg, hl⟩
theorem open_sqD {α : Type} {f : α → List Value} {z : Nat} {good : α → Prop} {t e : TypeId} {r : Reach} {b0 : Nat} {v : Value} {d : DataW H} {ps : List MemPlace} (ht : P.underlying t = some (.slice e)) (hc : P.cellsOf e = z) (hz : ∀ a, (f a).length = z) (ho : Opens enc P w base sp held e f good)
    (hv : Value.okWide P w r b0 t v) (h : DataW.Trod enc P w base sp held t v d ps) : ∃ l, Sq f z w v l ∧ (∀ a ∈ l, good a) ∧ l.length ≤ 9223372036854775807 ∧ (l = [] ∨ ∃ el sp, d = .slice el sp ∧ el.length = l.length) := by
  obtain ⟨ad, n, c, rfl⟩ := okWide_slice ht hv
  obtain ⟨m, hf⟩ := h
  obtain ⟨v', l, e, hs, hg, hl, hd⟩ := opens_sliceD ht hc hz ho hf
  simp only [Value.cells, List.cons.injEq, and_true] at e
  subst e
  exact ⟨l, hs, hg, hl, hd⟩
/-- A slice of an input is not longer than memory reaches. -/
theorem sq_small {ts : List TypeId} {ds : List (DataW H)} {t e : TypeId} {d : DataW H} {α : Type} {l : List α} (h : (DataW.weightsEach P ts ds).all (· ≤ reachBytes) = true) (j : Nat) (ht : ts[j]? = some t) (hd : ds[j]? = some d) (hu : P.underlying t = some (.slice e)) (hb : 0 < P.bytesOf e)
    (hl : l = [] ∨ ∃ el sp, d = .slice el sp ∧ el.length = l.length) : l.length ≤ 140737488355328 := by
  rcases hl with rfl | ⟨el, sp, rfl, he⟩
  · simp
  · have h1 := sized_slice h ht hd hu
    have h2 := reachBytes_lt
    have h3 : el.length + sp.length ≤ (el.length + sp.length) * P.bytesOf e := Nat.le_mul_of_pos_right _ hb
    omega
end
end Go.Proofs.YtnbnofmnbopknaaDoor
