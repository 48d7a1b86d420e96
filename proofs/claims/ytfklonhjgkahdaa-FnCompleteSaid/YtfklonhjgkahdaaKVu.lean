/-
  Maps that are sets of texts.
  Conditions: none.
-/
import Derived.Test.YtfklonhjgkahdaaKPv
import Derived.Test.YtfklonhjgkahdaaKVn
set_option linter.unusedSimpArgs false
set_option linter.unusedVariables false
set_option linter.defProp false
namespace Go.Proofs.Ytfklonhjgkahdaa
open Go Go.RowKit
def stE (L : List Bs) : List (Value × Value) := L.map fun s => (S s, .bool true)
theorem same_S (a b : Bs) : sameK .string (S a) (S b) = some (decide (a = b)) := by
  show some ((⟨⟨a⟩⟩ : ByteArray) == ⟨⟨b⟩⟩) = _
  congr 1
  by_cases h : a = b
  · subst h; rw [ba_refl]; simp
  · rw [decide_eq_false h]
    cases he : ((⟨⟨a⟩⟩ : ByteArray) == ⟨⟨b⟩⟩) with
    | false => rfl
    | true => exact absurd (congrArg (fun x : ByteArray => x.data.toList) (ba_eq he)) h
theorem lk_st (L : List Bs) (s : Bs) : lkE .string (S s) (stE L) = some (if s ∈ L then some (.bool true) else none) := by
  induction L with
  | nil => rfl
  | cons a L ih =>
    simp only [stE, List.map_cons, lkE, same_S]
    by_cases h : s = a
    · subst h; simp
    · rw [decide_eq_false h]
      show lkE .string (S s) (stE L) = _
      rw [ih]
      by_cases hm : s ∈ L <;> simp [hm, h]
theorem put_st (L : List Bs) (s : Bs) : putE .string (S s) (.bool true) (stE L) = stE (put1 L s) := by
  induction L with
  | nil => rfl
  | cons a L ih =>
    simp only [stE, List.map_cons, putE, same_S]
    by_cases h : s = a
    · subst h
      simp [put1]
    · rw [decide_eq_false h]
      show (S a, .bool true) :: putE .string (S s) (.bool true) (stE L) = _
      rw [ih]
      unfold put1 stE
      by_cases hm : s ∈ L <;> simp [hm, h]
/-- Block m holds the set of these texts. -/
def SetAt (w : World) (m : Nat) (L : List Bs) : Prop := mapAt w (.map (some m)) = some (stE L)
section
variable {w w' : World} {m : Nat} {L : List Bs}
theorem SetAt.lt (h : SetAt w m L) : m < w.heap.size := by
  simp only [SetAt, mapAt] at h
  cases hb : w.heap[m]? with
  | none => rw [hb] at h; simp at h
  | some o => exact (Array.getElem?_eq_some_iff.1 hb).1
theorem SetAt.same (h : SetAt w m L) (he : w'.heap[m]? = w.heap[m]?) : SetAt w' m L := by
  simp only [SetAt, mapAt] at h ⊢
  rw [he]; exact h
theorem SetAt.ext (h : SetAt w m L) (hx : Ext w w') : SetAt w' m L := h.same (hx.block h.lt)
theorem SetAt.grown {row : Option Nat} (h : SetAt w m L) (hg : w.grownBy w' row) (hne : row ≠ some m) : SetAt w' m L := h.same (hg.block m h.lt fun e => hne e.symm)
theorem SetAt.look (h : SetAt w m L) (s : Bs) : mlkV w false .string (.bool false) (.map (some m)) (S s) = .bool (decide (s ∈ L)) ∧ mlkD w .string (.map (some m)) (S s) = True := by
  unfold mlkV mlkD
  rw [show mapAt w (.map (some m)) = some (stE L) from h, Option.bind_some, lk_st]
  by_cases hm : s ∈ L <;> simp [hm, mlkR]
theorem SetAt.any (h : SetAt w m L) (s : Bs) : (lkE .string (S s) (stE L)).isSome = true := by rw [lk_st]; rfl
end
theorem SetAt.apart {α : Type} {f : α → List Value} {z : Nat} {E : TypeId} {B : Nat} {w : World} {v : Value} {l : List α} {m : Nat} {L : List Bs} (h : SetAt w m L) (ho : Own f z E B w v l) : v.ownBlock ≠ some m := by
  intro e
  rcases ho.2 with ⟨rfl, _⟩ | ⟨g, cap, cur, rfl, _, ⟨fz, hb, _⟩, _⟩
  · cases e
  · simp only [Value.ownBlock, Option.some.injEq] at e
    subst e
    simp only [SetAt, mapAt, hb] at h
    cases h
/-- A literal list of texts, as a slice of its own. -/
theorem Own.lits {B b : Nat} {E : TypeId} {w : World} {ls : List Bs} {cells : List Value} (hb : Blk w b cells E) (e : cells = ls.flatMap fS) (hB : B ≤ b) (hl : ls.length ≤ 1000) : Own fS 1 E B w (.slice (some ⟨b, 0, none⟩) ls.length ls.length) ls := by
  subst e
  have hf := flat_len (f := fS) fS_len ls
  exact ⟨fS_len, .inr ⟨b, ls.length, _, rfl, hB, hb, Nat.le_refl _, by unfold maxLen; omega, hf, by rw [← hf, List.take_length]⟩⟩
section
variable {P : Program} {mw : Option World} {ps : List Nat} {k : KT} {r : XT} {d : Option Nat} {l : EL} {w : World}
theorem m_mkset (h : ∀ b w', b = w.heap.size → SetAt w' b [] → Ext w w' → w'.heap.size = b + 1 → ∀ s, ops P mw ps k r (setO ⟨l, s⟩ d (.map (some b))) w') : mkmapL P mw ps k r d l w := by
  unfold mkmapL mkmapK
  intro s
  exact h _ _ rfl (by simp only [SetAt, mapAt, heap_alloc_new]; rfl) (Ext.alloc w _) (by simp) s
/-- One more text in a set. -/
theorem m_put {b : Nat} {L : List Bs} {s : Bs} (hm : SetAt w b L) (h : ∀ w', SetAt w' b (put1 L s) → Upd w w' b → ∀ q, ops P mw ps k r (setO ⟨l, q⟩ d undef) w') : mupL P mw ps k r d l w false .string (.map (some b)) (S s) (.bool true) :=
  m_mup hm (hm.any s) fun w' e hu => h w' (by rw [put_st] at e; exact e) hu
end
/-- A slice of slices of its own, in blocks from B on and below T, no two of them in one block. -/
def NestU {α : Type} (f : α → List Value) (E1 E2 : TypeId) (B T : Nat) (w : World) (o : Value) (ls : List (List α)) : Prop :=
  ∃ vs : List SV, Own fSV 1 E2 B w o vs ∧ (∀ c, o.ownBlock = some c → c < T) ∧ vs.length = ls.length ∧
    ∀ i < ls.length, Own f 1 E1 B w (vs.getD i SV.nil).v (ls.getD i []) ∧ (∀ c, (vs.getD i SV.nil).v.ownBlock = some c → c < T ∧ o.ownBlock ≠ some c) ∧ ∀ j < i, ∀ c, (vs.getD i SV.nil).v.ownBlock = some c → (vs.getD j SV.nil).v.ownBlock ≠ some c
section
variable {α : Type} {f : α → List Value} {E1 E2 : TypeId} {B T : Nat} {w w' : World} {o : Value} {ls : List (List α)}
theorem NestU.sq (h : NestU f E1 E2 B T w o ls) : Sq2 f w o ls := by
  obtain ⟨vs, h1, _, h2, h3⟩ := h
  exact ⟨vs, h1.sq, h2, fun i hi => (h3 i hi).1.sq⟩
theorem NestU.ext (h : NestU f E1 E2 B T w o ls) (hx : Ext w w') : NestU f E1 E2 B T w' o ls := by
  obtain ⟨vs, h1, h2, h3, h4⟩ := h
  exact ⟨vs, h1.ext hx, h2, h3, fun i hi => ⟨(h4 i hi).1.ext hx, (h4 i hi).2⟩⟩
theorem NestU.mono {B' T' : Nat} (h : NestU f E1 E2 B T w o ls) (hB : B' ≤ B) (hT : T ≤ T') : NestU f E1 E2 B' T' w o ls := by
  have mo : ∀ {γ : Type} {g : γ → List Value} {z : Nat} {E : TypeId} {v : Value} {l : List γ}, Own g z E B w v l → Own g z E B' w v l := fun h => ⟨h.1, h.2.imp id fun ⟨a, b, c, e, d, r⟩ => ⟨a, b, c, e, Nat.le_trans hB d, r⟩⟩
  obtain ⟨vs, h1, h2, h3, h4⟩ := h
  exact ⟨vs, mo h1, fun c hc => Nat.lt_of_lt_of_le (h2 c hc) hT, h3, fun i hi => ⟨mo (h4 i hi).1, fun c hc => ⟨Nat.lt_of_lt_of_le ((h4 i hi).2.1 c hc).1 hT, ((h4 i hi).2.1 c hc).2⟩, (h4 i hi).2.2⟩⟩
/-- Left alone where another block was written. -/
theorem NestU.off {r : Option Nat} (h : NestU f E1 E2 B T w o ls) (hg : w.grownBy w' r) (hr : ∀ c, r = some c → c < B ∨ T ≤ c) : NestU f E1 E2 B T w' o ls := by
  obtain ⟨vs, h1, h2, h3, h4⟩ := h
  refine ⟨vs, h1.off hg fun c hc e => ?_, h2, h3, fun i hi => ⟨(h4 i hi).1.off hg fun c hc e => ?_, (h4 i hi).2⟩⟩
  · have a := h2 c e
    have b := (h1.bound c e).1
    rcases hr c hc with h | h <;> omega
  · have a := ((h4 i hi).2.1 c e).1
    have b := ((h4 i hi).1.bound c e).1
    rcases hr c hc with h | h <;> omega
theorem NestU.bound (h : NestU f E1 E2 B T w o ls) : ∀ c, o.ownBlock = some c → B ≤ c ∧ c < T := fun c hc => by
  obtain ⟨vs, h1, h2, _⟩ := h
  exact ⟨(h1.bound c hc).1, h2 c hc⟩
theorem ext_grow {w0 : World} {r : Option Nat} (hx : Ext w0 w) (hg : w.grownBy w' r) (hm : ∀ c, r = some c → w0.heap.size ≤ c) : Ext w0 w' := by
  have hs := hx.size
  exact Below.trans hx ⟨hg.os, hg.tape, hg.output, hg.size, fun i hi => hg.block i (by omega) fun he => by have := hm i he.symm; omega⟩
theorem NestU.nil : NestU f E1 E2 B T w (.slice none 0 0) ([] : List (List α)) := ⟨[], Own.nil fSV_len, (fun c h => by cases h), rfl, fun i hi => by simp at hi⟩
theorem NestU.to {ls' : List (List α)} (h : NestU f E1 E2 B T w o ls) (e : ls = ls') : NestU f E1 E2 B T w o ls' := e ▸ h
/-- One slice in a block of its own, in a literal. -/
theorem NestU.one {b : Nat} {s : SV} {l : List α} (hb : Blk w b [s.v] E2) (hB : B ≤ b) (hi : Own f 1 E1 B w s.v l) (hs : ∀ c, s.v.ownBlock = some c → c ≠ b) : NestU f E1 E2 B w.heap.size w (.slice (some ⟨b, 0, none⟩) 1 1) [l] := by
  refine ⟨[s], ⟨fSV_len, .inr ⟨b, 1, [s.v], rfl, hB, hb, Nat.le_refl _, by unfold maxLen; omega, rfl, rfl⟩⟩, fun c hc => ?_, rfl, fun i hi' => ?_⟩
  · simp only [Value.ownBlock, Option.some.injEq] at hc
    rw [← hc]; exact hb.lt
  · obtain rfl : i = 0 := by simpa using hi'
    refine ⟨hi, fun c hc => ⟨hi.lt c hc, fun e => ?_⟩, fun j hj => by omega⟩
    simp only [Value.ownBlock, Option.some.injEq] at e
    exact hs c hc e.symm
/-- The first slices of a slice of slices. -/
theorem Sq2.head (h : Sq2 f w o ls) (k : IntKind) (a : Nat) (ha : a ≤ ls.length) : sslD o none (some (.int k a)) = True ∧ Sq2 f w (sslV 1 o none (some (.int k a))) (ls.take a) := by
  obtain ⟨vs, h1, h2, h3⟩ := h
  obtain ⟨a1, a2⟩ := h1.headS k a (by omega)
  refine ⟨a1, vs.take a, a2, by simp [h2], fun i hi => ?_⟩
  rw [List.length_take] at hi
  have e1 : (vs.take a).getD i SV.nil = vs.getD i SV.nil := by simp only [List.getD_eq_getElem?_getD, List.getElem?_take_of_lt (show i < a by omega)]
  have e2 : (ls.take a).getD i [] = ls.getD i [] := by simp only [List.getD_eq_getElem?_getD, List.getElem?_take_of_lt (show i < a by omega)]
  rw [e1, e2]
  exact h3 i (by omega)
theorem Sq2.facts (h : Sq2 f w o ls) : lensV o = .int .i64 ls.length ∧ lensD o = True ∧ Go.Proofs.Ytfklonhjgkahdaa.oneC o = True ∧ ∀ (k : IntKind) (i : Int), iaD o (.int k i) = (0 ≤ i ∧ i < ls.length) := by
  obtain ⟨vs, h1, h2, h3⟩ := h
  rw [← h2]
  exact h1.facts
/-- What is read at place i of a slice of slices. -/
theorem Sq2.at (h : Sq2 f w o ls) {i : Nat} (hi : i < ls.length) : ∃ u, (∀ k : IntKind, ldV w (iaV 1 o (.int k i)) = u ∧ ldD w (iaV 1 o (.int k i)) = True) ∧ Sq f 1 w u (ls.getD i []) := by
  obtain ⟨vs, h1, h2, h3⟩ := h
  refine ⟨(vs.getD i SV.nil).v, fun k => ?_, h3 i hi⟩
  exact h1.at1 SV.nil (by omega) k
end
end Go.Proofs.Ytfklonhjgkahdaa
