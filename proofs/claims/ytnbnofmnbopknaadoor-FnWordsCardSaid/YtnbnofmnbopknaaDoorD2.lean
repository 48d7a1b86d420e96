/-
  The drawing of rows and stages.
  Conditions: none.
-/
import Derived.Test.YtnbnofmnbopknaaDoorD1
set_option linter.unusedSimpArgs false
set_option linter.unusedVariables false
set_option linter.defProp false
namespace Go.Proofs.YtnbnofmnbopknaaDoor
open Go Go.RowKit
section
variable (P : Program) (k : KT) (e : Env) (w : World)
end

theorem Sq.lit {α : Type} {f : α → List Value} {z E : Nat} {w : World} {b : Nat} {cs : List Value} (l : List α) (n : Nat) (hz : ∀ a, (f a).length = z) (hb : Blk w b cs E) (e : cs = l.flatMap f) (hn : n = l.length) : Sq f z w (.slice (some ⟨b, 0, none⟩) n n) l := by
  subst e; subst hn
  refine ⟨hz, flat_len hz l, .inr ⟨⟨b, 0, none⟩, l.length, rfl, Nat.le_refl _, fun j u hj => ?_⟩⟩
  rw [Addr.add_lit, Nat.zero_add, hb.cell]
  exact hj
theorem Sq.litC {α : Type} {f : α → List Value} {z E : Nat} {w : World} {b c : Nat} {cs : List Value} (l : List α) (n : Nat) (hz : ∀ a, (f a).length = z) (hb : Blk w b cs E) (e : cs = l.flatMap f) (hn : n = l.length) (hne : c < b) : ∀ w', w.grownBy w' (some c) → Sq f z w' (.slice (some ⟨b, 0, none⟩) n n) l := fun w' hg =>
  Sq.lit l n hz (hb.same (hg.block b hb.lt (fun h => by have := Option.some.inj h; omega))) e hn
theorem Cur.new {w w1 : World} {v : Value} {code : List UInt8} {b : Nat} (h : Sq fU 1 w v code) (hl : code.length ≤ 1048576) (hb : b = w.heap.size) (hblk : Blk w1 b [v, .int .i64 0, .int .u64 0] 52) (hx : Ext w w1) : Cur w b 0 w1 :=
  ⟨v, code, 0, 0, hblk, h, hl, Nat.le_refl _, by omega, hx⟩
end Go.Proofs.YtnbnofmnbopknaaDoor
