/-
  The blocks of a drawing of a method and calls.
  Conditions: none.
-/
import Derived.Test.YtfklonhjgkahdaaKA17
import Derived.Test.YtfklonhjgkahdaaKA25
import Derived.Test.YtfklonhjgkahdaaKD15
set_option linter.unusedSimpArgs false
set_option linter.unusedVariables false
set_option linter.defProp false
namespace Go.Proofs.Ytfklonhjgkahdaa
open Go Go.RowKit
/-- A method and calls that may be spoilt. -/
def AnyK (B : Nat) (nm : List UInt8) (st : Int) (x : Value) (cs : List (List UInt8)) (p q : List UInt8) (w' : World) : Prop := Own fS 1 9 B w' x cs ∧ nm.length ≤ 11 ∧ (2 ≤ st ∧ st ≤ 9) ∧ cs.length ≤ 60 ∧ (∀ c ∈ cs, c.length ≤ 8) ∧ (p.length ≤ 8 ∧ q.length ≤ 8)
/-- The blocks of such a drawing: results b2 and b3; the method and calls in b6 and b7. -/
structure EK (w0 : World) (B b2 b3 b6 b7 : Nat) (c2 c3 cm cq : List Value) (x : Value) (cs : List (List UInt8)) (w : World) : Prop where
  r2 : Blk w b2 c2 44
  r3 : Blk w b3 c3 46
  m : Blk w b6 cm 44
  k : Blk w b7 cq 46
  own : Own fS 1 9 B w x cs
  ex : Ext w0 w
  lo : w0.heap.size ≤ b2 ∧ b2 < b3 ∧ b3 < B ∧ B ≤ b6 ∧ B ≤ b7
section
variable {w0 : World} {B b b2 b3 b6 b7 : Nat} {c2 c3 cm cq c' : List Value} {x : Value} {cs : List (List UInt8)} {w w' : World}
theorem EK.draw (h : EK w0 B b2 b3 b6 b7 c2 c3 cm cq x cs w) (hg : w.grownBy w' (some b)) (hb : w0.heap.size ≤ b ∧ b ≠ b2 ∧ b ≠ b3 ∧ b ≠ b6 ∧ b ≠ b7) (ha : Away x b) : EK w0 B b2 b3 b6 b7 c2 c3 cm cq x cs w' := by
  have hl := h.lo
  have key : ∀ c, c ≠ b → c < w.heap.size → w'.heap[c]? = w.heap[c]? := fun c hc hlt => hg.block c hlt (fun e => hc (Option.some.inj e))
  exact ⟨h.r2.same (key _ (by omega) h.r2.lt), h.r3.same (key _ (by omega) h.r3.lt), h.m.same (key _ (by omega) h.m.lt), h.k.same (key _ (by omega) h.k.lt), h.own.off hg (fun c hc => by obtain rfl := Option.some.inj hc; exact ha), ext_grow' h.ex hg (fun c hc => by have := Option.some.inj hc; omega), hl⟩
theorem EK.ext (h : EK w0 B b2 b3 b6 b7 c2 c3 cm cq x cs w) (hx : Ext w w') : EK w0 B b2 b3 b6 b7 c2 c3 cm cq x cs w' := ⟨h.r2.ext hx, h.r3.ext hx, h.m.ext hx, h.k.ext hx, h.own.ext hx, h.ex.trans hx, h.lo⟩
end
end Go.Proofs.Ytfklonhjgkahdaa
