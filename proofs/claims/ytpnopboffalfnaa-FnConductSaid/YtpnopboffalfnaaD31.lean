/-
  The blocks of a drawing of a method and calls.
  Conditions: none.
-/
import Derived.Test.YtpnopboffalfnaaD15
import Derived.Test.YtpnopboffalfnaaA17
import Derived.Test.YtpnopboffalfnaaVw
set_option linter.unusedSimpArgs false
set_option linter.unusedVariables false
set_option linter.defProp false
namespace Go.Proofs.Ytpnopboffalfnaa
open Go Go.RowKit
/-- A method and calls that may be spoilt. -/
def AnyK (B : Nat) (nm : List UInt8) (st : Int) (x : Value) (cs : List (List UInt8)) (p q : List UInt8) (w' : World) : Prop := Own fS 1 9 B w' x cs ∧ nm.length ≤ 11 ∧ (2 ≤ st ∧ st ≤ 9) ∧ cs.length ≤ 60 ∧ (∀ c ∈ cs, c.length ≤ 8) ∧ (p.length ≤ 8 ∧ q.length ≤ 8)
/-- The blocks of such a drawing: results b2 and b3; the method and calls in b6 and b7. -/
structure EK (w0 : World) (B b2 b3 b6 b7 : Nat) (c2 c3 cm cq : List Value) (x : Value) (cs : List (List UInt8)) (w : World) : Prop where
  r2 : Blk w b2 c2 41
  r3 : Blk w b3 c3 32
  m : Blk w b6 cm 41
  k : Blk w b7 cq 32
  own : Own fS 1 9 B w x cs
  ex : Ext w0 w
  lo : w0.heap.size ≤ b2 ∧ b2 < b3 ∧ b3 < B ∧ B ≤ b6 ∧ B ≤ b7
section
variable {w0 : World} {B b b2 b3 b6 b7 : Nat} {c2 c3 cm cq c' : List Value} {x : Value} {cs : List (List UInt8)} {w w' : World}
theorem EK.draw (h : EK w0 B b2 b3 b6 b7 c2 c3 cm cq x cs w) (hg : w.grownBy w' (some b)) (hb : w0.heap.size ≤ b ∧ b ≠ b2 ∧ b ≠ b3 ∧ b ≠ b6 ∧ b ≠ b7) (ha : Away x b) : EK w0 B b2 b3 b6 b7 c2 c3 cm cq x cs w' := by
  have hl := h.lo
  have key : ∀ c, c ≠ b → c < w.heap.size → w'.heap[c]? = w.heap[c]? := fun c hc hlt => hg.block c hlt (fun e => hc (Option.some.inj e))
  exact ⟨h.r2.same (key _ (by omega) h.r2.lt), h.r3.same (key _ (by omega) h.r3.lt), h.m.same (key _ (by omega) h.m.lt), h.k.same (key _ (by omega) h.k.lt), h.own.off hg (fun c hc => by obtain rfl := Option.some.inj hc; exact ha), ext_grow' h.ex hg (fun c hc => by have := Option.some.inj hc; omega), hl⟩
theorem EK.ext (h : EK w0 B b2 b3 b6 b7 c2 c3 cm cq x cs w) (hx : Ext w w') : EK w0 B b2 b3 b6 b7 c2 c3 cm cq x cs w' := ⟨h.r2.ext hx, h.r3.ext hx, h.m.ext hx, h.k.ext hx, h.own.ext hx, h.ex.trans hx, h.lo⟩
theorem EK.st2 (h : EK w0 B b2 b3 b6 b7 c2 c3 cm cq x cs w) (hu : Upd w w' b2) (hb : Blk w' b2 c' 41) : EK w0 B b2 b3 b6 b7 c' c3 cm cq x cs w' := by
  have hl := h.lo
  exact ⟨hb, hu.blk h.r3 (by omega), hu.blk h.m (by omega), hu.blk h.k (by omega), h.own.upd hu (h.own.away' (by omega)), hu.below h.ex (by omega), hl⟩
theorem EK.st3 (h : EK w0 B b2 b3 b6 b7 c2 c3 cm cq x cs w) (hu : Upd w w' b3) (hb : Blk w' b3 c' 32) : EK w0 B b2 b3 b6 b7 c2 c' cm cq x cs w' := by
  have hl := h.lo
  exact ⟨hu.blk h.r2 (by omega), hb, hu.blk h.m (by omega), hu.blk h.k (by omega), h.own.upd hu (h.own.away' (by omega)), hu.below h.ex (by omega), hl⟩
end
theorem resV_four (e : Env) (w : World) (o o' o'' o3 : XO) : resV e w [o, o', o'', o3] = .tuple ⟨[qv e w o, qv e w o', qv e w o'', qv e w o3]⟩ := rfl
theorem ext4 (a b c d : Value) : (extV 0 (.tuple ⟨[a, b, c, d]⟩) = a ∧ extV 1 (.tuple ⟨[a, b, c, d]⟩) = b ∧ extV 2 (.tuple ⟨[a, b, c, d]⟩) = c ∧ extV 3 (.tuple ⟨[a, b, c, d]⟩) = d) ∧ extD 0 (.tuple ⟨[a, b, c, d]⟩) = True ∧ extD 1 (.tuple ⟨[a, b, c, d]⟩) = True ∧ extD 2 (.tuple ⟨[a, b, c, d]⟩) = True ∧ extD 3 (.tuple ⟨[a, b, c, d]⟩) = True :=
  ⟨⟨rfl, rfl, rfl, rfl⟩, by simp [extD], by simp [extD], by simp [extD], by simp [extD]⟩
end Go.Proofs.Ytpnopboffalfnaa
