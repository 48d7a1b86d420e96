/-
  The drawing of inputs: the cursor over the code.
  Conditions: none.
-/
import Derived.Test.YthopbkemkfjebaaKA9
set_option linter.unusedSimpArgs false
set_option linter.unusedVariables false
set_option linter.defProp false
namespace Go.Proofs.Ythopbkemkfjebaa
open Go Go.RowKit
/-- A cursor's cells. -/
def fC (v : Value) (a s : Int) : List Value := [v, .int .i64 a, .int .u64 s]
/-- Block b holds a cursor over the code, made behind W, at place n or ahead of it. -/
def Cur (W : World) (b n : Nat) (w : World) : Prop := ∃ (v : Value) (code : List UInt8) (at_ : Nat) (seed : Int), Blk w b (fC v at_ seed) 80 ∧ Sq fU 1 W v code ∧ code.length ≤ 1048576 ∧ at_ ≤ n ∧ W.heap.size ≤ b ∧ Ext W w
theorem Cur.mono {W : World} {b n m : Nat} {w : World} (h : Cur W b n w) (hm : n ≤ m) : Cur W b m w := by
  obtain ⟨v, code, a, s, hb, hq, hc, ha, hW, hx⟩ := h
  exact ⟨v, code, a, s, hb, hq, hc, by omega, hW, hx⟩
theorem Cur.ext {W : World} {b n : Nat} {w w' : World} (h : Cur W b n w) (hx' : Ext w w') : Cur W b n w' := by
  obtain ⟨v, code, a, s, hb, hq, hc, ha, hW, hx⟩ := h
  exact ⟨v, code, a, s, hb.ext hx', hq, hc, ha, hW, hx.trans hx'⟩
theorem Cur.base {W : World} {b n : Nat} {w : World} (h : Cur W b n w) : Ext W w := by
  obtain ⟨v, code, a, s, hb, hq, hc, ha, hW, hx⟩ := h
  exact hx
theorem Cur.lt {W : World} {b n : Nat} {w : World} (h : Cur W b n w) : W.heap.size ≤ b ∧ b < w.heap.size := by
  obtain ⟨v, code, a, s, hb, hq, hc, ha, hW, hx⟩ := h
  exact ⟨hW, hb.lt⟩
/-- A cursor stays where another block behind it was written. -/
theorem Cur.keep {W : World} {b n : Nat} {w w' : World} {r : Option Nat} (h : Cur W b n w) (hg : w.grownBy w' r) (hr : ∀ c, r = some c → b < c) : Cur W b n w' := by
  obtain ⟨v, code, a, s, hb, hq, hc, ha, hW, hx⟩ := h
  exact ⟨v, code, a, s, hb.same (hg.block b hb.lt (fun e => by have := hr b e.symm; omega)), hq, hc, ha, hW, Below.trans hx ⟨hg.os, hg.tape, hg.output, hg.size, fun i hi => hg.block i (by have := hx.size; omega) (fun e => by have := hr i e.symm; omega)⟩⟩
end Go.Proofs.Ythopbkemkfjebaa
