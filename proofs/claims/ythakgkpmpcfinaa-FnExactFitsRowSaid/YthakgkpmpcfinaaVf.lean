/-
  Small code at this program.
  Conditions: none.
-/
import Derived.Test.YthakgkpmpcfinaaVs
import Derived.Test.YthakgkpmpcfinaaRows
import Derived.KernelRfl
set_option linter.unusedSimpArgs false
set_option linter.unusedVariables false
namespace Go.Proofs.Ythakgkpmpcfinaa
open Go Go.RowKit
theorem mix : Try.prog.follows .mixedOrders = true := by kernel_rfl
/-- The call of function f leaves what was there as it was, and R. -/
def Fn (f : Nat) (args : List Value) (w : World) (R : Value → World → Prop) : Prop := CallsV Try.prog f args w fun v w' => Ext w w' ∧ R v w'
theorem Fn.mono {f : Nat} {args : List Value} {w : World} {R R' : Value → World → Prop} (h : Fn f args w R) (hr : ∀ v w', R v w' → R' v w') : Fn f args w R' :=
  CallsV.mono h fun v w' ⟨a, b⟩ => ⟨a, hr v w' b⟩
/-- A loop that goes from 0 to n: after k rounds the changed slots hold vs, and J k vs w. -/
def UpTo (n : Nat) (J : Nat → List Value → World → Prop) : Nat → List Value → World → Prop := fun m vs w => ∃ k, m = n - k ∧ k ≤ n ∧ J k vs w
theorem UpTo.next {n k : Nat} {J : Nat → List Value → World → Prop} {vs : List Value} {w : World} (hk : k < n) (h : J (k + 1) vs w) : ∃ m, m < n - k ∧ UpTo n J m vs w :=
  ⟨n - (k + 1), by omega, k + 1, rfl, by omega, h⟩
theorem m_upto {P : Program} {k : KT} {chg keep : List Nat} {c : X} {ini kv : List Value} {w : World} (n : Nat) (J : Nat → List Value → World → Prop) (h0 : J 0 ini w)
    (step : ∀ i vs w', i ≤ n → J i vs w' → ∀ r, vcK P c (.lp (UpTo n J) (n - i) chg keep kv k) ⟨zipE chg vs ++ zipE keep kv, r⟩ w') : loopE P chg keep c k ini kv w :=
  m_loop (UpTo n J) n ⟨0, by omega, Nat.zero_le _, h0⟩ (by rintro m vs w' ⟨i, rfl, hi, hJ⟩ r; exact step i vs w' hi hJ r)
theorem dr {w w' : World} (h : Ext w w') : Ext w w'.drew := by rw [ext_drew]; exact h
theorem ud {w w' : World} (h : Ext w.drew w') : Ext w w' := by rw [drew_ext] at h; exact h
end Go.Proofs.Ythakgkpmpcfinaa
