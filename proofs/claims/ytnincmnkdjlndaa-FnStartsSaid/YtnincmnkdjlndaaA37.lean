/-
  Heads of called leads, of both sides.
  Conditions: none.
-/
import Derived.Test.YtnincmnkdjlndaaA31
set_option linter.unusedSimpArgs false
set_option linter.unusedVariables false
set_option linter.defProp false
namespace Go.Proofs.Ytnincmnkdjlndaa
open Go Go.RowKit
section
variable (P : Program) (k : KT) (e : Env) (w : World)
end

/-- Is a call asked of a method and its calls? -/
def CallOk (nm : List UInt8) (st : Int) (cs : List (List UInt8)) (b s call : List UInt8) : Prop := IsMC nm st cs b s ∧ IsCall call
instance (nm : List UInt8) (st : Int) (cs : List (List UInt8)) (b s call : List UInt8) : Decidable (CallOk nm st cs b s call) := by unfold CallOk; infer_instance
def chV (nm : List UInt8) (st : Int) (cs : List (List UInt8)) (b s call : List UInt8) : Value := if CallOk nm st cs b s call then .tuple ⟨[S (headC st.toNat cs b s call), .bool true]⟩ else .tuple ⟨[S [], .bool false]⟩
section
variable (nm : List UInt8) (st : Int) (v : Value) (cs : List (List UInt8)) (b s call : List UInt8) (hnm : nm.length ≤ 1048576) (hs : ∀ c ∈ cs, c.length ≤ 1048576) (hl : cs.length ≤ 1000000000) (hb : b.length ≤ 1048576 ∧ s.length ≤ 1048576)
include hnm hs hl hb
end
end Go.Proofs.Ytnincmnkdjlndaa
