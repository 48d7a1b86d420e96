/-
  Place bells, of both sides.
  Conditions: none.
-/
import Derived.Test.YtnincmnkdjlndaaA28
import Derived.Test.YtnincmnkdjlndaaPc
import Derived.Test.YtnincmnkdjlndaaPt
set_option linter.unusedSimpArgs false
set_option linter.unusedVariables false
set_option linter.defProp false
namespace Go.Proofs.Ytnincmnkdjlndaa
open Go Go.RowKit
section
variable (P : Program) (k : KT) (e : Env) (w : World)
end

/-- The place of bell x + 1 is a bell of the inverse row. -/
theorem plc_turn {h : List UInt8} (hr : IsRow h) {x : Nat} (hx : x < h.length) : plcL h ((x + 1 : Nat) : Int) = bell (turnL h) x + 1 := by
  obtain ⟨i, hi, he⟩ := hr.onto hx
  have ht := turnL_at hr hi
  have hb : bell (turnL h) x = i := by
    unfold bell
    rw [← he, ht, UInt8.toNat_ofNat', Nat.mod_eq_of_lt (by have := hr.1; omega)]
    omega
  have hlo := hr.low hi
  refine PlaceIs.uniq (plcL_is h _) (.inr ⟨by omega, by omega, ?_, fun j hj hc => ?_⟩)
  · rw [hb, Nat.add_sub_cancel]
    unfold bell at he
    omega
  · have hlj := hr.low (i := j) (by omega)
    have : bell h j = bell h i := by
      unfold bell at he ⊢
      omega
    have := hr.inj' (by omega) hi this
    omega
/-- The place bells of bell x + 1. -/
def pbL (h : List UInt8) (x : Nat) : List Int := (orbit (turnL h) x).map fun k => ((k + 1 : Nat) : Int)
/-- The first k of them. -/
def pbK (h : List UInt8) (x k : Nat) : List Int := (List.range k).map fun j => ((itb (turnL h) j x + 1 : Nat) : Int)
theorem pbK_all (h : List UInt8) (x : Nat) : pbK h x (per (turnL h) x) = pbL h x := by
  unfold pbK pbL orbit
  rw [List.map_map]
  rfl
theorem pbK_len (h : List UInt8) (x k : Nat) : (pbK h x k).length = k := by simp [pbK]
theorem pbK_succ (h : List UInt8) (x k : Nat) : pbK h x (k + 1) = pbK h x k ++ [((itb (turnL h) k x + 1 : Nat) : Int)] := by simp [pbK, List.range_succ]
theorem pbK_mem {h : List UInt8} (hr : IsRow h) {x : Nat} (hx : x < h.length) {k : Nat} (hk : k ≤ per (turnL h) x) : ((itb (turnL h) k x + 1 : Nat) : Int) ∈ pbK h x k ↔ k = per (turnL h) x := by
  have ht := turnL_row hr
  have hxt : x < (turnL h).length := by rw [turnL_len]; exact hx
  have hp := per_is ht hxt
  unfold pbK
  simp only [List.mem_map, List.mem_range]
  constructor
  · rintro ⟨j, hj, e⟩
    rcases Nat.lt_or_ge k (per (turnL h) x) with h1 | h1
    · have := hp.inj ht hxt (by omega) h1 (show itb (turnL h) j x = itb (turnL h) k x by omega)
      omega
    · omega
  · intro e
    exact ⟨0, by have := hp.1; omega, by rw [e, hp.2.2.1]; rfl⟩
/-- Are place bells asked? -/
def pbR (nm : List UInt8) (st : Int) (cs : List (List UInt8)) (b : Int) : List Int := if pathOk nm st cs b then pbL (underL (roundsL st.toNat) cs) (b.toNat - 1) else []
end Go.Proofs.Ytnincmnkdjlndaa
