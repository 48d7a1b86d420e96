/- For every drawn program, compiling the printed parts of a touch restores the touch, and definitions are equivalent to their expansion; program and reference agree. The card: the three listed tables are tied to the program's text (the given tie).
   Conditions: none. -/
import Derived.Test.YtnbnofmnbopknaaDoorD63
import Derived.Test.YtnbnofmnbopknaaDoorVd
import Derived.Test.YtnbnofmnbopknaaDoorVi
import Derived.Test.YtnbnofmnbopknaaDoorCards
import Derived.Test.YtnbnofmnbopknaaDoorTie
set_option linter.unusedSimpArgs false
set_option linter.unusedVariables false
set_option linter.defProp false
namespace Go.Proofs.YtnbnofmnbopknaaDoor
open Go Go.RowKit Go.ChangeShapes Go.WideShapes Go.ChangeAt Go.ChangeMaps
/-- The heap that the program's own initialisers leave meets the condition on the tables. -/
theorem door_met (os : Os) (args : Array Value) : laidMetH Tryd.prog Rows.fnWordsRow.laid ((World.doorLaid Tryd.prog 24 os).forCall (fun _ _ => 0) ⟨#[], args, []⟩).memory :=
  laidMetH_of_parts3 (fuel := 8) (laidMet_of_run' 8 (by kernel_rfl) (by kernel_rfl)) (by kernel_rfl) (by kernel_rfl)
set_option maxHeartbeats 40000000 in
set_option maxRecDepth 100000 in
theorem fnWords_holds : Rows.FnWordsSaid :=
  OpenClaim.holds_of_wide 3 Tryd.f3 rfl rfl rfl rfl rfl rfl rfl ⟨rfl, rfl, rfl, rfl, rfl⟩ rfl rfl rfl rfl rfl (by kernel_rfl) Tryd.func3 (by unfold joinedFacts; simp only [Bool.and_eq_true]; (repeat' apply And.intro) <;> decide +kernel)
    (of_decide_eq_true (by kernel_rfl)) (by unfold Func.isWrapper; first | (rw [if_pos (by decide +kernel)]; kernel_rfl) | (rw [if_neg (by decide +kernel)]; exact ⟨rfl, rfl⟩))
    (fun os started H enc _ => law_liftL (s := Rows.fnWordsSpec) (laid := Rows.fnWordsRow.laid) started (by kernel_rfl) Tryd.func3 Tryd.underlying4 rfl rfl (by kernel_rfl) (fun ds hl => by match ds, hl with | [d1, d2], _ => exact ⟨rfl, rfl, rfl⟩)
      (ChangeSpec.witness_shaped (enc := enc) (C := Tryd.checked) (os := os) (X := fun w _ => laidMetH Tryd.prog Rows.fnWordsRow.laid w) false (World.doorLaid Tryd.prog 24 os) #[.slice none 0 0, .slice none 0 0] 8 rfl (World.shaped_of_RefB (by kernel_rfl) (by kernel_rfl)) (by kernel_rfl) (by kernel_rfl) (by kernel_rfl) (door_met os _))
      (fun W base args ds p hval hA _hsz => by
        have hA := hA
        rw [show Tryd.f3.params.toList = _ from rfl] at hA _hsz
        obtain ⟨v0, _, d0, _, p0, _, rfl, rfl, rfl, h0, hA⟩ := trodAll_cons hA; obtain ⟨v1, _, d1, _, p1, _, rfl, rfl, rfl, h1, hA⟩ := trodAll_cons hA; obtain ⟨rfl, rfl, rfl⟩ := trodAll_nil hA; have o0 := hval 0 _ v0 rfl rfl; have o1 := hval 1 _ v1 rfl rfl
        obtain ⟨l, hsq, hg, hl, hd0⟩ := open_sqD Tryd.underlying22 (by kernel_rfl) fU_len (opens_u8 Tryd.underlying5) o0 h0
        obtain ⟨l', hsq', hg', hl', hd1⟩ := open_sqD Tryd.underlying22 (by kernel_rfl) fU_len (opens_u8 Tryd.underlying5) o1 h1
        exact lFnWords_ok v0 v1 l l' (sq_small _hsz 0 rfl rfl Tryd.underlying22 (by decide +kernel) hd0) (sq_small _hsz 1 rfl rfl Tryd.underlying22 (by decide +kernel) hd1) W hsq hsq'))
/-- The tied card. -/
theorem FnWordsCard_holds : Rows.FnWordsCardSaid :=
  Claim7.holds_tied_plain_at .later [] [.data, .data, .data] true (true, "679d17dcc55a0fbab388bfebce34b58caf034680984d53f93d91136443172fb9") false
    fnWords_holds (fun _ h => by cases h) (by kernel_rfl) (fun _ h => by cases h) fnWords_row_tie rfl ⟨rfl, rfl⟩ (by kernel_rfl) rfl
    (fun f fn hf hfn => by
      obtain rfl : f = 3 := Option.some.inj ((show Tryd.prog.funcNamed "loop.example/g00894/laws.FnWords" = some 3 by kernel_rfl).symm.trans hf) |>.symm
      obtain rfl : fn = Tryd.f3 := (Option.some.inj (Tryd.func3.symm.trans hfn)).symm
      exact ⟨by kernel_rfl, fun j t ht => by
        rw [show Tryd.f3.params = _ from rfl] at ht
        have hm : t ∈ [22, 22] := by simpa using Array.mem_of_getElem? ht
        have hall : ([22, 22].all fun u => !Tryd.prog.wantsStandIn u) = true := by kernel_rfl
        exact (show Tryd.prog.wantsStandIn t = false by simpa using List.all_eq_true.1 hall t hm)⟩)
    (by kernel_rfl)
end Go.Proofs.YtnbnofmnbopknaaDoor
