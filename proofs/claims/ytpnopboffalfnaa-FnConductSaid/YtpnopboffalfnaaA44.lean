/-
  The coursing orders of a touch are those of its heads.
  Conditions: none.
-/
import Derived.Test.YtpnopboffalfnaaA20
import Derived.Test.YtpnopboffalfnaaA33
import Derived.Test.YtpnopboffalfnaaA45
set_option linter.unusedSimpArgs false
set_option linter.unusedVariables false
set_option linter.defProp false
namespace Go.Proofs.Ytpnopboffalfnaa
open Go Go.RowKit
theorem cou_pos : ∀ n < 9, ∀ v < 9, 2 ≤ v → v ≤ n → (coursingL n).getD (posC n (UInt8.ofNat (48 + v))) 0 = (v : Int) := by decide +kernel
theorem course_at (l : List UInt8) (i : Nat) (hi : i < (coursingL l.length).length) : (courseL l).getD i 0 = l.getD (((coursingL l.length).getD i 0).toNat - 1) 0 := by
  unfold courseL
  rw [getD_map _ 0 _ _ _ hi]
theorem step_course {r h : List UInt8} (hh : IsRow h) (hl : r.length = h.length) (h1 : h.getD 0 0 = 49) : stepO (courseL r) h = courseL (timesL r h) := by
  have h8 := hh.1
  have hcl := cou_len h.length (by omega)
  have htl := timesL_len r h
  have hch := course_len h (by omega)
  refine ext_getD (d := 0) (by rw [stepO, List.length_map, movesL, List.length_map, hch, course_len _ (by omega), htl]) fun i hi => ?_
  rw [stepO, List.length_map, movesL, List.length_map] at hi
  obtain ⟨v, h2, hv, he⟩ := course_get hh h1 i hi
  have hp := whole_pos h.length (by omega) v (by omega) h2 hv
  rw [whole_len _ (by omega)] at hp
  rw [stepO, getD_map _ 0 _ _ _ (by rw [movesL, List.length_map]; exact hi), movesL, getD_map _ 0 _ _ _ hi, he]
  rw [course_at r _ (by rw [hl]; omega), hl, cou_pos _ (by omega) v (by omega) h2 hv]
  have hin := cou_in h.length (by omega) i (by omega)
  rw [course_at _ i (by rw [htl]; omega), htl, timesL_get _ _ _ (by omega)]
  rw [course_at h i (by omega)] at he
  unfold bell
  rw [he]
  congr 1
  rw [UInt8.toNat_ofNat', Nat.mod_eq_of_lt (by omega)]
  omega
theorem ord_head {nm : List UInt8} {n : Nat} {cs : List (List UInt8)} {b s : List UInt8} (hm : IsMC nm n cs b s) (t : List UInt8) : ∀ k, k ≤ t.length → okO n cs b s t k → ordO n cs b s t k = courseL (headP n cs b s t k) ∧ (headP n cs b s t k).getD 0 0 = 49 := by
  have h8 := hm.1.2.1
  intro k
  induction k with
  | zero =>
    intro _ _
    rw [headP_zero]
    exact ⟨rfl, by rw [roundsL_get _ _ (by omega)]; rfl⟩
  | succ k ih =>
    intro hk hok
    obtain ⟨e, h0⟩ := ih (by omega) fun i hi => hok i (by omega)
    have h1 := hok k (by omega)
    have hH := headC_row hm [t.getD k 0]
    have hP := headP_row hm t k
    rw [headP_succ _ _ _ _ _ _ (by omega), ordO, e]
    refine ⟨step_course hH.1 (by rw [hP.2, hH.2]) h1, ?_⟩
    rw [timesL_get _ _ _ (by rw [(HD_row hm _).2]; omega), show bell (HD n cs b s (t.getD k 0)) 0 = 0 by unfold bell HD; rw [h1]; rfl]
    exact h0
theorem roc_head {r : List UInt8} (hr : IsRow r) (h4 : 4 ≤ r.length) (h1 : r.getD 0 0 = 49) : rocV 1 (courseL r) = .tuple ⟨[S r, .bool true]⟩ := by
  have h8 := hr.1
  have hl : (courseL r).length + 1 = r.length := by rw [course_len r (by omega)]; omega
  have hrc := roc_course hr h4
  rw [h1, show (((49 : UInt8).toNat : Int) - 48).toNat = 1 from rfl] at hrc
  unfold rocV
  rw [hl, show (1 : Int).toNat = 1 from rfl, hrc, if_pos ⟨by omega, by omega, hr⟩]
end Go.Proofs.Ytpnopboffalfnaa
