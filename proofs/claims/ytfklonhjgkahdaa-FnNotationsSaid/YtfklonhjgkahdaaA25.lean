/-
  A method with other changes.
  Conditions: none.
-/
import Derived.Test.YtfklonhjgkahdaaA11
import Derived.Test.YtfklonhjgkahdaaVw
set_option linter.unusedSimpArgs false
set_option linter.unusedVariables false
set_option linter.defProp false
namespace Go.Proofs.Ytfklonhjgkahdaa
open Go Go.RowKit
section
variable (P : Program) (k : KT) (e : Env) (w : World)
abbrev b113_1 : X := (.seq (.reg [4] (.c (.q 5 [] (.fa 0 (.t 2))) (.c (.q 6 [] (.ld (.t 5))) (.c (.q 7 [] (.fa 1 (.t 2))) (.c (.q 8 [] (.ld (.t 7))) (.c (.q 9 [] (.mv (.t 1))) (.c (.q 10 [] (.bld [(S []), (.int .i64 0), (.slice none 0 0)] [(0, 0, (.t 6)), (1, 0, (.t 8)), (2, 0, (.t 9))])) (.c (.e none [] (.st 3 (.t 4) (.t 10))) .nil)))))))) .ret)
def t113_1 := b113_1
theorem u113_1 : vcK P t113_1 k e w = vcK P b113_1 k e w := rfl
abbrev b113_0 : X := (.seq (.reg [1, 2, 4] (.c (.e (some 2) [] (.box 44 (.t 0))) (.c (.e (some 4) [] (.al 44 [(S []), (.int .i64 0), (.slice none 0 0)])) .nil))) t113_1)
def x_iwithChanges := b113_0
theorem u113_0 : vcK P x_iwithChanges k e w = vcK P b113_0 k e w := rfl
def r_iwithChanges : List XO := [(.lda 3 (.t 4))]
theorem c_iwithChanges : convF Try.prog [38, 39, 41, 42, 49, 54, 55, 57, 58, 59, 79, 81, 84, 87, 139] Try.f113 [([1, 2, 4], []), ([4], [])] = some (x_iwithChanges, r_iwithChanges) := by kernel_rfl
def us_iwithChanges :=  (aI @u113_0 @u113_1)
end

theorem iwithChanges_ok (nm : List UInt8) (st : Int) (v u : Value) (w : World) (hu : u.oneCell' = true) (hc : oneC u) : Fn 113 [mV nm st v, u] w (fun r _ => r = mV nm st u) := by
  (refine callsV_of mix Try.func113 c_iwithChanges ?_; simp only [↓vsd, vsn, gW, qd, qv, ev, pick, argE, zipE, ne_eq, eq_self, forall_const, implies_true, if_true, if_false, reduceIte, reduceCtorEq, Nat.reduceEqDiff, Nat.reduceAdd, Nat.reduceLT, ↓us_iwithChanges, r_iwithChanges])
  refine m_al ?_
  rintro b1 w1 hb1 hblk1 hx1 hs1
  have h1 : Blk w1 b1 (fM nm st v) 44 := hblk1
  simp only [↓vsd, vsn, gW, qd, qv, ev, pick, argE, zipE, ne_eq, eq_self, forall_const, implies_true, if_true, if_false, reduceIte, reduceCtorEq, Nat.reduceEqDiff, Nat.reduceAdd, Nat.reduceLT, ↓us_iwithChanges, r_iwithChanges, h1.facts, fMg]
  refine m_al ?_
  rintro b2 w2 hb2 hblk2 hx2 hs2
  have h12 := h1.ext hx2
  simp only [↓vsd, vsn, gW, qd, qv, ev, pick, argE, zipE, ne_eq, eq_self, forall_const, implies_true, if_true, if_false, reduceIte, reduceCtorEq, Nat.reduceEqDiff, Nat.reduceAdd, Nat.reduceLT, ↓us_iwithChanges, r_iwithChanges, h12.facts, fMg]
  refine ⟨hc, m_st hblk2 rfl (Nat.le_refl 3) (fM_one nm st u hu) ?_⟩
  rintro w3 hblk3 hu3
  have h3 : Blk w3 b2 (fM nm st u) 44 := hblk3
  have hx3 : Ext w w3 := hu3.below (hx1.trans hx2) (by omega)
  simp only [↓vsd, vsn, gW, qd, qv, ev, pick, argE, zipE, ne_eq, eq_self, forall_const, implies_true, if_true, if_false, reduceIte, reduceCtorEq, Nat.reduceEqDiff, Nat.reduceAdd, Nat.reduceLT, ↓us_iwithChanges, r_iwithChanges, h3.facts, fMg]
  exact hx3
end Go.Proofs.Ytfklonhjgkahdaa
