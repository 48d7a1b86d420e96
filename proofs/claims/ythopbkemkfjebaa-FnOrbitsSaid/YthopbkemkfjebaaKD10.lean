/-
  The drawing of changes.
  Conditions: none.
-/
import Derived.Test.YthopbkemkfjebaaKA11
import Derived.Test.YthopbkemkfjebaaKD2
import Derived.Test.YthopbkemkfjebaaKPd
import Derived.Test.YthopbkemkfjebaaKVn
set_option linter.unusedSimpArgs false
set_option linter.unusedVariables false
set_option linter.defProp false
namespace Go.Proofs.Ythopbkemkfjebaa
open Go Go.RowKit
section
variable (P : Program) (k : KT) (e : Env) (w : World)
abbrev b136_1 : X := (.seq (.reg [2] (.c (.e (some 3) [] (.bsl 9 1 [])) (.c (.q 4 [] (.mv (.t 0))) (.c (.e (some 5) [] (.app 24 9 1 16 [(S [])] 24 (.t 3) (.t 4))) (.c (.q 2 [] (.mv (.t 5))) .nil))))) .ret)
def t136_1 := b136_1
theorem u136_1 : vcK P t136_1 k e w = vcK P b136_1 k e w := rfl
abbrev b136_0 : X := (.seq (.reg [0] (.c (.q 2 [] (.mv (.c (.slice none 0 0)))) .nil)) t136_1)
def x_sl1OwnS := b136_0
theorem u136_0 : vcK P x_sl1OwnS k e w = vcK P b136_0 k e w := rfl
def r_sl1OwnS : List XO := [(.mv (.t 2))]
theorem c_sl1OwnS : convF Try.prog [54, 55, 58, 69, 70, 71, 72, 73, 84, 89, 94, 95, 113, 114, 115, 130, 134, 143, 146, 161] Try.f136 [([0], []), ([2], [])] = some (x_sl1OwnS, r_sl1OwnS) := by kernel_rfl
def us_sl1OwnS :=  (aI @u136_0 @u136_1)
end
theorem sl1OwnS_ok (v : Value) (l : List (List UInt8)) (hl : l.length ≤ 1000000) (w : World) (h : Sq fS 1 w v l) : Fn 136 [v] w (fun r w' => Own fS 1 9 w.heap.size w' r l) := by
  (refine callsV_of mix Try.func136 c_sl1OwnS ?_; simp only [↓vsd, vsn, gW, qd, qv, ev, pick, argE, zipE, ne_eq, eq_self, forall_const, implies_true, if_true, if_false, reduceIte, reduceCtorEq, Nat.reduceEqDiff, Nat.reduceAdd, Nat.reduceLT, ↓us_sl1OwnS, r_sl1OwnS])
  refine m_bsl (by simp) ?_
  rintro b w1 hb hblk hx1 hs1
  simp only [↓vsd, vsn, gW, qd, qv, ev, pick, argE, zipE, ne_eq, eq_self, forall_const, implies_true, if_true, if_false, reduceIte, reduceCtorEq, Nat.reduceEqDiff, Nat.reduceAdd, Nat.reduceLT, ↓us_sl1OwnS, r_sl1OwnS]
  refine m_app (Own.empty (B := w.heap.size) fS_len hblk (by omega)) (h.ext hx1) fS_one (by decide) (by simp; omega) (by decide) hx1.size ?_
  rintro v2 w2 ho2 hg2
  simp only [↓vsd, vsn, gW, qd, qv, ev, pick, argE, zipE, ne_eq, eq_self, forall_const, implies_true, if_true, if_false, reduceIte, reduceCtorEq, Nat.reduceEqDiff, Nat.reduceAdd, Nat.reduceLT, ↓us_sl1OwnS, r_sl1OwnS]
  exact ⟨(Own.empty (B := w.heap.size) fS_len hblk (by omega)).grown hx1 (Nat.le_refl _) hg2, ho2⟩
end Go.Proofs.Ythopbkemkfjebaa
