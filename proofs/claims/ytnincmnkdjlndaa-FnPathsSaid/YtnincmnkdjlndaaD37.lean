/-
  The drawing of place bells and of paths.
  Conditions: none.
-/
import Derived.Test.YtnincmnkdjlndaaD15
import Derived.Test.YtnincmnkdjlndaaA50
set_option linter.unusedSimpArgs false
set_option linter.unusedVariables false
set_option linter.defProp false
namespace Go.Proofs.Ytnincmnkdjlndaa
open Go Go.RowKit
section
variable (P : Program) (k : KT) (e : Env) (w : World)
abbrev b29_1 : X := (.seq (.reg [2, 3] (.c (.q 8 [] (.mv (.t 4))) (.c (.e (some 9) [] (.call true 152 [(.t 8)])) (.c (.q 10 [] (.mv (.t 4))) (.c (.e (some 11) [] (.call true 148 [(.t 10), (.c (.int .i64 6))])) (.c (.q 12 [] (.bin .add (.c (.int .i64 1)) (.t 11))) (.c (.q 13 [] (.mv (.t 4))) (.c (.e (some 14) [] (.call true 148 [(.t 13), (.c (.int .i64 20))])) (.c (.q 15 [] (.bin .quo (.t 14) (.c (.int .i64 19)))) (.c (.q 16 [] (.bin .sub (.t 12) (.t 15))) (.c (.e none [] (.st 3 (.t 2) (.t 9))) (.c (.q 3 [] (.mv (.t 16))) .nil)))))))))))) .ret)
def t29_1 := b29_1
theorem u29_1 : vcK P t29_1 k e w = vcK P b29_1 k e w := rfl
abbrev b29_2 : X := (.seq (.reg [2, 4] (.c (.q 5 [] (.mv (.t 0))) (.c (.q 6 [] (.bld [(.slice none 0 0), (.int .i64 0), (.int .u64 0)] [(0, 0, (.t 5))])) (.c (.e (some 7) [] (.box 121 (.t 6))) (.c (.q 4 [] (.mv (.t 7))) .nil))))) t29_1)
def t29_2 := b29_2
theorem u29_2 : vcK P t29_2 k e w = vcK P b29_2 k e w := rfl
abbrev b29_0 : X := (.seq (.reg [0, 2] (.c (.e (some 2) [] (.al 26 [(S []), (.int .i64 0), (.slice none 0 0)])) (.c (.q 3 [] (.mv (.c (.int .i64 0)))) .nil))) t29_2)
def x_sDrawPathOf := b29_0
theorem u29_0 : vcK P x_sDrawPathOf k e w = vcK P b29_0 k e w := rfl
def r_sDrawPathOf : List XO := [(.lda 3 (.t 2)), (.mv (.t 3))]
theorem c_sDrawPathOf : convF Try.prog [147, 148, 152, 160, 162, 163, 170, 178, 206, 208, 210, 224, 233, 235, 236, 251, 264, 265, 268, 270, 287, 322] Try.f29 [([0, 2], []), ([2, 4], []), ([2, 3], [])] = some (x_sDrawPathOf, r_sDrawPathOf) := by kernel_rfl
def us_sDrawPathOf :=  (aI @u29_0 (aI @u29_1 @u29_2))
end

/-- The blocks of such a drawing: the result b2; the method in b6. -/
structure MP (w0 : World) (B b2 b6 : Nat) (c2 cm : List Value) (x : Value) (cs : List (List UInt8)) (w : World) : Prop where
  r2 : Blk w b2 c2 26
  m : Blk w b6 cm 26
  own : Own fS 1 9 B w x cs
  ex : Ext w0 w
  lo : w0.heap.size ≤ b2 ∧ b2 < B ∧ B ≤ b6
section
variable {w0 : World} {B b b2 b6 : Nat} {c2 cm c' : List Value} {x : Value} {cs : List (List UInt8)} {w w' : World}
theorem MP.draw (h : MP w0 B b2 b6 c2 cm x cs w) (hg : w.grownBy w' (some b)) (hb : w0.heap.size ≤ b ∧ b ≠ b2 ∧ b ≠ b6) (ha : Away x b) : MP w0 B b2 b6 c2 cm x cs w' := by
  have hl := h.lo
  have key : ∀ c, c ≠ b → c < w.heap.size → w'.heap[c]? = w.heap[c]? := fun c hc hlt => hg.block c hlt (fun e => hc (Option.some.inj e))
  exact ⟨h.r2.same (key _ (by omega) h.r2.lt), h.m.same (key _ (by omega) h.m.lt), h.own.off hg (fun c hc => by obtain rfl := Option.some.inj hc; exact ha), ext_grow' h.ex hg (fun c hc => by have := Option.some.inj hc; omega), hl⟩
theorem MP.ext (h : MP w0 B b2 b6 c2 cm x cs w) (hx : Ext w w') : MP w0 B b2 b6 c2 cm x cs w' := ⟨h.r2.ext hx, h.m.ext hx, h.own.ext hx, h.ex.trans hx, h.lo⟩
theorem MP.st2 (h : MP w0 B b2 b6 c2 cm x cs w) (hu : Upd w w' b2) (hb : Blk w' b2 c' 26) : MP w0 B b2 b6 c' cm x cs w' := by
  have hl := h.lo
  exact ⟨hb, hu.blk h.m (by omega), h.own.upd hu (h.own.away' (by omega)), hu.below h.ex (by omega), hl⟩
end
def AnyP (B : Nat) (r : Value) (w' : World) : Prop := ∃ nm st x cs, ∃ b : Int, r = .tuple ⟨[mV nm st x, .int .i64 b]⟩ ∧ Own fS 1 9 B w' x cs ∧ nm.length ≤ 11 ∧ (2 ≤ st ∧ st ≤ 9) ∧ cs.length ≤ 60 ∧ (∀ c ∈ cs, c.length ≤ 8)
theorem sDrawPathOf_ok (v : Value) (code : List UInt8) (hl : code.length ≤ 1048576) (w : World) (h : Sq fU 1 w v code) : Fn 29 [v] w (fun r w' => AnyP w.heap.size r w') := by
  (refine callsV_of mix Try.func29 c_sDrawPathOf ?_; simp only [↓vsd, vsn, gW, qd, qv, ev, pick, argE, zipE, ne_eq, eq_self, forall_const, implies_true, if_true, if_false, reduceIte, reduceCtorEq, Nat.reduceEqDiff, Nat.reduceAdd, Nat.reduceLT, ↓us_sDrawPathOf, r_sDrawPathOf])
  refine m_al ?_
  rintro b2 w2 hb2 hblk2 hx2 hs2
  have h2 := h.ext hx2
  simp only [↓vsd, vsn, gW, qd, qv, ev, pick, argE, zipE, ne_eq, eq_self, forall_const, implies_true, if_true, if_false, reduceIte, reduceCtorEq, Nat.reduceEqDiff, Nat.reduceAdd, Nat.reduceLT, ↓us_sDrawPathOf, r_sDrawPathOf, h2.facts]
  refine m_al ?_
  rintro bc w4 hbc hblk4 hx4 hs4
  have hc := Cur.new h2 hl hbc hblk4 hx4
  have hlt := hc.lt
  simp only [↓vsd, vsn, gW, qd, qv, ev, pick, argE, zipE, ne_eq, eq_self, forall_const, implies_true, if_true, if_false, reduceIte, reduceCtorEq, Nat.reduceEqDiff, Nat.reduceAdd, Nat.reduceLT, ↓us_sDrawPathOf, r_sDrawPathOf]
  refine m_callw (.inl rfl) (sl1Cur_anyMethod_ok w2 bc _ w4 (by omega) hc) ?_
  rintro _ w5 ⟨hc5, hg5, nm, st, x, cs, rfl, ho5, hnm, hst, hcs, hc8⟩
  simp only [↓vsd, vsn, gW, qd, qv, ev, pick, argE, zipE, ne_eq, eq_self, forall_const, implies_true, if_true, if_false, reduceIte, reduceCtorEq, Nat.reduceEqDiff, Nat.reduceAdd, Nat.reduceLT, ↓us_sDrawPathOf, r_sDrawPathOf]
  have hb5 := (Blk.ext hblk2 hx4).same (hg5.block b2 (Blk.ext hblk2 hx4).lt (fun e => by have := Option.some.inj e; omega))
  have hBb : ∀ c, some bc = some c → c < w4.heap.size := fun c hc => by obtain rfl := Option.some.inj hc; exact hlt.2
  refine m_callw (.inl rfl) (sl1Cur_pick_ok w2 bc _ 6 (by omega) w5 (by omega) hc5) ?_
  rintro _ w6 ⟨hc6, hg6, p, rfl, hp⟩
  have hb6 := hb5.same (hg6.block b2 hb5.lt (fun e => by have := Option.some.inj e; omega))
  have ho6 := ho5.keep hg6 hBb
  simp only [↓vsd, vsn, gW, qd, qv, ev, pick, argE, zipE, ne_eq, eq_self, forall_const, implies_true, if_true, if_false, reduceIte, reduceCtorEq, Nat.reduceEqDiff, Nat.reduceAdd, Nat.reduceLT, ↓us_sDrawPathOf, r_sDrawPathOf]
  refine ⟨inR_i64 (by omega), m_callw (.inl rfl) (sl1Cur_pick_ok w2 bc _ 20 (by omega) w6 (by omega) hc6) ?_⟩
  rintro _ w7 ⟨hc7, hg7, q, rfl, hq⟩
  have hb7 := hb6.same (hg7.block b2 hb6.lt (fun e => by have := Option.some.inj e; omega))
  have ho7 := ho6.keep hg7 hBb
  have hx7 : Ext w w7 := hx2.trans hc7.base
  have hdiv : 0 ≤ (q : Int).tdiv 19 ∧ (q : Int).tdiv 19 ≤ 20 := by
    have e : (q : Int).tdiv 19 = ((q / 19 : Nat) : Int) := (Int.ofNat_tdiv q 19).symm
    rw [e]
    omega
  simp only [↓vsd, vsn, gW, qd, qv, ev, pick, argE, zipE, ne_eq, eq_self, forall_const, implies_true, if_true, if_false, reduceIte, reduceCtorEq, Nat.reduceEqDiff, Nat.reduceAdd, Nat.reduceLT, ↓us_sDrawPathOf, r_sDrawPathOf]
  refine ⟨⟨by decide, inR_i64 (by omega)⟩, inR_i64 (by omega), ?_⟩
  refine m_st hb7 rfl (Nat.le_refl 3) (fM_one nm st x ho7.sq.one') ?_
  rintro w8 hblk8 hu8
  have hb8 : Blk w8 b2 (fM nm st x) 26 := hblk8
  simp only [↓vsd, vsn, gW, qd, qv, ev, pick, argE, zipE, ne_eq, eq_self, forall_const, implies_true, if_true, if_false, reduceIte, reduceCtorEq, Nat.reduceEqDiff, Nat.reduceAdd, Nat.reduceLT, ↓us_sDrawPathOf, r_sDrawPathOf, hb8.facts, fMg]
  exact ⟨hu8.below hx7 (by omega), nm, st, x, cs, _, rfl, (ho7.upd hu8 (ho7.away' (by omega))).mono (hx2.trans hx4).size, hnm, hst, hcs, hc8⟩
theorem cp_bd {n : Nat} (hn : 3 ≤ n ∧ n ≤ 8) (cs : List (List UInt8)) (l : List Int) : ∀ q ∈ cpL n cs l, -1000 ≤ q ∧ q ≤ 1000 := fun q hq => by
  obtain ⟨b, _, hq⟩ := List.mem_flatMap.1 hq
  have hq := List.mem_of_mem_take hq
  obtain ⟨r, hr, rfl⟩ := List.mem_map.1 hq
  have hrow := rowsU_rows (roundsL_row n hn) cs _ r hr
  have h8 := hrow.1.1
  rcases plcL_is r b with h | h
  · rw [h.1]; omega
  · have := h.2.1; omega
end Go.Proofs.Ytnincmnkdjlndaa
