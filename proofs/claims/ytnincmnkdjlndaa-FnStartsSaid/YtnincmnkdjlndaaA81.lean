/-
  Methods that begin with another change, methods turned round, and equal methods, of both sides.
  Conditions: none.
-/
import Derived.Test.YtnincmnkdjlndaaVu
import Derived.Test.YtnincmnkdjlndaaD3
import Derived.Test.YtnincmnkdjlndaaA22
import Derived.Test.YtnincmnkdjlndaaA41
set_option linter.unusedSimpArgs false
set_option linter.unusedVariables false
set_option linter.defProp false
namespace Go.Proofs.Ytnincmnkdjlndaa
open Go Go.RowKit
/-- An append to a slice that the region itself has made: nothing that was there is written. -/
theorem m_apfN {α : Type} {f : α → List Value} {z : Nat} {E : TypeId} {B : Nat} {w : World} {v : Value} {l : List α} {P : Program} {m : Option World} {ps : List Nat} {k : KT} {r : XT} {d : Option Nat} {e : EL} {T bytes : Nat} {zero : List Value} {ty : TypeId} {x : Value} {l' : List α}
    (ho : Own f z E B w v l) (hx : Sq f z w x l') (h1 : ∀ a, ∀ u ∈ f a, u.oneCell' = true) (hz : zero.length = z ∧ 0 < z) (hn : l.length + l'.length ≤ 1000000000) (hb : bytes ≤ 100000) (hB : B ≤ w.heap.size) (hm : ∀ w0, m = some w0 → w0.heap.size ≤ B)
    (h : ∀ v' w', Own f z E B w' v' (l ++ l') → w.grownBy w' v.ownBlock → (∀ b, v'.ownBlock = some b → v.ownBlock = some b ∨ w.heap.size ≤ b) → ∀ q, ops P m ps k r (setO ⟨e, q⟩ d v') w') : apfL P m ps k r d e w T E z bytes zero ty v x := by
  unfold apfL apfK runK
  rintro q ⟨hul, i, z0, hi, hs, hby, hz0, hcs⟩
  have hsz : z0.cells.size = z := by rw [← hz.1, ← hcs]; exact Array.size_eq_length_toList
  have hnews : ∀ u ∈ l'.flatMap f, u.oneCell' = true := fun u hu => by obtain ⟨a, _, ha⟩ := List.mem_flatMap.1 hu; exact h1 a u ha
  have hml : l.length + l'.length ≤ maxLen := by unfold maxLen; omega
  have hbb : (l.length + l'.length) * bytes ≤ 140737488355328 := Nat.le_trans (Nat.mul_le_mul hn hb) (by decide)
  rcases hx.2.2 with ⟨rfl, h0⟩ | ⟨a, c, rfl, hnc, hc⟩
  · obtain rfl : l' = [] := List.length_eq_zero_iff.1 h0
    have hr : (Builtin.append_ #[T, T] ty #[v, .slice none 0 0]).run P w = .ok v w := by
      rcases ho.2 with ⟨rfl, _⟩ | ⟨g, cap, cur, rfl, _, _, hle, _⟩
      · simp [Builtin.append_, run_underlying hul, sizeOf, typeInfo, hi, Builtin.lenOf, Builtin.firstCells]
      · simp [Builtin.append_, run_underlying hul, sizeOf, typeInfo, hi, Builtin.lenOf, Builtin.firstCells, hle, storeCells]
    exact ⟨v, w, hr, fun _ _ _ hx0 => hx0, h v w (by simpa using ho) ⟨rfl, rfl, rfl, Nat.le_refl _, fun _ _ _ => rfl⟩ (fun _ h => .inl h) q⟩
  · rcases ho.2 with ⟨rfl, rfl⟩ | ⟨g, cap, cur, rfl, hg, hblk, hle, hcm, hcl, hct⟩
    · obtain ⟨v', w', hr, hw, hg, _⟩ := run_append_own (P := P) w w.heap.size T ty E i z0 z bytes hul hi hz0 hs hby hsz hz.2 (.slice none 0 0) 0 [] (World.ownsRow_nil w _ E z) a l'.length c (l'.flatMap f) hx.2.1
        hc hnews (by simpa using hml) (by simpa using hbb) (Nat.le_refl _)
      refine ⟨v', w', hr, fun w0 e _ hx0 => ho.grown hx0 (hm w0 e) hg, h v' w' (?_ : Own f z E B w' v' ([] ++ l')) hg (fun b hb => .inr (Own.bound (Own.of (B := w.heap.size) ho.1 (by rw [Nat.zero_add, List.nil_append] at hw; exact hw) (Nat.le_refl _)) b hb).1) q⟩
      rw [Nat.zero_add, List.nil_append] at hw
      rw [List.nil_append]
      exact Own.of ho.1 hw hB
    · by_cases hroom : l.length + l'.length ≤ cap
      · have hfl := flat_len ho.1 l'
        have hmul : l.length * z + l'.length * z ≤ cap * z := by rw [← Nat.add_mul]; exact Nat.mul_le_mul_right z hroom
        subst hs
        have hr := run_append_room_cells (P := P) w T ty E i hul hi g 0 l.length cap a l'.length c (l'.flatMap f) hx.2.1 hc hnews hroom
          (fun j hj => by rw [hblk.cell, List.getElem?_eq_getElem (by omega)]; rfl) (fun j hj => hblk.frozen _ (by omega))
        obtain ⟨_, hb', hu⟩ := storeCells_run (P := P) (off := 0 + l.length * i.size) (vs := l'.flatMap f) hblk (by omega) hnews
        refine ⟨_, _, hr, fun w0 e _ hx0 => ho.grown hx0 (hm w0 e) hu.grown, h _ _ ⟨ho.1, .inr ⟨g, cap, _, by rw [List.length_append], hg, hb', by rw [List.length_append]; exact hroom, hcm, by rw [spl_len _ _ _ (by omega)]; exact hcl, ?_⟩⟩ hu.grown (fun b hb2 => .inl (by simpa only [Value.ownBlock] using hb2)) q⟩
        rw [List.length_append, Nat.add_mul, ← hfl, List.flatMap_append, ← hct, Nat.zero_add]
        exact spl_head _ _ _ (by omega)
      · obtain ⟨v', w', hr, hw, hg'⟩ := run_append_arg_grows (P := P) w T ty E i z0 z bytes hul hi hz0 hs hby hsz hz.2 ⟨g, 0, none⟩ l.length cap (l.flatMap f) (flat_len ho.1 l)
          (fun j u hj => by
            rw [← hct, List.getElem?_take] at hj
            rw [Addr.add_lit, Nat.zero_add, hblk.cell]
            split at hj
            · exact hj
            · cases hj)
          a l'.length c (l'.flatMap f) hx.2.1 hc (by omega) hml hbb
        refine ⟨v', w', hr, fun w0 e _ hx0 => ho.grown hx0 (hm w0 e) ⟨hg'.os, hg'.tape, hg'.output, hg'.size, fun k hk _ => hg'.block k hk (Option.some_ne_none _)⟩, h v' w' (Own.of ho.1 (by rw [List.length_append, List.flatMap_append]; exact hw) hB) ⟨hg'.os, hg'.tape, hg'.output, hg'.size, fun k hk _ => hg'.block k hk (Option.some_ne_none _)⟩ (fun b hb => .inr (Own.bound (Own.of (B := w.heap.size) ho.1 (by rw [List.length_append, List.flatMap_append]; exact hw) (Nat.le_refl _)) b hb).1) q⟩
section
variable (P : Program) (k : KT) (e : Env) (w : World)
abbrev b308_1 : X := (.cond (.t 6) .dead .skip)
def t308_1 := b308_1
theorem u308_1 : vcK P t308_1 k e w = vcK P b308_1 k e w := rfl
abbrev b308_2 : X := (.cond (.t 16) (.reg [0] (.c (.q 17 [] (.mv (.t 0))) (.c (.q 18 [] (.mv (.t 0))) (.c (.q 19 [] (.caps (.t 18))) (.c (.q 20 [] (.ssl 1 (.t 17) none (some (.t 19)))) (.c (.q 21 [] (.mv (.t 1))) (.c (.e (some 22) [] (.apz 24 3 9 1 16 [(S [])] 24 (.t 20) (.t 21))) (.c (.q 23 [] (.mv (.t 0))) (.c (.q 24 [] (.lens (.t 23))) (.c (.q 25 [] (.ssl 1 (.t 22) none (some (.t 24)))) (.c (.q 0 [] (.mv (.t 25))) .nil))))))))))) .skip)
def t308_2 := b308_2
theorem u308_2 : vcK P t308_2 k e w = vcK P b308_2 k e w := rfl
abbrev b308_3 : X := (.seq (.reg [0, 1, 16] (.c (.q 15 [] (.mv (.t 1))) (.c (.q 16 [] (.bin .gtr (.t 15) (.c (.int .i64 0)))) .nil))) t308_2)
def t308_3 := b308_3
theorem u308_3 : vcK P t308_3 k e w = vcK P b308_3 k e w := rfl
abbrev b308_4 : X := (.seq (.reg [4] (.c (.q 26 [] (.mv (.t 0))) (.c (.q 4 [] (.mv (.t 26))) .nil))) .ret)
def t308_4 := b308_4
theorem u308_4 : vcK P t308_4 k e w = vcK P b308_4 k e w := rfl
abbrev b308_5 : X := (.seq (.seq (.reg [0, 1] (.c (.q 8 [] (.mv (.t 1))) (.c (.q 9 [] (.mv (.t 0))) (.c (.q 10 [] (.caps (.t 9))) (.c (.q 11 [] (.mv (.t 0))) (.c (.q 12 [] (.lens (.t 11))) (.c (.q 13 [] (.bin .sub (.t 10) (.t 12))) (.c (.q 14 [] (.bin .sub (.t 8) (.t 13))) (.c (.q 1 [] (.mv (.t 14))) .nil))))))))) t308_3) t308_4)
def t308_5 := b308_5
theorem u308_5 : vcK P t308_5 k e w = vcK P b308_5 k e w := rfl
abbrev b308_6 : X := (.seq (.seq (.reg [0, 1, 6] (.c (.q 5 [] (.mv (.t 1))) (.c (.q 6 [] (.bin .lss (.t 5) (.c (.int .i64 0)))) .nil))) t308_1) t308_5)
def t308_6 := b308_6
theorem u308_6 : vcK P t308_6 k e w = vcK P b308_6 k e w := rfl
abbrev b308_0 : X := (.seq (.reg [0, 1] (.c (.q 4 [] (.mv (.c (.slice none 0 0)))) .nil)) t308_6)
def x_xslices_Grow_string_string := b308_0
theorem u308_0 : vcK P x_xslices_Grow_string_string k e w = vcK P b308_0 k e w := rfl
def r_xslices_Grow_string_string : List XO := [(.mv (.t 4))]
theorem c_xslices_Grow_string_string : convF Try.prog [147, 148, 152, 160, 162, 163, 170, 178, 206, 208, 210, 224, 233, 235, 236, 251, 264, 265, 268, 270, 287, 322] Try.f308 [([0, 1], []), ([0, 1, 6], []), ([0, 1], []), ([0, 1], []), ([0, 1, 16], []), ([0], []), ([4], [])] = some (x_xslices_Grow_string_string, r_xslices_Grow_string_string) := by kernel_rfl
def us_xslices_Grow_string_string :=  (aI (aI @u308_0 (aI @u308_1 @u308_2)) (aI (aI @u308_3 @u308_4) (aI @u308_5 @u308_6)))
abbrev b274_1 : X := (.cond (.t 20) .dead .skip)
def t274_1 := b274_1
theorem u274_1 : vcK P t274_1 k e w = vcK P b274_1 k e w := rfl
abbrev b274_2 : X := (.seq (.reg [0, 3, 9, 10, 11, 20] (.c (.q 19 [] (.mv (.t 3))) (.c (.q 20 [] (.bin .lss (.t 19) (.c (.int .i64 0)))) .nil))) t274_1)
def t274_2 := b274_2
theorem u274_2 : vcK P t274_2 k e w = vcK P b274_2 k e w := rfl
abbrev b274_3 : X := (.seq (.reg [0, 3, 9, 10, 11] (.c (.q 15 [] (.mv (.t 3))) (.c (.q 16 [] (.mv (.t 5))) (.c (.q 17 [] (.lens (.t 16))) (.c (.q 18 [] (.bin .add (.t 15) (.t 17))) (.c (.q 3 [] (.mv (.t 18))) .nil)))))) t274_2)
def t274_3 := b274_3
theorem u274_3 : vcK P t274_3 k e w = vcK P b274_3 k e w := rfl
abbrev b274_4 : X := (.reg [0, 3, 9, 10, 11] (.c (.q 22 [] (.bin .add (.t 11) (.c (.int .i64 1)))) (.c (.q 11 [] (.mv (.t 22))) .nil)))
def t274_4 := b274_4
theorem u274_4 : vcK P t274_4 k e w = vcK P b274_4 k e w := rfl
abbrev b274_5 : X := (.seq (.blk 1 (.seq (.reg [0, 3, 5, 9, 10, 11] (.c (.q 13 [] (.ia 1 (.t 9) (.t 11))) (.c (.q 14 [] (.ld (.t 13))) (.c (.q 5 [] (.mv (.t 14))) .nil)))) t274_3)) t274_4)
def t274_5 := b274_5
theorem u274_5 : vcK P t274_5 k e w = vcK P b274_5 k e w := rfl
abbrev b274_6 : X := (.seq (.cond (.t 12) .skip (.exit 0)) t274_5)
def t274_6 := b274_6
theorem u274_6 : vcK P t274_6 k e w = vcK P b274_6 k e w := rfl
abbrev b274_7 : X := (.seq (.reg [0, 3, 9, 10, 11, 12] (.c (.q 12 [] (.bin .lss (.t 11) (.t 10))) .nil)) t274_6)
def t274_7 := b274_7
theorem u274_7 : vcK P t274_7 k e w = vcK P b274_7 k e w := rfl
abbrev b274_8 : X := (.blk 0 (.loop [3, 11] [0, 9, 10] t274_7))
def t274_8 := b274_8
theorem u274_8 : vcK P t274_8 k e w = vcK P b274_8 k e w := rfl
abbrev b274_9 : X := (.reg [6, 25, 26, 27] (.c (.q 31 [] (.mv (.t 6))) (.c (.q 32 [] (.mv (.t 8))) (.c (.e (some 33) [] (.app 24 9 1 16 [(S [])] 24 (.t 31) (.t 32))) (.c (.q 6 [] (.mv (.t 33))) .nil)))))
def t274_9 := b274_9
theorem u274_9 : vcK P t274_9 k e w = vcK P b274_9 k e w := rfl
abbrev b274_10 : X := (.reg [6, 25, 26, 27] (.c (.q 34 [] (.bin .add (.t 27) (.c (.int .i64 1)))) (.c (.q 27 [] (.mv (.t 34))) .nil)))
def t274_10 := b274_10
theorem u274_10 : vcK P t274_10 k e w = vcK P b274_10 k e w := rfl
abbrev b274_11 : X := (.seq (.blk 3 (.seq (.reg [6, 8, 25, 26, 27] (.c (.q 29 [] (.ia 1 (.t 25) (.t 27))) (.c (.q 30 [] (.ld (.t 29))) (.c (.q 8 [] (.mv (.t 30))) .nil)))) t274_9)) t274_10)
def t274_11 := b274_11
theorem u274_11 : vcK P t274_11 k e w = vcK P b274_11 k e w := rfl
abbrev b274_12 : X := (.seq (.cond (.t 28) .skip (.exit 2)) t274_11)
def t274_12 := b274_12
theorem u274_12 : vcK P t274_12 k e w = vcK P b274_12 k e w := rfl
abbrev b274_13 : X := (.seq (.reg [6, 25, 26, 27, 28] (.c (.q 28 [] (.bin .lss (.t 27) (.t 26))) .nil)) t274_12)
def t274_13 := b274_13
theorem u274_13 : vcK P t274_13 k e w = vcK P b274_13 k e w := rfl
abbrev b274_14 : X := (.blk 2 (.loop [6, 27] [25, 26] t274_13))
def t274_14 := b274_14
theorem u274_14 : vcK P t274_14 k e w = vcK P b274_14 k e w := rfl
abbrev b274_15 : X := (.seq (.reg [2] (.c (.q 35 [] (.mv (.t 6))) (.c (.q 2 [] (.mv (.t 35))) .nil))) .ret)
def t274_15 := b274_15
theorem u274_15 : vcK P t274_15 k e w = vcK P b274_15 k e w := rfl
abbrev b274_16 : X := (.seq (.seq (.reg [6, 25, 26, 27] (.c (.q 25 [] (.mv (.t 0))) (.c (.q 26 [] (.lens (.t 25))) (.c (.q 27 [] (.mv (.c (.int .i64 0)))) .nil)))) t274_14) t274_15)
def t274_16 := b274_16
theorem u274_16 : vcK P t274_16 k e w = vcK P b274_16 k e w := rfl
abbrev b274_17 : X := (.seq (.reg [0, 6] (.c (.q 23 [] (.mv (.t 3))) (.c (.e (some 24) [] (.call false 308 [(.c (.slice none 0 0)), (.t 23)])) (.c (.q 6 [] (.mv (.t 24))) .nil)))) t274_16)
def t274_17 := b274_17
theorem u274_17 : vcK P t274_17 k e w = vcK P b274_17 k e w := rfl
abbrev b274_18 : X := (.seq (.seq (.reg [0, 3, 9, 10, 11] (.c (.q 9 [] (.mv (.t 0))) (.c (.q 10 [] (.lens (.t 9))) (.c (.q 11 [] (.mv (.c (.int .i64 0)))) .nil)))) t274_8) t274_17)
def t274_18 := b274_18
theorem u274_18 : vcK P t274_18 k e w = vcK P b274_18 k e w := rfl
abbrev b274_19 : X := (.seq (.reg [0, 3] (.c (.q 3 [] (.mv (.c (.int .i64 0)))) .nil)) t274_18)
def t274_19 := b274_19
theorem u274_19 : vcK P t274_19 k e w = vcK P b274_19 k e w := rfl
abbrev b274_0 : X := (.seq (.reg [0] (.c (.q 2 [] (.mv (.c (.slice none 0 0)))) .nil)) t274_19)
def x_xslices_Concat_string_string := b274_0
theorem u274_0 : vcK P x_xslices_Concat_string_string k e w = vcK P b274_0 k e w := rfl
def r_xslices_Concat_string_string : List XO := [(.mv (.t 2))]
theorem c_xslices_Concat_string_string : convF Try.prog [147, 148, 152, 160, 162, 163, 170, 178, 206, 208, 210, 224, 233, 235, 236, 251, 264, 265, 268, 270, 287, 322] Try.f274 [([0], []), ([0, 3], []), ([0, 3, 9, 10, 11], []), ([3, 11], [0, 9, 10]), ([0, 3, 9, 10, 11, 12], []), ([0, 3, 5, 9, 10, 11], []), ([0, 3, 9, 10, 11], []), ([0, 3, 9, 10, 11, 20], []), ([0, 3, 9, 10, 11], []), ([0, 3, 9, 10, 11], []), ([0, 6], []), ([6, 25, 26, 27], []), ([6, 27], [25, 26]), ([6, 25, 26, 27, 28], []), ([6, 8, 25, 26, 27], []), ([6, 25, 26, 27], []), ([6, 25, 26, 27], []), ([2], [])] = some (x_xslices_Concat_string_string, r_xslices_Concat_string_string) := by kernel_rfl
def us_xslices_Concat_string_string :=  (aI (aI (aI (aI @u274_0 @u274_1) (aI @u274_2 (aI @u274_3 @u274_4))) (aI (aI @u274_5 @u274_6) (aI @u274_7 (aI @u274_8 @u274_9)))) (aI (aI (aI @u274_10 @u274_11) (aI @u274_12 (aI @u274_13 @u274_14))) (aI (aI @u274_15 @u274_16) (aI @u274_17 (aI @u274_18 @u274_19)))))
abbrev b177_1 : X := (.seq (.drw [4] (.c (.q 5 [] (.mv (.t 0))) (.c (.q 6 [] (.mv (.t 1))) (.c (.q 7 [] (.ssl 1 (.t 5) (some (.t 6)) none)) (.c (.q 8 [] (.mv (.t 0))) (.c (.q 9 [] (.mv (.t 1))) (.c (.q 10 [] (.ssl 1 (.t 8) none (some (.t 9)))) (.c (.e (some 11) [] (.bsl 24 1 [(.t 7), (.t 10)])) (.c (.e (some 12) [] (.call false 274 [(.t 11)])) (.c (.q 4 [] (.mv (.t 12))) .nil)))))))))) .ret)
def t177_1 := b177_1
theorem u177_1 : vcK P t177_1 k e w = vcK P b177_1 k e w := rfl
abbrev b177_0 : X := (.seq (.reg [0, 1] (.c (.q 4 [] (.mv (.c (.slice none 0 0)))) .nil)) t177_1)
def x_irotated := b177_0
theorem u177_0 : vcK P x_irotated k e w = vcK P b177_0 k e w := rfl
def r_irotated : List XO := [(.mv (.t 4))]
theorem c_irotated : convF Try.prog [147, 148, 152, 160, 162, 163, 170, 178, 206, 208, 210, 224, 233, 235, 236, 251, 264, 265, 268, 270, 287, 322] Try.f177 [([0, 1], []), ([4], [])] = some (x_irotated, r_irotated) := by kernel_rfl
def us_irotated :=  (aI @u177_0 @u177_1)
abbrev b193_1 : X := (.cond (.t 10) (.seq (.reg [4] (.c (.q 4 [] (.mv (.c (.bool false)))) .nil)) .ret) .skip)
def t193_1 := b193_1
theorem u193_1 : vcK P t193_1 k e w = vcK P b193_1 k e w := rfl
abbrev b193_2 : X := (.cond (.t 24) (.seq (.reg [4] (.c (.q 4 [] (.mv (.c (.bool false)))) .nil)) .ret) .skip)
def t193_2 := b193_2
theorem u193_2 : vcK P t193_2 k e w = vcK P b193_2 k e w := rfl
abbrev b193_3 : X := (.seq (.drw [0, 1, 12, 13, 24] (.c (.q 16 [] (.mv (.t 0))) (.c (.q 17 [] (.mv (.t 5))) (.c (.q 18 [] (.ia 1 (.t 16) (.t 17))) (.c (.q 19 [] (.ld (.t 18))) (.c (.q 20 [] (.mv (.t 1))) (.c (.q 21 [] (.mv (.t 5))) (.c (.q 22 [] (.ia 1 (.t 20) (.t 21))) (.c (.q 23 [] (.ld (.t 22))) (.c (.q 24 [] (.bin .neq (.t 19) (.t 23))) .nil)))))))))) t193_2)
def t193_3 := b193_3
theorem u193_3 : vcK P t193_3 k e w = vcK P b193_3 k e w := rfl
abbrev b193_4 : X := (.reg [0, 1, 12, 13] (.c (.q 25 [] (.bin .add (.t 13) (.c (.int .i64 1)))) (.c (.q 13 [] (.mv (.t 25))) .nil)))
def t193_4 := b193_4
theorem u193_4 : vcK P t193_4 k e w = vcK P b193_4 k e w := rfl
abbrev b193_5 : X := (.seq (.blk 1 (.seq (.reg [0, 1, 5, 12, 13] (.c (.q 15 [] (.mv (.t 13))) (.c (.q 5 [] (.mv (.t 15))) .nil))) t193_3)) t193_4)
def t193_5 := b193_5
theorem u193_5 : vcK P t193_5 k e w = vcK P b193_5 k e w := rfl
abbrev b193_6 : X := (.seq (.cond (.t 14) .skip (.exit 0)) t193_5)
def t193_6 := b193_6
theorem u193_6 : vcK P t193_6 k e w = vcK P b193_6 k e w := rfl
abbrev b193_7 : X := (.seq (.reg [0, 1, 12, 13, 14] (.c (.q 14 [] (.bin .lss (.t 13) (.t 12))) .nil)) t193_6)
def t193_7 := b193_7
theorem u193_7 : vcK P t193_7 k e w = vcK P b193_7 k e w := rfl
abbrev b193_8 : X := (.blk 0 (.loop [13] [0, 1, 12] t193_7))
def t193_8 := b193_8
theorem u193_8 : vcK P t193_8 k e w = vcK P b193_8 k e w := rfl
abbrev b193_9 : X := (.seq (.reg [4] (.c (.q 4 [] (.mv (.c (.bool true)))) .nil)) .ret)
def t193_9 := b193_9
theorem u193_9 : vcK P t193_9 k e w = vcK P b193_9 k e w := rfl
abbrev b193_10 : X := (.seq (.seq (.reg [0, 1, 12, 13] (.c (.q 11 [] (.mv (.t 0))) (.c (.q 12 [] (.lens (.t 11))) (.c (.q 13 [] (.mv (.c (.int .i64 0)))) .nil)))) t193_8) t193_9)
def t193_10 := b193_10
theorem u193_10 : vcK P t193_10 k e w = vcK P b193_10 k e w := rfl
abbrev b193_11 : X := (.seq (.seq (.reg [0, 1, 10] (.c (.q 6 [] (.mv (.t 0))) (.c (.q 7 [] (.lens (.t 6))) (.c (.q 8 [] (.mv (.t 1))) (.c (.q 9 [] (.lens (.t 8))) (.c (.q 10 [] (.bin .neq (.t 7) (.t 9))) .nil)))))) t193_1) t193_10)
def t193_11 := b193_11
theorem u193_11 : vcK P t193_11 k e w = vcK P b193_11 k e w := rfl
abbrev b193_0 : X := (.seq (.reg [0, 1] (.c (.q 4 [] (.mv (.c (.bool false)))) .nil)) t193_11)
def x_xslices_Equal_string_string := b193_0
theorem u193_0 : vcK P x_xslices_Equal_string_string k e w = vcK P b193_0 k e w := rfl
def r_xslices_Equal_string_string : List XO := [(.mv (.t 4))]
theorem c_xslices_Equal_string_string : convF Try.prog [147, 148, 152, 160, 162, 163, 170, 178, 206, 208, 210, 224, 233, 235, 236, 251, 264, 265, 268, 270, 287, 322] Try.f193 [([0, 1], []), ([0, 1, 10], []), ([4], []), ([0, 1, 12, 13], []), ([13], [0, 1, 12]), ([0, 1, 12, 13, 14], []), ([0, 1, 5, 12, 13], []), ([0, 1, 12, 13, 24], []), ([4], []), ([0, 1, 12, 13], []), ([4], [])] = some (x_xslices_Equal_string_string, r_xslices_Equal_string_string) := by kernel_rfl
def us_xslices_Equal_string_string :=  (aI (aI (aI @u193_0 (aI @u193_1 @u193_2)) (aI @u193_3 (aI @u193_4 @u193_5))) (aI (aI @u193_6 (aI @u193_7 @u193_8)) (aI @u193_9 (aI @u193_10 @u193_11))))
abbrev b70_1 : X := (.seq (.reg [4] (.c (.q 5 [] (.fa 0 (.t 2))) (.c (.q 6 [] (.ld (.t 5))) (.c (.q 7 [] (.fa 0 (.t 3))) (.c (.q 8 [] (.ld (.t 7))) (.c (.q 9 [] (.bin .eql (.t 6) (.t 8))) (.c (.q 10 [] (.mv (.t 9))) (.c (.q 11 [(10, true)] (.fa 1 (.t 2))) (.c (.q 12 [(10, true)] (.ld (.t 11))) (.c (.q 13 [(10, true)] (.fa 1 (.t 3))) (.c (.q 14 [(10, true)] (.ld (.t 13))) (.c (.q 15 [(10, true)] (.bin .eql (.t 12) (.t 14))) (.c (.q 16 [] (.pick (.t 10) (.t 15) (.c (.bool false)))) (.c (.q 17 [] (.mv (.t 16))) (.c (.q 18 [(17, true)] (.fa 2 (.t 2))) (.c (.q 19 [(17, true)] (.ld (.t 18))) (.c (.q 20 [(17, true)] (.fa 2 (.t 3))) (.c (.q 21 [(17, true)] (.ld (.t 20))) (.c (.e (some 22) [(17, true)] (.call false 193 [(.t 19), (.t 21)])) (.c (.q 23 [] (.pick (.t 17) (.t 22) (.c (.bool false)))) (.c (.q 4 [] (.mv (.t 23))) .nil))))))))))))))))))))) .ret)
def t70_1 := b70_1
theorem u70_1 : vcK P t70_1 k e w = vcK P b70_1 k e w := rfl
abbrev b70_0 : X := (.seq (.reg [2, 3] (.c (.e (some 2) [] (.box 26 (.t 0))) (.c (.e (some 3) [] (.box 26 (.t 1))) (.c (.q 4 [] (.mv (.c (.bool false)))) .nil)))) t70_1)
def x_iSameMethod := b70_0
theorem u70_0 : vcK P x_iSameMethod k e w = vcK P b70_0 k e w := rfl
def r_iSameMethod : List XO := [(.mv (.t 4))]
theorem c_iSameMethod : convF Try.prog [147, 148, 152, 160, 162, 163, 170, 178, 206, 208, 210, 224, 233, 235, 236, 251, 264, 265, 268, 270, 287, 322] Try.f70 [([2, 3], []), ([4], [])] = some (x_iSameMethod, r_iSameMethod) := by kernel_rfl
def us_iSameMethod :=  (aI @u70_0 @u70_1)
abbrev b58_1 : X := (.cond (.t 19) (.seq (.reg [4, 5] (.c (.q 20 [] (.bld [(S []), (.int .i64 0), (.slice none 0 0)] [])) (.c (.e none [] (.st 3 (.t 4) (.t 20))) (.c (.q 5 [] (.mv (.c (.bool false)))) .nil)))) .ret) .skip)
def t58_1 := b58_1
theorem u58_1 : vcK P t58_1 k e w = vcK P b58_1 k e w := rfl
abbrev b58_2 : X := (.seq (.drw [4, 5] (.c (.q 21 [] (.lda 3 (.t 2))) (.c (.q 22 [] (.fa 2 (.t 2))) (.c (.q 23 [] (.ld (.t 22))) (.c (.q 24 [] (.mv (.t 1))) (.c (.e (some 25) [] (.call false 177 [(.t 23), (.t 24)])) (.c (.e (some 26) [] (.call false 184 [(.t 21), (.t 25)])) (.c (.e none [] (.st 3 (.t 4) (.t 26))) (.c (.q 5 [] (.mv (.c (.bool true)))) .nil))))))))) .ret)
def t58_2 := b58_2
theorem u58_2 : vcK P t58_2 k e w = vcK P b58_2 k e w := rfl
abbrev b58_3 : X := (.seq (.seq (.reg [1, 2, 4, 19] (.c (.q 6 [] (.lda 3 (.t 2))) (.c (.e (some 7) [] (.call false 135 [(.t 6)])) (.c (.q 8 [] (.not (.t 7))) (.c (.q 9 [] (.mv (.t 8))) (.c (.q 10 [(9, false)] (.mv (.t 1))) (.c (.q 11 [(9, false)] (.bin .lss (.t 10) (.c (.int .i64 0)))) (.c (.q 12 [] (.pick (.t 9) (.c (.bool true)) (.t 11))) (.c (.q 13 [] (.mv (.t 12))) (.c (.q 14 [(13, false)] (.mv (.t 1))) (.c (.q 15 [(13, false)] (.fa 2 (.t 2))) (.c (.q 16 [(13, false)] (.ld (.t 15))) (.c (.q 17 [(13, false)] (.lens (.t 16))) (.c (.q 18 [(13, false)] (.bin .geq (.t 14) (.t 17))) (.c (.q 19 [] (.pick (.t 13) (.c (.bool true)) (.t 18))) .nil))))))))))))))) t58_1) t58_2)
def t58_3 := b58_3
theorem u58_3 : vcK P t58_3 k e w = vcK P b58_3 k e w := rfl
abbrev b58_0 : X := (.seq (.reg [1, 2, 4] (.c (.e (some 2) [] (.box 26 (.t 0))) (.c (.e (some 4) [] (.al 26 [(S []), (.int .i64 0), (.slice none 0 0)])) (.c (.q 5 [] (.mv (.c (.bool false)))) .nil)))) t58_3)
def x_iStartAt := b58_0
theorem u58_0 : vcK P x_iStartAt k e w = vcK P b58_0 k e w := rfl
def r_iStartAt : List XO := [(.lda 3 (.t 4)), (.mv (.t 5))]
theorem c_iStartAt : convF Try.prog [147, 148, 152, 160, 162, 163, 170, 178, 206, 208, 210, 224, 233, 235, 236, 251, 264, 265, 268, 270, 287, 322] Try.f58 [([1, 2, 4], []), ([1, 2, 4, 19], []), ([4, 5], []), ([4, 5], [])] = some (x_iStartAt, r_iStartAt) := by kernel_rfl
def us_iStartAt :=  (aI (aI @u58_0 @u58_1) (aI @u58_2 @u58_3))
abbrev b185_1 : X := (.seq (.drw [4] (.c (.q 5 [] (.fa 0 (.t 2))) (.c (.q 6 [] (.ld (.t 5))) (.c (.q 7 [] (.fa 1 (.t 2))) (.c (.q 8 [] (.ld (.t 7))) (.c (.q 9 [] (.fa 2 (.t 2))) (.c (.q 10 [] (.ld (.t 9))) (.c (.q 11 [] (.mv (.t 1))) (.c (.q 12 [] (.ssl 1 (.t 10) (some (.t 11)) none)) (.c (.q 14 [] (.fa 2 (.t 2))) (.c (.q 15 [] (.ld (.t 14))) (.c (.q 16 [] (.mv (.t 1))) (.c (.q 17 [] (.ssl 1 (.t 15) none (some (.t 16)))) (.c (.e (some 13) [] (.call false 183 [(.t 12)])) (.c (.e (some 18) [] (.apf 24 9 1 16 [(S [])] 24 (.t 13) (.t 17))) (.c (.q 19 [] (.bld [(S []), (.int .i64 0), (.slice none 0 0)] [(0, 0, (.t 6)), (1, 0, (.t 8)), (2, 0, (.t 18))])) (.c (.e none [] (.st 3 (.t 4) (.t 19))) .nil))))))))))))))))) .ret)
def t185_1 := b185_1
theorem u185_1 : vcK P t185_1 k e w = vcK P b185_1 k e w := rfl
abbrev b185_0 : X := (.seq (.reg [1, 2, 4] (.c (.e (some 2) [] (.box 26 (.t 0))) (.c (.e (some 4) [] (.al 26 [(S []), (.int .i64 0), (.slice none 0 0)])) .nil))) t185_1)
def x_sl4Start := b185_0
theorem u185_0 : vcK P x_sl4Start k e w = vcK P b185_0 k e w := rfl
def r_sl4Start : List XO := [(.lda 3 (.t 4))]
theorem c_sl4Start : convF Try.prog [147, 148, 152, 160, 162, 163, 170, 178, 206, 208, 210, 224, 233, 235, 236, 251, 264, 265, 268, 270, 287, 322, 1000000] Try.f185 [([1, 2, 4], []), ([4], [])] = some (x_sl4Start, r_sl4Start) := by kernel_rfl
def us_sl4Start :=  (aI @u185_0 @u185_1)
abbrev b59_1 : X := (.cond (.t 17) (.seq (.reg [4, 5] (.c (.q 18 [] (.bld [(S []), (.int .i64 0), (.slice none 0 0)] [])) (.c (.e none [] (.st 3 (.t 4) (.t 18))) (.c (.q 5 [] (.mv (.c (.bool false)))) .nil)))) .ret) .skip)
def t59_1 := b59_1
theorem u59_1 : vcK P t59_1 k e w = vcK P b59_1 k e w := rfl
abbrev b59_2 : X := (.seq (.reg [4, 5] (.c (.q 19 [] (.lda 3 (.t 2))) (.c (.q 20 [] (.mv (.t 1))) (.c (.e (some 21) [] (.call false 185 [(.t 19), (.t 20)])) (.c (.e none [] (.st 3 (.t 4) (.t 21))) (.c (.q 5 [] (.mv (.c (.bool true)))) .nil)))))) .ret)
def t59_2 := b59_2
theorem u59_2 : vcK P t59_2 k e w = vcK P b59_2 k e w := rfl
abbrev b59_3 : X := (.seq (.seq (.reg [1, 2, 4, 17] (.c (.q 6 [] (.lda 3 (.t 2))) (.c (.e (some 7) [] (.call false 137 [(.t 6)])) (.c (.q 8 [] (.not (.t 7))) (.c (.q 9 [] (.mv (.t 8))) (.c (.q 10 [(9, false)] (.mv (.t 1))) (.c (.q 11 [(9, false)] (.fa 2 (.t 2))) (.c (.q 12 [(9, false)] (.ld (.t 11))) (.c (.q 13 [(9, false)] (.lens (.t 12))) (.c (.q 14 [(9, false)] (.bin .sub (.t 13) (.c (.int .i64 1)))) (.c (.e (some 15) [(9, false)] (.call false 149 [(.t 10), (.c (.int .i64 0)), (.t 14)])) (.c (.q 16 [(9, false)] (.not (.t 15))) (.c (.q 17 [] (.pick (.t 9) (.c (.bool true)) (.t 16))) .nil))))))))))))) t59_1) t59_2)
def t59_3 := b59_3
theorem u59_3 : vcK P t59_3 k e w = vcK P b59_3 k e w := rfl
abbrev b59_0 : X := (.seq (.reg [1, 2, 4] (.c (.e (some 2) [] (.box 26 (.t 0))) (.c (.e (some 4) [] (.al 26 [(S []), (.int .i64 0), (.slice none 0 0)])) (.c (.q 5 [] (.mv (.c (.bool false)))) .nil)))) t59_3)
def x_sStartAt := b59_0
theorem u59_0 : vcK P x_sStartAt k e w = vcK P b59_0 k e w := rfl
def r_sStartAt : List XO := [(.lda 3 (.t 4)), (.mv (.t 5))]
theorem c_sStartAt : convF Try.prog [147, 148, 152, 160, 162, 163, 170, 178, 206, 208, 210, 224, 233, 235, 236, 251, 264, 265, 268, 270, 287, 322] Try.f59 [([1, 2, 4], []), ([1, 2, 4, 17], []), ([4, 5], []), ([4, 5], [])] = some (x_sStartAt, r_sStartAt) := by kernel_rfl
def us_sStartAt :=  (aI (aI @u59_0 @u59_1) (aI @u59_2 @u59_3))
abbrev b66_1 : X := (.cond (.t 8) (.seq (.reg [2, 3] (.c (.q 9 [] (.bld [(S []), (.int .i64 0), (.slice none 0 0)] [])) (.c (.e none [] (.st 3 (.t 2) (.t 9))) (.c (.q 3 [] (.mv (.c (.bool false)))) .nil)))) .ret) .skip)
def t66_1 := b66_1
theorem u66_1 : vcK P t66_1 k e w = vcK P b66_1 k e w := rfl
abbrev b66_2 : X := (.cond (.t 20) .skip (.exit 0))
def t66_2 := b66_2
theorem u66_2 : vcK P t66_2 k e w = vcK P b66_2 k e w := rfl
abbrev b66_3 : X := (.reg [1, 2, 4, 5] (.c (.q 21 [] (.mv (.t 5))) (.c (.q 22 [] (.bin .sub (.t 21) (.c (.int .i64 1)))) (.c (.q 5 [] (.mv (.t 22))) .nil))))
def t66_3 := b66_3
theorem u66_3 : vcK P t66_3 k e w = vcK P b66_3 k e w := rfl
abbrev b66_4 : X := (.seq (.blk 1 (.drw [1, 2, 4, 5] (.c (.q 23 [] (.fa 2 (.t 4))) (.c (.q 24 [] (.ld (.t 23))) (.c (.q 25 [] (.fa 2 (.t 1))) (.c (.q 26 [] (.ld (.t 25))) (.c (.q 27 [] (.mv (.t 5))) (.c (.q 28 [] (.ia 1 (.t 26) (.t 27))) (.c (.q 29 [] (.ld (.t 28))) (.c (.e (some 30) [] (.bsl 9 1 [(.t 29)])) (.c (.e (some 31) [] (.app 24 9 1 16 [(S [])] 24 (.t 24) (.t 30))) (.c (.q 32 [] (.fa 2 (.t 4))) (.c (.e none [] (.st 1 (.t 32) (.t 31))) .nil))))))))))))) t66_3)
def t66_4 := b66_4
theorem u66_4 : vcK P t66_4 k e w = vcK P b66_4 k e w := rfl
abbrev b66_5 : X := (.seq (.seq (.reg [1, 2, 4, 5, 20] (.c (.q 19 [] (.mv (.t 5))) (.c (.q 20 [] (.bin .geq (.t 19) (.c (.int .i64 0)))) .nil))) t66_2) t66_4)
def t66_5 := b66_5
theorem u66_5 : vcK P t66_5 k e w = vcK P b66_5 k e w := rfl
abbrev b66_6 : X := (.blk 0 (.loop [5] [1, 2, 4] t66_5))
def t66_6 := b66_6
theorem u66_6 : vcK P t66_6 k e w = vcK P b66_6 k e w := rfl
abbrev b66_7 : X := (.seq (.reg [2, 3] (.c (.q 33 [] (.lda 3 (.t 4))) (.c (.e none [] (.st 3 (.t 2) (.t 33))) (.c (.q 3 [] (.mv (.c (.bool true)))) .nil)))) .ret)
def t66_7 := b66_7
theorem u66_7 : vcK P t66_7 k e w = vcK P b66_7 k e w := rfl
abbrev b66_8 : X := (.seq (.seq (.reg [1, 2, 4, 5] (.c (.q 15 [] (.fa 2 (.t 1))) (.c (.q 16 [] (.ld (.t 15))) (.c (.q 17 [] (.lens (.t 16))) (.c (.q 18 [] (.bin .sub (.t 17) (.c (.int .i64 1)))) (.c (.q 5 [] (.mv (.t 18))) .nil)))))) t66_6) t66_7)
def t66_8 := b66_8
theorem u66_8 : vcK P t66_8 k e w = vcK P b66_8 k e w := rfl
abbrev b66_9 : X := (.seq (.reg [1, 2, 4] (.c (.q 10 [] (.fa 0 (.t 1))) (.c (.q 11 [] (.ld (.t 10))) (.c (.q 12 [] (.fa 1 (.t 1))) (.c (.q 13 [] (.ld (.t 12))) (.c (.q 14 [] (.bld [(S []), (.int .i64 0), (.slice none 0 0)] [(0, 0, (.t 11)), (1, 0, (.t 13))])) (.c (.e (some 4) [] (.al 26 [(S []), (.int .i64 0), (.slice none 0 0)])) (.c (.e none [] (.st 3 (.t 4) (.t 14))) .nil)))))))) t66_8)
def t66_9 := b66_9
theorem u66_9 : vcK P t66_9 k e w = vcK P b66_9 k e w := rfl
abbrev b66_10 : X := (.seq (.seq (.reg [1, 2, 8] (.c (.q 6 [] (.lda 3 (.t 1))) (.c (.e (some 7) [] (.call false 137 [(.t 6)])) (.c (.q 8 [] (.not (.t 7))) .nil)))) t66_1) t66_9)
def t66_10 := b66_10
theorem u66_10 : vcK P t66_10 k e w = vcK P b66_10 k e w := rfl
abbrev b66_0 : X := (.seq (.reg [1, 2] (.c (.e (some 1) [] (.box 26 (.t 0))) (.c (.e (some 2) [] (.al 26 [(S []), (.int .i64 0), (.slice none 0 0)])) (.c (.q 3 [] (.mv (.c (.bool false)))) .nil)))) t66_10)
def x_sTurnMethod := b66_0
theorem u66_0 : vcK P x_sTurnMethod k e w = vcK P b66_0 k e w := rfl
def r_sTurnMethod : List XO := [(.lda 3 (.t 2)), (.mv (.t 3))]
theorem c_sTurnMethod : convF Try.prog [147, 148, 152, 160, 162, 163, 170, 178, 206, 208, 210, 224, 233, 235, 236, 251, 264, 265, 268, 270, 287, 322] Try.f66 [([1, 2], []), ([1, 2, 8], []), ([2, 3], []), ([1, 2, 4], []), ([1, 2, 4, 5], []), ([5], [1, 2, 4]), ([1, 2, 4, 5, 20], []), ([1, 2, 4, 5], []), ([1, 2, 4, 5], []), ([2, 3], [])] = some (x_sTurnMethod, r_sTurnMethod) := by kernel_rfl
def us_sTurnMethod :=  (aI (aI (aI @u66_0 @u66_1) (aI @u66_2 (aI @u66_3 @u66_4))) (aI (aI @u66_5 (aI @u66_6 @u66_7)) (aI @u66_8 (aI @u66_9 @u66_10))))
end

theorem xslices_Grow_string_string_ok (n : Nat) (hn : n ≤ 1000000) (w : World) : Fn 308 [.slice none 0 0, .int .i64 n] w (fun r w' => Own fS 1 9 w.heap.size w' r ([] : List Bs)) := by
  (refine callsV_of mix Try.func308 c_xslices_Grow_string_string ?_; simp only [↓vsd, vsn, gW, qd, qv, ev, pick, argE, zipE, ne_eq, eq_self, forall_const, implies_true, if_true, if_false, reduceIte, reduceCtorEq, Nat.reduceEqDiff, Nat.reduceAdd, Nat.reduceLT, ↓us_xslices_Grow_string_string, r_xslices_Grow_string_string])
  have e00 : (n : Int) - (((0 : Nat) : Int) - ((0 : Nat) : Int)) = n := by omega
  have ec : cutA none 0 0 1 = none := rfl
  by_cases h0 : 0 < n
  · simp only [↓vsd, vsn, gW, qd, qv, ev, pick, argE, zipE, ne_eq, eq_self, forall_const, implies_true, if_true, if_false, reduceIte, reduceCtorEq, Nat.reduceEqDiff, Nat.reduceAdd, Nat.reduceLT, ↓us_xslices_Grow_string_string, r_xslices_Grow_string_string, e00, ec]
    refine ⟨fun hneg => by omega, fun _ => ⟨inR_i64 (by omega), inR_i64 (by omega), fun _ => ⟨by omega, m_apz ⟨rfl, by omega⟩ ⟨h0, by omega⟩ (by decide) ?_⟩, fun h1 => absurd h1 (by omega)⟩⟩
    rintro cap cur w1 hcap hcm hcl hblk hx1
    have ec2 : cutA (some ⟨w.heap.size, 0, none⟩) cap 0 1 = some ⟨w.heap.size, 0, none⟩ := by simp only [cutA, Option.map_some, Nat.zero_mul, Addr.add_zero', ite_self]
    simp only [↓vsd, vsn, gW, qd, qv, ev, pick, argE, zipE, ne_eq, eq_self, forall_const, implies_true, if_true, if_false, reduceIte, reduceCtorEq, Nat.reduceEqDiff, Nat.reduceAdd, Nat.reduceLT, ↓us_xslices_Grow_string_string, r_xslices_Grow_string_string, ec2]
    refine ⟨by omega, hx1, fS_len, .inr ⟨w.heap.size, cap, cur, rfl, Nat.le_refl _, hblk, Nat.zero_le _, hcm, hcl, by simp⟩⟩
  · simp only [↓vsd, vsn, gW, qd, qv, ev, pick, argE, zipE, ne_eq, eq_self, forall_const, implies_true, if_true, if_false, reduceIte, reduceCtorEq, Nat.reduceEqDiff, Nat.reduceAdd, Nat.reduceLT, ↓us_xslices_Grow_string_string, r_xslices_Grow_string_string, e00, ec]
    exact ⟨fun hneg => by omega, fun _ => ⟨inR_i64 (by omega), inR_i64 (by omega), fun h1 => absurd h1 (by omega), fun _ => ⟨Ext.refl _, Own.nil fS_len⟩⟩⟩
theorem flat_snoc {ls : List (List Bs)} {k : Nat} (h : k < ls.length) : (ls.take (k + 1)).flatten = (ls.take k).flatten ++ ls.getD k [] := by
  rw [List.take_add_one, List.getElem?_eq_getElem h, List.getD_eq_getElem?_getD, List.getElem?_eq_getElem h, List.flatten_append]
  simp
theorem xslices_Concat_string_string_ok (v : Value) (ls : List (List Bs)) (hl : ls.length ≤ 1000) (hs : ls.flatten.length ≤ 1000000) (w : World) (h : Sq2 fS w v ls) : Fn 274 [v] w (fun r w' => Own fS 1 9 w.heap.size w' r ls.flatten) := by
  have hle : ∀ k, k ≤ ls.length → (ls.take k).flatten.length ≤ 1000000 := fun k _ => by
    refine Nat.le_trans ?_ hs
    conv => rhs; rw [← List.take_append_drop k ls, List.flatten_append, List.length_append]
    omega
  (refine callsV_of mix Try.func274 c_xslices_Concat_string_string ?_; simp only [↓vsd, vsn, gW, qd, qv, ev, pick, argE, zipE, ne_eq, eq_self, forall_const, implies_true, if_true, if_false, reduceIte, reduceCtorEq, Nat.reduceEqDiff, Nat.reduceAdd, Nat.reduceLT, ↓us_xslices_Concat_string_string, r_xslices_Concat_string_string])
  simp only [↓vsd, vsn, gW, qd, qv, ev, pick, argE, zipE, ne_eq, eq_self, forall_const, implies_true, if_true, if_false, reduceIte, reduceCtorEq, Nat.reduceEqDiff, Nat.reduceAdd, Nat.reduceLT, ↓us_xslices_Concat_string_string, r_xslices_Concat_string_string, h.facts]
  refine m_upto ls.length (fun k vs w' => vs = [.int .i64 ((ls.take k).flatten.length : Nat), .int .i64 k] ∧ Ext w w') ⟨by simp, Ext.refl _⟩ ?_
  rintro k vs w1 hk ⟨rfl, hx1⟩
  have hq1 := h.ext hx1
  by_cases hlt : k < ls.length
  · have hltI : (k : Int) < ls.length := by omega
    have hltJ : ¬ (ls.length : Int) ≤ k := by omega
    obtain ⟨u, a1, b1⟩ := hq1.at hlt
    have hsn := flat_snoc hlt
    have hl1 := hle (k + 1) hlt
    rw [hsn, List.length_append] at hl1
    have e1 : ((ls.take k).flatten.length : Int) + ((ls.getD k []).length : Int) = ((ls.take (k + 1)).flatten.length : Nat) := by rw [hsn, List.length_append]; omega
    simp only [↓vsd, vsn, gW, qd, qv, ev, pick, argE, zipE, ne_eq, eq_self, forall_const, implies_true, if_true, if_false, reduceIte, reduceCtorEq, Nat.reduceEqDiff, Nat.reduceAdd, Nat.reduceLT, ↓us_xslices_Concat_string_string, r_xslices_Concat_string_string, hltI, hltJ, hq1.facts, a1, b1.facts, e1]
    rw [hsn, List.length_append]
    exact ⟨by omega, inR_i64 (by omega), fun hneg => absurd hneg (by omega), fun _ => ⟨inR_i64 (by omega), UpTo.next hlt ⟨by rw [hsn, List.length_append]; rfl, by first | exact hx1 | exact dr hx1⟩⟩⟩
  · obtain rfl : k = ls.length := by omega
    have hltI : ¬ (ls.length : Int) < ls.length := by omega
    rw [List.take_length]
    simp only [↓vsd, vsn, gW, qd, qv, ev, pick, argE, zipE, ne_eq, eq_self, forall_const, implies_true, if_true, if_false, reduceIte, reduceCtorEq, Nat.reduceEqDiff, Nat.reduceAdd, Nat.reduceLT, ↓us_xslices_Concat_string_string, r_xslices_Concat_string_string, hltI]
    refine m_call (xslices_Grow_string_string_ok ls.flatten.length hs _) ?_
    rintro x w2 hx2 ho2
    have hx12 := hx1.trans hx2
    have hq2 := h.ext hx12
    simp only [↓vsd, vsn, gW, qd, qv, ev, pick, argE, zipE, ne_eq, eq_self, forall_const, implies_true, if_true, if_false, reduceIte, reduceCtorEq, Nat.reduceEqDiff, Nat.reduceAdd, Nat.reduceLT, ↓us_xslices_Concat_string_string, r_xslices_Concat_string_string, hq2.facts]
    refine m_upto ls.length (fun k vs w' => ∃ x, vs = [x, .int .i64 k] ∧ Own fS 1 9 w.heap.size w' x (ls.take k).flatten ∧ Ext w w') ⟨x, rfl, ho2.mono hx1.size, hx12⟩ ?_
    rintro k vs w3 hk ⟨x3, rfl, ho3, hx3⟩
    have hq3 := h.ext hx3
    by_cases hlt : k < ls.length
    · have hltI : (k : Int) < ls.length := by omega
      have hltJ : ¬ (ls.length : Int) ≤ k := by omega
      obtain ⟨u, a1, b1⟩ := hq3.at hlt
      have hsn := flat_snoc hlt
      have hl1 := hle (k + 1) hlt
      rw [hsn, List.length_append] at hl1
      simp only [↓vsd, vsn, gW, qd, qv, ev, pick, argE, zipE, ne_eq, eq_self, forall_const, implies_true, if_true, if_false, reduceIte, reduceCtorEq, Nat.reduceEqDiff, Nat.reduceAdd, Nat.reduceLT, ↓us_xslices_Concat_string_string, r_xslices_Concat_string_string, hltI, hltJ, hq3.facts, a1]
      refine ⟨by omega, m_app ho3 b1 fS_one (by decide) (by omega) (by decide) hx3.size ?_⟩
      rintro x4 w4 ho4 hg4
      have hx4 := ho3.grown hx3 (Nat.le_refl _) hg4
      simp only [↓vsd, vsn, gW, qd, qv, ev, pick, argE, zipE, ne_eq, eq_self, forall_const, implies_true, if_true, if_false, reduceIte, reduceCtorEq, Nat.reduceEqDiff, Nat.reduceAdd, Nat.reduceLT, ↓us_xslices_Concat_string_string, r_xslices_Concat_string_string]
      exact ⟨inR_i64 (by omega), UpTo.next hlt ⟨x4, rfl, ho4.to hsn.symm, hx4⟩⟩
    · obtain rfl : k = ls.length := by omega
      have hltI : ¬ (ls.length : Int) < ls.length := by omega
      rw [List.take_length] at ho3
      simp only [↓vsd, vsn, gW, qd, qv, ev, pick, argE, zipE, ne_eq, eq_self, forall_const, implies_true, if_true, if_false, reduceIte, reduceCtorEq, Nat.reduceEqDiff, Nat.reduceAdd, Nat.reduceLT, ↓us_xslices_Concat_string_string, r_xslices_Concat_string_string, hltI]
      exact ⟨hx3, ho3⟩
theorem irotated_ok (v : Value) (l : List Bs) (k : Nat) (hk : k ≤ l.length) (hl : l.length ≤ 1000000) (w : World) (h : Sq fS 1 w v l) : Fn 177 [v, .int .i64 k] w (fun r w' => Own fS 1 9 w.heap.size w' r (l.drop k ++ l.take k)) := by
  (refine callsV_of mix Try.func177 c_irotated ?_; simp only [↓vsd, vsn, gW, qd, qv, ev, pick, argE, zipE, ne_eq, eq_self, forall_const, implies_true, if_true, if_false, reduceIte, reduceCtorEq, Nat.reduceEqDiff, Nat.reduceAdd, Nat.reduceLT, ↓us_irotated, r_irotated])
  obtain ⟨t1, t2⟩ := h.tail .i64 k hk
  obtain ⟨t3, t4⟩ := h.headS .i64 k hk
  simp only [↓vsd, vsn, gW, qd, qv, ev, pick, argE, zipE, ne_eq, eq_self, forall_const, implies_true, if_true, if_false, reduceIte, reduceCtorEq, Nat.reduceEqDiff, Nat.reduceAdd, Nat.reduceLT, ↓us_irotated, r_irotated, t1, t3]
  obtain ⟨s1, e1⟩ := t2.sv
  obtain ⟨s2, e2⟩ := t4.sv
  rw [e1] at t2
  rw [e2] at t4
  rw [e1, e2]
  refine m_bsl (fun p hp => by simp only [List.mem_cons, List.not_mem_nil, or_false] at hp; rcases hp with rfl | rfl <;> exact SV.csize _) ?_
  rintro b5 w5 hb5 hblk5 hx5 hs5
  have hx5 : Ext w w5 := by first | exact hx5 | exact ud hx5 | exact ud (ud hx5)
  have hblk5 : Blk w5 b5 [s1.v, s2.v] 24 := by
    have := hblk5
    simpa [SV.cells] using this
  have hq5 : Sq2 fS w5 (.slice (some ⟨b5, 0, none⟩) 2 2) [l.drop k, l.take k] := by
    refine ⟨[s1, s2], ⟨fSV_len, rfl, .inr ⟨⟨b5, 0, none⟩, 2, rfl, Nat.le_refl _, fun j u hj => ?_⟩⟩, rfl, fun i hi => ?_⟩
    · rw [Addr.add_lit, Nat.zero_add, hblk5.cell]; exact hj
    · match i, hi with
      | 0, _ => exact t2.ext hx5
      | 1, _ => exact t4.ext hx5
  simp only [↓vsd, vsn, gW, qd, qv, ev, pick, argE, zipE, ne_eq, eq_self, forall_const, implies_true, if_true, if_false, reduceIte, reduceCtorEq, Nat.reduceEqDiff, Nat.reduceAdd, Nat.reduceLT, ↓us_irotated, r_irotated]
  refine m_call (xslices_Concat_string_string_ok _ [l.drop k, l.take k] (by simp) (by simp; omega) _ hq5) ?_
  rintro x w6 hx6 ho6
  simp only [↓vsd, vsn, gW, qd, qv, ev, pick, argE, zipE, ne_eq, eq_self, forall_const, implies_true, if_true, if_false, reduceIte, reduceCtorEq, Nat.reduceEqDiff, Nat.reduceAdd, Nat.reduceLT, ↓us_irotated, r_irotated]
  exact ⟨hx5.trans hx6, (ho6.mono hx5.size).to (by simp)⟩
def rotM (cs : List Bs) (k : Nat) : List Bs := cs.drop k ++ cs.take k
/-- A rotated lead's head is conjugated. -/
theorem head_rot {n : Nat} (hn : 3 ≤ n ∧ n ≤ 8) (cs : List Bs) (k : Nat) : underL (roundsL n) (rotM cs k) = timesL (turnL (underL (roundsL n) (cs.take k))) (timesL (underL (roundsL n) cs) (underL (roundsL n) (cs.take k))) := by
  have hr := under_row hn (cs.take k)
  have hd := under_row hn (cs.drop k)
  have e : underL (roundsL n) cs = timesL (underL (roundsL n) (cs.take k)) (underL (roundsL n) (cs.drop k)) := by rw [← under_app hn, List.take_append_drop]
  rw [rotM, under_app hn, e]
  generalize underL (roundsL n) (cs.take k) = r at *
  generalize underL (roundsL n) (cs.drop k) = d at *
  rw [timesL_assoc r hr.1 (by rw [hd.2, hr.2]), ← timesL_assoc (turnL r) (timesL_row hd.1 hr.1 (by rw [hd.2, hr.2])) (by rw [timesL_len]), turn_times hr.1, hr.2]
  have h3 : (timesL d r).length = n := by rw [timesL_len, hr.2]
  have := rounds_times (timesL_row hd.1 hr.1 (by rw [hd.2, hr.2]))
  rw [h3] at this
  exact this.symm
theorem pow_conj {r h : Bs} (hr : IsRow r) (hh : IsRow h) (hl : r.length = h.length) : ∀ j, powL (timesL (turnL r) (timesL h r)) j = timesL (turnL r) (timesL (powL h j) r) := by
  intro j
  have hlr : (timesL (turnL r) (timesL h r)).length = r.length := by rw [timesL_len, timesL_len]
  induction j with
  | zero =>
    show roundsL (timesL (turnL r) (timesL h r)).length = timesL (turnL r) (timesL (roundsL h.length) r)
    rw [hlr, ← hl, rounds_times hr, turn_times hr]
  | succ j ih =>
    show timesL (powL (timesL (turnL r) (timesL h r)) j) (timesL (turnL r) (timesL h r)) = timesL (turnL r) (timesL (timesL (powL h j) h) r)
    have hp := powL_row hh j
    have hpl : (powL h j).length = h.length := powL_len h j
    have htr := turnL_row hr
    have htl := turnL_len r
    have h1 := timesL_row hh hr hl.symm
    have h2 := timesL_row hp hr (by rw [hpl, hl])
    have h3 := timesL_row htr h1 (by rw [htl, timesL_len])
    rw [ih, timesL_assoc (turnL r) h3 (by simp only [timesL_len]), timesL_assoc (powL h j) h3 (by simp only [timesL_len]), ← timesL_assoc r h1 (by rw [htl, timesL_len]), times_turn hr]
    have h4 : timesL (roundsL r.length) (timesL h r) = timesL h r := by
      have := rounds_times h1
      rwa [timesL_len] at this
    rw [h4, timesL_assoc (powL h j) hr hl.symm]
theorem ord_conj {r h : Bs} (hr : IsRow r) (hh : IsRow h) (hl : r.length = h.length) {k : Nat} (hO : IsOrd h k) : IsOrd (timesL (turnL r) (timesL h r)) k := by
  have hlr : (timesL (turnL r) (timesL h r)).length = r.length := by rw [timesL_len, timesL_len]
  refine ⟨hO.1, hO.2.1, ?_, fun j h1 h2 he => hO.2.2.2 j h1 h2 ?_⟩
  · rw [pow_conj hr hh hl, hO.2.2.1, hlr, ← hl, rounds_times hr, turn_times hr]
  · rw [pow_conj hr hh hl, hlr] at he
    have hp := powL_row hh j
    have hpl : (powL h j).length = h.length := powL_len h j
    have h2' := timesL_row hp hr (by rw [hpl, hl])
    have e1 := congrArg (timesL r) he
    rw [← timesL_assoc r h2' (by rw [turnL_len, timesL_len]), times_turn hr] at e1
    have h4 : timesL (roundsL r.length) (timesL (powL h j) r) = timesL (powL h j) r := by
      have := rounds_times h2'
      rwa [timesL_len] at this
    rw [h4, times_rounds hr.1.2] at e1
    have e2 := congrArg (fun z => timesL z (turnL r)) e1
    rw [timesL_assoc (powL h j) (turnL_row hr) (by rw [turnL_len]), times_turn hr, hl] at e2
    have := times_rounds hp.1.2
    rw [hpl] at this
    rw [this] at e2
    exact e2
theorem Equal_oks (v1 v2 : Value) (l1 l2 : List Bs) (w : World) (h1 : Sq fS 1 w v1 l1) (h2 : Sq fS 1 w v2 l2) (hl : l1.length ≤ 1000000000) : Fn 193 [v1, v2] w (fun v _ => v = .bool (decide (l1 = l2))) := by
  (refine callsV_of mix Try.func193 c_xslices_Equal_string_string ?_; simp only [↓vsd, vsn, gW, qd, qv, ev, pick, argE, zipE, ne_eq, eq_self, forall_const, implies_true, if_true, if_false, reduceIte, reduceCtorEq, Nat.reduceEqDiff, Nat.reduceAdd, Nat.reduceLT, ↓us_xslices_Equal_string_string, r_xslices_Equal_string_string])
  simp only [↓vsd, vsn, gW, qd, qv, ev, pick, argE, zipE, ne_eq, eq_self, forall_const, implies_true, if_true, if_false, reduceIte, reduceCtorEq, Nat.reduceEqDiff, Nat.reduceAdd, Nat.reduceLT, ↓us_xslices_Equal_string_string, r_xslices_Equal_string_string, h1.facts, h2.facts]
  refine ⟨fun hne => ⟨Ext.refl _, by have : ¬ l1 = l2 := fun e => hne (by rw [e]); simp [this]⟩, fun he => ?_⟩
  have he : l1.length = l2.length := by omega
  refine m_upto l1.length (fun i vs w' => vs = [.int .i64 i] ∧ (∀ j < i, l1.getD j [] = l2.getD j []) ∧ Ext w w') ⟨rfl, fun j hj => by omega, Ext.refl _⟩ ?_
  rintro i vs w1 hi ⟨rfl, hall, hx1⟩
  have hq1 := h1.ext hx1
  have hq2 := h2.ext hx1
  by_cases hlt : i < l1.length
  · have hltI : (i : Int) < l1.length := by omega
    have hltJ : ¬ (l1.length : Int) ≤ i := by omega
    have a1 := hq1.at1 [] hlt
    have a2 := hq2.at1 [] (show i < l2.length by omega)
    simp only [↓vsd, vsn, gW, qd, qv, ev, pick, argE, zipE, ne_eq, eq_self, forall_const, implies_true, if_true, if_false, reduceIte, reduceCtorEq, Nat.reduceEqDiff, Nat.reduceAdd, Nat.reduceLT, ↓us_xslices_Equal_string_string, r_xslices_Equal_string_string, hltI, hltJ, hq1.facts, hq2.facts, a1, a2]
    refine ⟨by omega, by omega, fun hne => ⟨hx1, (decide_eq_false fun e => hne (by rw [e])).symm⟩, fun heq => ⟨inR_i64 (by omega), UpTo.next hlt ⟨by simp, fun j hj => ?_, by first | exact hx1 | exact dr hx1⟩⟩⟩
    by_cases hji : j = i
    · subst hji; exact heq
    · exact hall j (by omega)
  · obtain rfl : i = l1.length := by omega
    have hltI : ¬ (l1.length : Int) < l1.length := by omega
    simp only [↓vsd, vsn, gW, qd, qv, ev, pick, argE, zipE, ne_eq, eq_self, forall_const, implies_true, if_true, if_false, reduceIte, reduceCtorEq, Nat.reduceEqDiff, Nat.reduceAdd, Nat.reduceLT, ↓us_xslices_Equal_string_string, r_xslices_Equal_string_string, hltI]
    exact ⟨hx1, (decide_eq_true (ext_getD he hall)).symm⟩
theorem iSameMethod_ok (nm nm' : List UInt8) (st st' : Int) (v v' : Value) (cs cs' : List (List UInt8)) (hl : cs.length ≤ 1000000000) (w : World) (h : Sq fS 1 w v cs) (h' : Sq fS 1 w v' cs') : Fn 70 [mV nm st v, mV nm' st' v'] w (fun r _ => r = .bool (decide (nm = nm' ∧ st = st' ∧ cs = cs'))) := by
  (refine callsV_of mix Try.func70 c_iSameMethod ?_; simp only [↓vsd, vsn, gW, qd, qv, ev, pick, argE, zipE, ne_eq, eq_self, forall_const, implies_true, if_true, if_false, reduceIte, reduceCtorEq, Nat.reduceEqDiff, Nat.reduceAdd, Nat.reduceLT, ↓us_iSameMethod, r_iSameMethod])
  refine m_al ?_
  rintro b1 w1 hb1 hblk1 hx1 hs1
  have h1 : Blk w1 b1 (fM nm st v) 26 := hblk1
  simp only [↓vsd, vsn, gW, qd, qv, ev, pick, argE, zipE, ne_eq, eq_self, forall_const, implies_true, if_true, if_false, reduceIte, reduceCtorEq, Nat.reduceEqDiff, Nat.reduceAdd, Nat.reduceLT, ↓us_iSameMethod, r_iSameMethod]
  refine m_al ?_
  rintro b2 w2 hb2 hblk2 hx2 hs2
  have h2 : Blk w2 b2 (fM nm' st' v') 26 := hblk2
  have h12 := h1.ext hx2
  have hx12 := hx1.trans hx2
  by_cases e1 : nm = nm'
  · by_cases e2 : st = st'
    · subst e1; subst e2
      simp only [↓vsd, vsn, gW, qd, qv, ev, pick, argE, zipE, ne_eq, eq_self, forall_const, implies_true, if_true, if_false, reduceIte, reduceCtorEq, Nat.reduceEqDiff, Nat.reduceAdd, Nat.reduceLT, ↓us_iSameMethod, r_iSameMethod, h12.facts, h2.facts, fMg]
      refine m_call (Equal_oks v v' cs cs' _ (by first | exact h.ext hx12 | exact h.ext (dr hx12)) (by first | exact h'.ext hx12 | exact h'.ext (dr hx12)) hl) ?_
      rintro _ w3 hx3 rfl
      have hx3 : Ext w2 w3 := by first | exact hx3 | exact ud hx3 | exact ud (ud hx3)
      simp only [↓vsd, vsn, gW, qd, qv, ev, pick, argE, zipE, ne_eq, eq_self, forall_const, implies_true, if_true, if_false, reduceIte, reduceCtorEq, Nat.reduceEqDiff, Nat.reduceAdd, Nat.reduceLT, ↓us_iSameMethod, r_iSameMethod]
      exact hx12.trans hx3
    · simp only [↓vsd, vsn, gW, qd, qv, ev, pick, argE, zipE, ne_eq, eq_self, forall_const, implies_true, if_true, if_false, reduceIte, reduceCtorEq, Nat.reduceEqDiff, Nat.reduceAdd, Nat.reduceLT, ↓us_iSameMethod, r_iSameMethod, h12.facts, h2.facts, fMg, e1, e2]
      exact hx12
  · simp only [↓vsd, vsn, gW, qd, qv, ev, pick, argE, zipE, ne_eq, eq_self, forall_const, implies_true, if_true, if_false, reduceIte, reduceCtorEq, Nat.reduceEqDiff, Nat.reduceAdd, Nat.reduceLT, ↓us_iSameMethod, r_iSameMethod, h12.facts, h2.facts, fMg, e1]
    exact hx12
/-- May a method begin with change k? -/
def StaOk (nm : Bs) (st : Int) (cs : List Bs) (k : Int) : Prop := IsMethod nm st cs ∧ 0 ≤ k ∧ k < cs.length
def noM : Value := .tuple ⟨[mV [] 0 (.slice none 0 0), .bool false]⟩
theorem iStartAt_ok (nm : List UInt8) (st : Int) (v : Value) (cs : List (List UInt8)) (k : Int) (hnm : nm.length ≤ 1048576) (hs : ∀ c ∈ cs, c.length ≤ 1048576) (hl : cs.length ≤ 1000000) (w : World) (h : Sq fS 1 w v cs) : Fn 58 [mV nm st v, .int .i64 k] w (fun r w' => (StaOk nm st cs k → ∃ x, r = .tuple ⟨[mV nm st x, .bool true]⟩ ∧ Own fS 1 9 w.heap.size w' x (rotM cs k.toNat)) ∧ (¬ StaOk nm st cs k → r = noM)) := by
  (refine callsV_of mix Try.func58 c_iStartAt ?_; simp only [↓vsd, vsn, gW, qd, qv, ev, pick, argE, zipE, ne_eq, eq_self, forall_const, implies_true, if_true, if_false, reduceIte, reduceCtorEq, Nat.reduceEqDiff, Nat.reduceAdd, Nat.reduceLT, ↓us_iStartAt, r_iStartAt])
  refine m_al ?_
  rintro b w1 hb hblk hx1 hs1
  have h1 : Blk w1 b (fM nm st v) 26 := hblk
  simp only [↓vsd, vsn, gW, qd, qv, ev, pick, argE, zipE, ne_eq, eq_self, forall_const, implies_true, if_true, if_false, reduceIte, reduceCtorEq, Nat.reduceEqDiff, Nat.reduceAdd, Nat.reduceLT, ↓us_iStartAt, r_iStartAt]
  refine m_al ?_
  rintro b2 w2 hb2 hblk2 hx2 hs2
  have h2 : Blk w2 b2 (fM [] 0 (.slice none 0 0)) 26 := hblk2
  have h12 := h1.ext hx2
  have hx12 := hx1.trans hx2
  have hno : ¬ StaOk nm st cs k → ∀ w' : World, (StaOk nm st cs k → ∃ x, noM = .tuple ⟨[mV nm st x, .bool true]⟩ ∧ Own fS 1 9 w.heap.size w' x (rotM cs k.toNat)) ∧ (¬ StaOk nm st cs k → noM = noM) := fun hn w' => ⟨fun hh => absurd hh hn, fun _ => rfl⟩
  simp only [↓vsd, vsn, gW, qd, qv, ev, pick, argE, zipE, ne_eq, eq_self, forall_const, implies_true, if_true, if_false, reduceIte, reduceCtorEq, Nat.reduceEqDiff, Nat.reduceAdd, Nat.reduceLT, ↓us_iStartAt, r_iStartAt, h12.facts, fMg]
  refine m_call (iGoodMethod_ok nm st v cs hnm hs (by omega) _ (by first | exact h.ext hx12 | exact h.ext (dr hx12))) ?_
  rintro _ w3 hx3 rfl
  have hx3 : Ext w2 w3 := by first | exact hx3 | exact ud hx3 | exact ud (ud hx3)
  have hx13 := hx12.trans hx3
  have h13 := h12.ext hx3
  have h23 := h2.ext hx3
  have hq3 := h.ext hx13
  by_cases hm : IsMethod nm st cs
  · by_cases hk0 : k < 0
    · simp only [↓vsd, vsn, gW, qd, qv, ev, pick, argE, zipE, ne_eq, eq_self, forall_const, implies_true, if_true, if_false, reduceIte, reduceCtorEq, Nat.reduceEqDiff, Nat.reduceAdd, Nat.reduceLT, ↓us_iStartAt, r_iStartAt, hm, hk0, h23.facts, fMg]
      have hnn : ¬ StaOk nm st cs k := fun hh => by have := hh.2.1; omega
      refine m_st h23 rfl (Nat.le_refl 3) (fM_one [] 0 (.slice none 0 0) rfl) ?_
      rintro w6 hblk6 hu6
      have h6 : Blk w6 b2 (fM [] 0 (.slice none 0 0)) 26 := hblk6
      have hx6 : Ext w w6 := hu6.below hx13 (by have := hx1.size; omega)
      simp only [↓vsd, vsn, gW, qd, qv, ev, pick, argE, zipE, ne_eq, eq_self, forall_const, implies_true, if_true, if_false, reduceIte, reduceCtorEq, Nat.reduceEqDiff, Nat.reduceAdd, Nat.reduceLT, ↓us_iStartAt, r_iStartAt, h6.facts, fMg]
      exact ⟨hx6, hno hnn _⟩
    · by_cases hkl : (cs.length : Int) ≤ k
      · simp only [↓vsd, vsn, gW, qd, qv, ev, pick, argE, zipE, ne_eq, eq_self, forall_const, implies_true, if_true, if_false, reduceIte, reduceCtorEq, Nat.reduceEqDiff, Nat.reduceAdd, Nat.reduceLT, ↓us_iStartAt, r_iStartAt, hm, hk0, h12.facts, h13.facts, h23.facts, fMg, hq3.facts, hkl]
        have hnn : ¬ StaOk nm st cs k := fun hh => by have := hh.2.2; omega
        refine m_st h23 rfl (Nat.le_refl 3) (fM_one [] 0 (.slice none 0 0) rfl) ?_
        rintro w6 hblk6 hu6
        have h6 : Blk w6 b2 (fM [] 0 (.slice none 0 0)) 26 := hblk6
        have hx6 : Ext w w6 := hu6.below hx13 (by have := hx1.size; omega)
        simp only [↓vsd, vsn, gW, qd, qv, ev, pick, argE, zipE, ne_eq, eq_self, forall_const, implies_true, if_true, if_false, reduceIte, reduceCtorEq, Nat.reduceEqDiff, Nat.reduceAdd, Nat.reduceLT, ↓us_iStartAt, r_iStartAt, h6.facts, fMg]
        exact ⟨hx6, hno hnn _⟩
      · obtain ⟨n, rfl⟩ : ∃ n : Nat, k = n := ⟨k.toNat, by omega⟩
        have hok : StaOk nm st cs n := ⟨hm, by omega, by omega⟩
        simp only [↓vsd, vsn, gW, qd, qv, ev, pick, argE, zipE, ne_eq, eq_self, forall_const, implies_true, if_true, if_false, reduceIte, reduceCtorEq, Nat.reduceEqDiff, Nat.reduceAdd, Nat.reduceLT, ↓us_iStartAt, r_iStartAt, hm, hk0, h12.facts, h13.facts, fMg, hq3.facts, hkl]
        refine m_call (irotated_ok v cs n (by omega) hl _ (by first | exact hq3 | exact hq3.ext (dr (Ext.refl _)))) ?_
        rintro x w4 hx4 ho4
        have hx4 : Ext w3 w4 := by first | exact hx4 | exact ud hx4 | exact ud (ud hx4)
        simp only [↓vsd, vsn, gW, qd, qv, ev, pick, argE, zipE, ne_eq, eq_self, forall_const, implies_true, if_true, if_false, reduceIte, reduceCtorEq, Nat.reduceEqDiff, Nat.reduceAdd, Nat.reduceLT, ↓us_iStartAt, r_iStartAt]
        refine m_call (iwithChanges_ok nm st v x _ ho4.sq.one' (of_eq_true ho4.sq.oneC)) ?_
        rintro _ w5 hx5 rfl
        have hx5 : Ext w4 w5 := by first | exact hx5 | exact ud hx5 | exact ud (ud hx5)
        have hx15 := (hx13.trans hx4).trans hx5
        simp only [↓vsd, vsn, gW, qd, qv, ev, pick, argE, zipE, ne_eq, eq_self, forall_const, implies_true, if_true, if_false, reduceIte, reduceCtorEq, Nat.reduceEqDiff, Nat.reduceAdd, Nat.reduceLT, ↓us_iStartAt, r_iStartAt]
        refine m_st ((h23.ext hx4).ext hx5) rfl (Nat.le_refl 3) (fM_one nm st x ho4.sq.one') ?_
        rintro w6 hblk6 hu6
        have h6 : Blk w6 b2 (fM nm st x) 26 := hblk6
        have hx6 : Ext w w6 := hu6.below hx15 (by have := hx1.size; omega)
        have ho6 := ((ho4.ext hx5).upd hu6 (ho4.away' (show b2 < w3.heap.size from h23.lt))).mono hx13.size
        simp only [↓vsd, vsn, gW, qd, qv, ev, pick, argE, zipE, ne_eq, eq_self, forall_const, implies_true, if_true, if_false, reduceIte, reduceCtorEq, Nat.reduceEqDiff, Nat.reduceAdd, Nat.reduceLT, ↓us_iStartAt, r_iStartAt, h6.facts, fMg]
        exact ⟨hx6, fun _ => ⟨x, rfl, ho6⟩, fun hh => absurd hok hh⟩
  · simp only [↓vsd, vsn, gW, qd, qv, ev, pick, argE, zipE, ne_eq, eq_self, forall_const, implies_true, if_true, if_false, reduceIte, reduceCtorEq, Nat.reduceEqDiff, Nat.reduceAdd, Nat.reduceLT, ↓us_iStartAt, r_iStartAt, hm, h23.facts, fMg]
    have hnn : ¬ StaOk nm st cs k := fun hh => hm hh.1
    refine m_st h23 rfl (Nat.le_refl 3) (fM_one [] 0 (.slice none 0 0) rfl) ?_
    rintro w6 hblk6 hu6
    have h6 : Blk w6 b2 (fM [] 0 (.slice none 0 0)) 26 := hblk6
    have hx6 : Ext w w6 := hu6.below hx13 (by have := hx1.size; omega)
    simp only [↓vsd, vsn, gW, qd, qv, ev, pick, argE, zipE, ne_eq, eq_self, forall_const, implies_true, if_true, if_false, reduceIte, reduceCtorEq, Nat.reduceEqDiff, Nat.reduceAdd, Nat.reduceLT, ↓us_iStartAt, r_iStartAt, h6.facts, fMg]
    exact ⟨hx6, hno hnn _⟩
theorem sl4Start_ok (nm : List UInt8) (st : Int) (v : Value) (cs : List (List UInt8)) (k : Nat) (hk : k ≤ cs.length) (hl : cs.length ≤ 1000000) (w : World) (h : Sq fS 1 w v cs) : Fn 185 [mV nm st v, .int .i64 k] w (fun r w' => ∃ x, r = mV nm st x ∧ Own fS 1 9 w.heap.size w' x (rotM cs k)) := by
  (refine callsV_of mix Try.func185 c_sl4Start ?_; simp only [↓vsd, vsn, gW, qd, qv, ev, pick, argE, zipE, ne_eq, eq_self, forall_const, implies_true, if_true, if_false, reduceIte, reduceCtorEq, Nat.reduceEqDiff, Nat.reduceAdd, Nat.reduceLT, ↓us_sl4Start, r_sl4Start])
  refine m_al ?_
  rintro b w1 hb hblk hx1 hs1
  have h1 : Blk w1 b (fM nm st v) 26 := hblk
  simp only [↓vsd, vsn, gW, qd, qv, ev, pick, argE, zipE, ne_eq, eq_self, forall_const, implies_true, if_true, if_false, reduceIte, reduceCtorEq, Nat.reduceEqDiff, Nat.reduceAdd, Nat.reduceLT, ↓us_sl4Start, r_sl4Start]
  refine m_al ?_
  rintro b2 w2 hb2 hblk2 hx2 hs2
  have h2 : Blk w2 b2 (fM [] 0 (.slice none 0 0)) 26 := hblk2
  have h12 := h1.ext hx2
  have hx12 := hx1.trans hx2
  have hq2 := h.ext hx12
  obtain ⟨t1, t2⟩ := hq2.tail .i64 k hk
  obtain ⟨t3, t4⟩ := hq2.headS .i64 k hk
  simp only [↓vsd, vsn, gW, qd, qv, ev, pick, argE, zipE, ne_eq, eq_self, forall_const, implies_true, if_true, if_false, reduceIte, reduceCtorEq, Nat.reduceEqDiff, Nat.reduceAdd, Nat.reduceLT, ↓us_sl4Start, r_sl4Start, h12.facts, fMg, t1, t3]
  refine m_call (sl1OwnS_ok _ (cs.drop k) (by simp; omega) _ (by first | exact t2 | exact t2.ext (dr (Ext.refl _)))) ?_
  rintro x w3 hx3 ho3
  have hx3 : Ext w2 w3 := by first | exact hx3 | exact ud hx3 | exact ud (ud hx3)
  have hx13 := hx12.trans hx3
  have h13 := h12.ext hx3
  simp only [↓vsd, vsn, gW, qd, qv, ev, pick, argE, zipE, ne_eq, eq_self, forall_const, implies_true, if_true, if_false, reduceIte, reduceCtorEq, Nat.reduceEqDiff, Nat.reduceAdd, Nat.reduceLT, ↓us_sl4Start, r_sl4Start, h12.facts, h13.facts, fMg, t1, t3]
  refine m_apfN ho3 (t4.ext hx3) fS_one (by decide) (by simp; omega) (by decide) hx3.size (fun w0 e => by rw [← Option.some.inj e]; exact Nat.le_refl _) ?_
  rintro y w4 ho4 hg4 hn4
  have hs3 := hx3.size
  have hx24 : Ext w2 w4 := ho3.grown hx3 (Nat.le_refl _) hg4
  have hy := ho4.to (show cs.drop k ++ cs.take k = rotM cs k from rfl)
  have hx14 := hx12.trans hx24
  simp only [↓vsd, vsn, gW, qd, qv, ev, pick, argE, zipE, ne_eq, eq_self, forall_const, implies_true, if_true, if_false, reduceIte, reduceCtorEq, Nat.reduceEqDiff, Nat.reduceAdd, Nat.reduceLT, ↓us_sl4Start, r_sl4Start]
  refine ⟨of_eq_true hy.sq.oneC, m_st (h2.ext hx24) rfl (Nat.le_refl 3) (fM_one nm st y hy.sq.one') ?_⟩
  rintro w5 hblk5 hu5
  have h5 : Blk w5 b2 (fM nm st y) 26 := hblk5
  have hx5 : Ext w w5 := hu5.below hx14 (by have := hx1.size; omega)
  have ho5 := (hy.upd hu5 (hy.away' (show b2 < w2.heap.size from h2.lt))).mono (B' := w.heap.size) hx12.size
  simp only [↓vsd, vsn, gW, qd, qv, ev, pick, argE, zipE, ne_eq, eq_self, forall_const, implies_true, if_true, if_false, reduceIte, reduceCtorEq, Nat.reduceEqDiff, Nat.reduceAdd, Nat.reduceLT, ↓us_sl4Start, r_sl4Start, h5.facts, fMg]
  exact ⟨hx5, y, rfl, ho5⟩
theorem sStartAt_ok (nm : List UInt8) (st : Int) (v : Value) (cs : List (List UInt8)) (k : Int) (hnm : nm.length ≤ 1048576) (hs : ∀ c ∈ cs, c.length ≤ 1048576) (hl : cs.length ≤ 1000000) (w : World) (h : Sq fS 1 w v cs) : Fn 59 [mV nm st v, .int .i64 k] w (fun r w' => (StaOk nm st cs k → ∃ x, r = .tuple ⟨[mV nm st x, .bool true]⟩ ∧ Own fS 1 9 w.heap.size w' x (rotM cs k.toNat)) ∧ (¬ StaOk nm st cs k → r = noM)) := by
  (refine callsV_of mix Try.func59 c_sStartAt ?_; simp only [↓vsd, vsn, gW, qd, qv, ev, pick, argE, zipE, ne_eq, eq_self, forall_const, implies_true, if_true, if_false, reduceIte, reduceCtorEq, Nat.reduceEqDiff, Nat.reduceAdd, Nat.reduceLT, ↓us_sStartAt, r_sStartAt])
  refine m_al ?_
  rintro b w1 hb hblk hx1 hs1
  have h1 : Blk w1 b (fM nm st v) 26 := hblk
  simp only [↓vsd, vsn, gW, qd, qv, ev, pick, argE, zipE, ne_eq, eq_self, forall_const, implies_true, if_true, if_false, reduceIte, reduceCtorEq, Nat.reduceEqDiff, Nat.reduceAdd, Nat.reduceLT, ↓us_sStartAt, r_sStartAt]
  refine m_al ?_
  rintro b2 w2 hb2 hblk2 hx2 hs2
  have h2 : Blk w2 b2 (fM [] 0 (.slice none 0 0)) 26 := hblk2
  have h12 := h1.ext hx2
  have hx12 := hx1.trans hx2
  have hno : ¬ StaOk nm st cs k → ∀ w' : World, (StaOk nm st cs k → ∃ x, noM = .tuple ⟨[mV nm st x, .bool true]⟩ ∧ Own fS 1 9 w.heap.size w' x (rotM cs k.toNat)) ∧ (¬ StaOk nm st cs k → noM = noM) := fun hn w' => ⟨fun hh => absurd hh hn, fun _ => rfl⟩
  simp only [↓vsd, vsn, gW, qd, qv, ev, pick, argE, zipE, ne_eq, eq_self, forall_const, implies_true, if_true, if_false, reduceIte, reduceCtorEq, Nat.reduceEqDiff, Nat.reduceAdd, Nat.reduceLT, ↓us_sStartAt, r_sStartAt, h12.facts, fMg]
  refine m_call (sl4Good_ok nm st v cs hnm hs (by omega) _ (by first | exact h.ext hx12 | exact h.ext (dr hx12))) ?_
  rintro _ w3 hx3 rfl
  have hx3 : Ext w2 w3 := by first | exact hx3 | exact ud hx3 | exact ud (ud hx3)
  have hx13 := hx12.trans hx3
  have h13 := h12.ext hx3
  have h23 := h2.ext hx3
  have hq3 := h.ext hx13
  by_cases hm : IsMethod nm st cs
  · simp only [↓vsd, vsn, gW, qd, qv, ev, pick, argE, zipE, ne_eq, eq_self, forall_const, implies_true, if_true, if_false, reduceIte, reduceCtorEq, Nat.reduceEqDiff, Nat.reduceAdd, Nat.reduceLT, ↓us_sStartAt, r_sStartAt, hm, h12.facts, h13.facts, fMg, hq3.facts]
    refine ⟨inR_i64 (by omega), m_call (sl1In_ok k 0 ((cs.length : Int) - 1) _) ?_⟩
    rintro _ w4 hx4 rfl
    have hx4 : Ext w3 w4 := by first | exact hx4 | exact ud hx4 | exact ud (ud hx4)
    have hx13 := hx13.trans hx4
    have h23 := h23.ext hx4
    simp only [↓vsd, vsn, gW, qd, qv, ev, pick, argE, zipE, ne_eq, eq_self, forall_const, implies_true, if_true, if_false, reduceIte, reduceCtorEq, Nat.reduceEqDiff, Nat.reduceAdd, Nat.reduceLT, ↓us_sStartAt, r_sStartAt]
    refine ⟨fun hbad => ?_, fun hin => ?_⟩
    · have hnn : ¬ StaOk nm st cs k := fun hh => by have := hh.2; omega
      refine m_st h23 rfl (Nat.le_refl 3) (fM_one [] 0 (.slice none 0 0) rfl) ?_
      rintro w6 hblk6 hu6
      have h6 : Blk w6 b2 (fM [] 0 (.slice none 0 0)) 26 := hblk6
      have hx6 : Ext w w6 := hu6.below hx13 (by have := hx1.size; omega)
      simp only [↓vsd, vsn, gW, qd, qv, ev, pick, argE, zipE, ne_eq, eq_self, forall_const, implies_true, if_true, if_false, reduceIte, reduceCtorEq, Nat.reduceEqDiff, Nat.reduceAdd, Nat.reduceLT, ↓us_sStartAt, r_sStartAt, h6.facts, fMg]
      exact ⟨hx6, hno hnn _⟩
    · obtain ⟨n, rfl⟩ : ∃ n : Nat, k = n := ⟨k.toNat, by omega⟩
      have hok : StaOk nm st cs n := ⟨hm, by omega, by omega⟩
      have h14 := h13.ext hx4
      simp only [↓vsd, vsn, gW, qd, qv, ev, pick, argE, zipE, ne_eq, eq_self, forall_const, implies_true, if_true, if_false, reduceIte, reduceCtorEq, Nat.reduceEqDiff, Nat.reduceAdd, Nat.reduceLT, ↓us_sStartAt, r_sStartAt, h14.facts, fMg]
      refine m_call (sl4Start_ok nm st v cs n (by omega) hl _ (by first | exact h.ext hx13 | exact (h.ext hx13).ext (dr (Ext.refl _)))) ?_
      rintro _ w5 hx5 ⟨x, rfl, ho5⟩
      have hx5 : Ext w4 w5 := by first | exact hx5 | exact ud hx5 | exact ud (ud hx5)
      have hx15 := hx13.trans hx5
      simp only [↓vsd, vsn, gW, qd, qv, ev, pick, argE, zipE, ne_eq, eq_self, forall_const, implies_true, if_true, if_false, reduceIte, reduceCtorEq, Nat.reduceEqDiff, Nat.reduceAdd, Nat.reduceLT, ↓us_sStartAt, r_sStartAt]
      refine m_st (h23.ext hx5) rfl (Nat.le_refl 3) (fM_one nm st x ho5.sq.one') ?_
      rintro w6 hblk6 hu6
      have h6 : Blk w6 b2 (fM nm st x) 26 := hblk6
      have hx6 : Ext w w6 := hu6.below hx15 (by have := hx1.size; omega)
      have ho6 := (ho5.upd hu6 (ho5.away' (show b2 < w4.heap.size from h23.lt))).mono (B' := w.heap.size) hx13.size
      simp only [↓vsd, vsn, gW, qd, qv, ev, pick, argE, zipE, ne_eq, eq_self, forall_const, implies_true, if_true, if_false, reduceIte, reduceCtorEq, Nat.reduceEqDiff, Nat.reduceAdd, Nat.reduceLT, ↓us_sStartAt, r_sStartAt, h6.facts, fMg]
      exact ⟨hx6, fun _ => ⟨x, rfl, ho6⟩, fun hh => absurd hok hh⟩
  · simp only [↓vsd, vsn, gW, qd, qv, ev, pick, argE, zipE, ne_eq, eq_self, forall_const, implies_true, if_true, if_false, reduceIte, reduceCtorEq, Nat.reduceEqDiff, Nat.reduceAdd, Nat.reduceLT, ↓us_sStartAt, r_sStartAt, hm, h23.facts, fMg]
    have hnn : ¬ StaOk nm st cs k := fun hh => hm hh.1
    refine m_st h23 rfl (Nat.le_refl 3) (fM_one [] 0 (.slice none 0 0) rfl) ?_
    rintro w6 hblk6 hu6
    have h6 : Blk w6 b2 (fM [] 0 (.slice none 0 0)) 26 := hblk6
    have hx6 : Ext w w6 := hu6.below hx13 (by have := hx1.size; omega)
    simp only [↓vsd, vsn, gW, qd, qv, ev, pick, argE, zipE, ne_eq, eq_self, forall_const, implies_true, if_true, if_false, reduceIte, reduceCtorEq, Nat.reduceEqDiff, Nat.reduceAdd, Nat.reduceLT, ↓us_sStartAt, r_sStartAt, h6.facts, fMg]
    exact ⟨hx6, hno hnn _⟩
theorem sTurnMethod_all (nm : List UInt8) (st : Int) (v : Value) (cs : List (List UInt8)) (hnm : nm.length ≤ 1048576) (hs : ∀ c ∈ cs, c.length ≤ 1048576) (hl : cs.length ≤ 1000000) (w : World) (h : Sq fS 1 w v cs) : Fn 66 [mV nm st v] w (fun r w' => (IsMethod nm st cs → ∃ x, r = .tuple ⟨[mV nm st x, .bool true]⟩ ∧ Own fS 1 9 w.heap.size w' x cs.reverse) ∧ (¬ IsMethod nm st cs → r = noM)) := by
  (refine callsV_of mix Try.func66 c_sTurnMethod ?_; simp only [↓vsd, vsn, gW, qd, qv, ev, pick, argE, zipE, ne_eq, eq_self, forall_const, implies_true, if_true, if_false, reduceIte, reduceCtorEq, Nat.reduceEqDiff, Nat.reduceAdd, Nat.reduceLT, ↓us_sTurnMethod, r_sTurnMethod])
  refine m_al ?_
  rintro b w1 hb hblk hx1 hs1
  have h1 : Blk w1 b (fM nm st v) 26 := hblk
  simp only [↓vsd, vsn, gW, qd, qv, ev, pick, argE, zipE, ne_eq, eq_self, forall_const, implies_true, if_true, if_false, reduceIte, reduceCtorEq, Nat.reduceEqDiff, Nat.reduceAdd, Nat.reduceLT, ↓us_sTurnMethod, r_sTurnMethod]
  refine m_al ?_
  rintro b2 w2 hb2 hblk2 hx2 hs2
  have h2 : Blk w2 b2 (fM [] 0 (.slice none 0 0)) 26 := hblk2
  have h12 := h1.ext hx2
  have hx12 := hx1.trans hx2
  simp only [↓vsd, vsn, gW, qd, qv, ev, pick, argE, zipE, ne_eq, eq_self, forall_const, implies_true, if_true, if_false, reduceIte, reduceCtorEq, Nat.reduceEqDiff, Nat.reduceAdd, Nat.reduceLT, ↓us_sTurnMethod, r_sTurnMethod, h12.facts, fMg]
  refine m_call (sl4Good_ok nm st v cs hnm hs (by omega) _ (by first | exact h.ext hx12 | exact h.ext (dr hx12))) ?_
  rintro _ w3 hx3 rfl
  have hx3 : Ext w2 w3 := by first | exact hx3 | exact ud hx3 | exact ud (ud hx3)
  have hx13 := hx12.trans hx3
  have h13 := h12.ext hx3
  have h23 := h2.ext hx3
  have hq3 := h.ext hx13
  by_cases hm : IsMethod nm st cs
  · simp only [↓vsd, vsn, gW, qd, qv, ev, pick, argE, zipE, ne_eq, eq_self, forall_const, implies_true, if_true, if_false, reduceIte, reduceCtorEq, Nat.reduceEqDiff, Nat.reduceAdd, Nat.reduceLT, ↓us_sTurnMethod, r_sTurnMethod, hm, h13.facts, fMg]
    refine m_al ?_
    rintro b4 w4 hb4 hblk4 hx4 hs4
    simp only [↓vsd, vsn, gW, qd, qv, ev, pick, argE, zipE, ne_eq, eq_self, forall_const, implies_true, if_true, if_false, reduceIte, reduceCtorEq, Nat.reduceEqDiff, Nat.reduceAdd, Nat.reduceLT, ↓us_sTurnMethod, r_sTurnMethod]
    refine m_st hblk4 rfl (Nat.le_refl 3) (fM_one nm st (.slice none 0 0) rfl) ?_
    rintro w5 hblk5 hu5
    have h5 : Blk w5 b4 (fM nm st (.slice none 0 0)) 26 := hblk5
    have hx35 : Ext w3 w5 := hu5.below hx4 (by omega)
    have h15 := h13.ext hx35
    have hq5 := hq3.ext hx35
    have e0 : (cs.length : Int) - 1 = (cs.length : Int) - 1 - ((0 : Nat) : Int) := by omega
    simp only [↓vsd, vsn, gW, qd, qv, ev, pick, argE, zipE, ne_eq, eq_self, forall_const, implies_true, if_true, if_false, reduceIte, reduceCtorEq, Nat.reduceEqDiff, Nat.reduceAdd, Nat.reduceLT, ↓us_sTurnMethod, r_sTurnMethod, h15.facts, fMg, hq5.facts]
    refine ⟨inR_i64 (by omega), ?_⟩
    refine m_upto cs.length (fun j vs w' => ∃ x, vs = [.int .i64 ((cs.length : Int) - 1 - j)] ∧ Blk w' b4 (fM nm st x) 26 ∧ Own fS 1 9 w5.heap.size w' x (cs.reverse.take j) ∧ Ext w3 w' ∧ w5.heap.size ≤ w'.heap.size) ⟨.slice none 0 0, by rw [← e0], h5, (Own.nil fS_len).to (by simp), hx35, Nat.le_refl _⟩ ?_
    rintro j vs w6 hj ⟨x, rfl, h6, ho6, hx6, hxs⟩
    have hq6 := hq3.ext hx6
    have h16 := h13.ext hx6
    have hb4' : b4 < w5.heap.size := h5.lt
    by_cases hlt : j < cs.length
    · obtain ⟨i, hi⟩ : ∃ i, i + j + 1 = cs.length := ⟨cs.length - 1 - j, by omega⟩
      have ei : (cs.length : Int) - 1 - j = (i : Nat) := by omega
      have hil : i < cs.length := by omega
      have h0I : (0 : Int) ≤ (i : Nat) := by omega
      have a6 := hq6.at1 [] hil
      have hrev : cs.reverse.take (j + 1) = cs.reverse.take j ++ [cs.getD i []] := by
        rw [List.take_add_one, List.getElem?_reverse (by omega), show cs.length - 1 - j = i by omega, List.getElem?_eq_getElem hil, List.getD_eq_getElem?_getD, List.getElem?_eq_getElem hil]; rfl
      have hrl : (cs.reverse.take j).length ≤ 1000000 := by rw [List.length_take, List.length_reverse]; omega
      rw [ei]
      have ei1 : ((i : Nat) : Int) - 1 = (cs.length : Int) - 1 - ((j + 1 : Nat) : Int) := by omega
      simp only [↓vsd, vsn, gW, qd, qv, ev, pick, argE, zipE, ne_eq, eq_self, forall_const, implies_true, if_true, if_false, reduceIte, reduceCtorEq, Nat.reduceEqDiff, Nat.reduceAdd, Nat.reduceLT, ↓us_sTurnMethod, r_sTurnMethod, h0I, h6.facts, h16.facts, fMg, hq6.facts, a6]
      refine ⟨by omega, m_bsl (one_el rfl) ?_⟩
      rintro b7 w7 hb7 hblk7 hx7 hs7
      have hx7 : Ext w6 w7 := by first | exact hx7 | exact ud hx7 | exact ud (ud hx7)
      simp only [↓vsd, vsn, gW, qd, qv, ev, pick, argE, zipE, ne_eq, eq_self, forall_const, implies_true, if_true, if_false, reduceIte, reduceCtorEq, Nat.reduceEqDiff, Nat.reduceAdd, Nat.reduceLT, ↓us_sTurnMethod, r_sTurnMethod]
      refine m_app (ho6.ext hx7) (Sq.one fS_len hblk7 rfl) fS_one (by decide) (by rw [List.length_singleton]; omega) (by decide) (Nat.le_trans hxs hx7.size) ?_
      rintro x8 w8 ho8 hg8
      have hx8 : Ext w3 w8 := (ho6.ext hx7).grown (hx6.trans hx7) hx35.size hg8
      have h8 := (h6.ext hx7).same (hg8.block b4 (h6.ext hx7).lt (fun e => by have := (ho6.bound b4 e.symm).1; omega))
      simp only [↓vsd, vsn, gW, qd, qv, ev, pick, argE, zipE, ne_eq, eq_self, forall_const, implies_true, if_true, if_false, reduceIte, reduceCtorEq, Nat.reduceEqDiff, Nat.reduceAdd, Nat.reduceLT, ↓us_sTurnMethod, r_sTurnMethod]
      have hc8 : x8.cells = #[x8] := of_eq_true ho8.sq.oneC
      refine m_st (off := 2) h8 (by rw [hc8]; rfl) (by decide : 2 + 1 ≤ 3) (fun u hu => by
        rw [hc8] at hu
        simp only [List.mem_singleton] at hu
        rw [hu]; exact ho8.sq.one') ?_
      rintro w9 hblk9 hu9
      have h9 : Blk w9 b4 (fM nm st x8) 26 := by
        have : spl (fM nm st x) 2 x8.cells.toList = fM nm st x8 := by rw [hc8]; rfl
        rw [← this]; exact hblk9
      have hx9 : Ext w3 w9 := hu9.below hx8 (by omega)
      simp only [↓vsd, vsn, gW, qd, qv, ev, pick, argE, zipE, ne_eq, eq_self, forall_const, implies_true, if_true, if_false, reduceIte, reduceCtorEq, Nat.reduceEqDiff, Nat.reduceAdd, Nat.reduceLT, ↓us_sTurnMethod, r_sTurnMethod, ei1]
      exact ⟨inR_i64 (by omega), UpTo.next hlt ⟨x8, rfl, h9, (ho8.to hrev.symm).upd hu9 (ho8.away' hb4'), hx9, Nat.le_trans hxs (Nat.le_trans hx7.size (Nat.le_trans hg8.size (Nat.le_of_eq hu9.size.symm)))⟩⟩
    · obtain rfl : j = cs.length := by omega
      have hneg : ¬ (0 : Int) ≤ (cs.length : Int) - 1 - (cs.length : Nat) := by omega
      have hrl : cs.reverse.take cs.length = cs.reverse := List.take_of_length_le (by rw [List.length_reverse]; exact Nat.le_refl _)
      rw [hrl] at ho6
      simp only [↓vsd, vsn, gW, qd, qv, ev, pick, argE, zipE, ne_eq, eq_self, forall_const, implies_true, if_true, if_false, reduceIte, reduceCtorEq, Nat.reduceEqDiff, Nat.reduceAdd, Nat.reduceLT, ↓us_sTurnMethod, r_sTurnMethod, hneg, h6.facts, fMg]
      refine m_st (h23.ext hx6) rfl (Nat.le_refl 3) (fM_one nm st x ho6.sq.one') ?_
      rintro w7 hblk7 hu7
      have h7 : Blk w7 b2 (fM nm st x) 26 := hblk7
      have hx7 : Ext w w7 := hu7.below (hx13.trans hx6) (by have := hx1.size; omega)
      have hlt3 := h23.lt
      have ho7 := (ho6.upd hu7 (ho6.away' (by have := hx35.size; omega))).mono (B' := w.heap.size) (hx13.trans hx35).size
      simp only [↓vsd, vsn, gW, qd, qv, ev, pick, argE, zipE, ne_eq, eq_self, forall_const, implies_true, if_true, if_false, reduceIte, reduceCtorEq, Nat.reduceEqDiff, Nat.reduceAdd, Nat.reduceLT, ↓us_sTurnMethod, r_sTurnMethod, h7.facts, fMg]
      exact ⟨hx7, x, rfl, ho7⟩
  · simp only [↓vsd, vsn, gW, qd, qv, ev, pick, argE, zipE, ne_eq, eq_self, forall_const, implies_true, if_true, if_false, reduceIte, reduceCtorEq, Nat.reduceEqDiff, Nat.reduceAdd, Nat.reduceLT, ↓us_sTurnMethod, r_sTurnMethod, hm, h23.facts, fMg]
    refine m_st h23 rfl (Nat.le_refl 3) (fM_one [] 0 (.slice none 0 0) rfl) ?_
    rintro w6 hblk6 hu6
    have h6 : Blk w6 b2 (fM [] 0 (.slice none 0 0)) 26 := hblk6
    have hx6 : Ext w w6 := hu6.below hx13 (by have := hx1.size; omega)
    simp only [↓vsd, vsn, gW, qd, qv, ev, pick, argE, zipE, ne_eq, eq_self, forall_const, implies_true, if_true, if_false, reduceIte, reduceCtorEq, Nat.reduceEqDiff, Nat.reduceAdd, Nat.reduceLT, ↓us_sTurnMethod, r_sTurnMethod, h6.facts, fMg]
    exact ⟨hx6, rfl⟩
end Go.Proofs.Ytnincmnkdjlndaa
