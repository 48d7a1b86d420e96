/-
  Orbits, of the program: the library's sort of numbers, and the search.
  Conditions: none.
-/
import Derived.Test.YthopbkemkfjebaaKA53
import Derived.Test.YthopbkemkfjebaaKA90
import Derived.Test.YthopbkemkfjebaaKVt
set_option linter.unusedSimpArgs false
set_option linter.unusedVariables false
set_option linter.defProp false
namespace Go.Proofs.Ythopbkemkfjebaa
open Go Go.RowKit
section
variable (P : Program) (k : KT) (e : Env) (w : World)
abbrev b10_1 : X := (.cond (.t 22) (.seq (.reg [4, 5] (.c (.q 4 [] (.mv (.c (.slice none 0 0)))) (.c (.q 5 [] (.mv (.c (.bool false)))) .nil))) .ret) .skip)
def t10_1 := b10_1
theorem u10_1 : vcK P t10_1 k e w = vcK P b10_1 k e w := rfl
abbrev b10_2 : X := (.cond (.t 33) (.exit 1) .skip)
def t10_2 := b10_2
theorem u10_2 : vcK P t10_2 k e w = vcK P b10_2 k e w := rfl
abbrev b10_3 : X := (.cond (.t 43) .skip (.exit 2))
def t10_3 := b10_3
theorem u10_3 : vcK P t10_3 k e w = vcK P b10_3 k e w := rfl
abbrev b10_4 : X := (.reg [0, 6, 7, 9, 10, 26, 27, 46, 47, 48] (.c (.q 71 [] (.mv (.t 9))) (.c (.q 72 [] (.mv (.t 13))) (.c (.e (some 73) [] (.bsl 3 1 [(.t 72)])) (.c (.e (some 74) [] (.app 31 3 1 8 [(.int .i64 0)] 31 (.t 71) (.t 73))) (.c (.q 9 [] (.mv (.t 74))) .nil))))))
def t10_4 := b10_4
theorem u10_4 : vcK P t10_4 k e w = vcK P b10_4 k e w := rfl
abbrev b10_5 : X := (.cond (.t 66) (.seq (.reg [0, 6, 7, 9, 10, 13, 26, 27, 46, 47, 48] (.c (.q 67 [] (.mv (.t 6))) (.c (.q 68 [] (.mv (.t 13))) (.c (.q 69 [] (.bin .sub (.t 68) (.c (.int .i64 1)))) (.c (.q 70 [] (.ia 1 (.t 67) (.t 69))) (.c (.e none [] (.st 1 (.t 70) (.c (.bool true)))) .nil)))))) t10_4) .skip)
def t10_5 := b10_5
theorem u10_5 : vcK P t10_5 k e w = vcK P b10_5 k e w := rfl
abbrev b10_6 : X := (.seq (.reg [0, 6, 7, 9, 10, 13, 26, 27, 46, 47, 48, 66] (.c (.q 61 [] (.mv (.t 6))) (.c (.q 62 [] (.mv (.t 13))) (.c (.q 63 [] (.bin .sub (.t 62) (.c (.int .i64 1)))) (.c (.q 64 [] (.ia 1 (.t 61) (.t 63))) (.c (.q 65 [] (.ld (.t 64))) (.c (.q 66 [] (.not (.t 65))) .nil))))))) t10_5)
def t10_6 := b10_6
theorem u10_6 : vcK P t10_6 k e w = vcK P b10_6 k e w := rfl
abbrev b10_7 : X := (.seq (.reg [0, 6, 7, 9, 10, 13, 26, 27, 46, 47, 48] (.c (.q 52 [] (.mv (.t 12))) (.c (.q 53 [] (.mv (.t 9))) (.c (.q 54 [] (.mv (.t 10))) (.c (.q 55 [] (.ia 1 (.t 53) (.t 54))) (.c (.q 56 [] (.ld (.t 55))) (.c (.q 57 [] (.bin .sub (.t 56) (.c (.int .i64 1)))) (.c (.q 58 [] (.idx (.t 52) (.t 57))) (.c (.q 59 [] (.bin .sub (.t 58) (.c (.int .u8 48)))) (.c (.q 60 [] (.cvi .i64 (.t 59))) (.c (.q 13 [] (.mv (.t 60))) .nil))))))))))) t10_6)
def t10_7 := b10_7
theorem u10_7 : vcK P t10_7 k e w = vcK P b10_7 k e w := rfl
abbrev b10_8 : X := (.reg [0, 6, 7, 9, 10, 26, 27, 46, 47, 48] (.c (.q 75 [] (.bin .add (.t 48) (.c (.int .i64 1)))) (.c (.q 48 [] (.mv (.t 75))) .nil)))
def t10_8 := b10_8
theorem u10_8 : vcK P t10_8 k e w = vcK P b10_8 k e w := rfl
abbrev b10_9 : X := (.seq (.blk 5 (.seq (.reg [0, 6, 7, 9, 10, 12, 26, 27, 46, 47, 48] (.c (.q 50 [] (.ia 1 (.t 46) (.t 48))) (.c (.q 51 [] (.ld (.t 50))) (.c (.q 12 [] (.mv (.t 51))) .nil)))) t10_7)) t10_8)
def t10_9 := b10_9
theorem u10_9 : vcK P t10_9 k e w = vcK P b10_9 k e w := rfl
abbrev b10_10 : X := (.seq (.cond (.t 49) .skip (.exit 4)) t10_9)
def t10_10 := b10_10
theorem u10_10 : vcK P t10_10 k e w = vcK P b10_10 k e w := rfl
abbrev b10_11 : X := (.seq (.reg [0, 6, 7, 9, 10, 26, 27, 46, 47, 48, 49] (.c (.q 49 [] (.bin .lss (.t 48) (.t 47))) .nil)) t10_10)
def t10_11 := b10_11
theorem u10_11 : vcK P t10_11 k e w = vcK P b10_11 k e w := rfl
abbrev b10_12 : X := (.blk 4 (.loop [9, 48] [0, 6, 7, 10, 26, 27, 46, 47] t10_11))
def t10_12 := b10_12
theorem u10_12 : vcK P t10_12 k e w = vcK P b10_12 k e w := rfl
abbrev b10_13 : X := (.reg [0, 6, 7, 9, 10, 26, 27] (.c (.q 44 [] (.mv (.t 10))) (.c (.q 45 [] (.bin .add (.t 44) (.c (.int .i64 1)))) (.c (.q 10 [] (.mv (.t 45))) .nil))))
def t10_13 := b10_13
theorem u10_13 : vcK P t10_13 k e w = vcK P b10_13 k e w := rfl
abbrev b10_14 : X := (.seq (.blk 3 (.seq (.reg [0, 6, 7, 9, 10, 26, 27, 46, 47, 48] (.c (.q 46 [] (.mv (.t 0))) (.c (.q 47 [] (.lens (.t 46))) (.c (.q 48 [] (.mv (.c (.int .i64 0)))) .nil)))) t10_12)) t10_13)
def t10_14 := b10_14
theorem u10_14 : vcK P t10_14 k e w = vcK P b10_14 k e w := rfl
abbrev b10_15 : X := (.seq (.seq (.reg [0, 6, 7, 9, 10, 26, 27, 43] (.c (.q 40 [] (.mv (.t 10))) (.c (.q 41 [] (.mv (.t 9))) (.c (.q 42 [] (.lens (.t 41))) (.c (.q 43 [] (.bin .lss (.t 40) (.t 42))) .nil))))) t10_3) t10_14)
def t10_15 := b10_15
theorem u10_15 : vcK P t10_15 k e w = vcK P b10_15 k e w := rfl
abbrev b10_16 : X := (.blk 2 (.loop [9, 10] [0, 6, 7, 26, 27] t10_15))
def t10_16 := b10_16
theorem u10_16 : vcK P t10_16 k e w = vcK P b10_16 k e w := rfl
abbrev b10_17 : X := (.reg [0, 6, 7, 26, 27] (.c (.q 78 [] (.mv (.t 7))) (.c (.q 79 [] (.mv (.t 9))) (.c (.e (some 80) [] (.bsl 31 1 [(.t 79)])) (.c (.e (some 81) [] (.app 27 31 1 24 [(.slice none 0 0)] 27 (.t 78) (.t 80))) (.c (.q 7 [] (.mv (.t 81))) .nil))))))
def t10_17 := b10_17
theorem u10_17 : vcK P t10_17 k e w = vcK P b10_17 k e w := rfl
abbrev b10_18 : X := (.seq (.reg [0, 6, 7, 9, 26, 27] (.c (.q 76 [] (.mv (.t 9))) (.c (.e (some 77) [] (.call true 58 [(.t 76)])) .nil))) t10_17)
def t10_18 := b10_18
theorem u10_18 : vcK P t10_18 k e w = vcK P b10_18 k e w := rfl
abbrev b10_19 : X := (.seq (.seq (.reg [0, 6, 7, 9, 10, 26, 27] (.c (.q 10 [] (.mv (.c (.int .i64 0)))) .nil)) t10_16) t10_18)
def t10_19 := b10_19
theorem u10_19 : vcK P t10_19 k e w = vcK P b10_19 k e w := rfl
abbrev b10_20 : X := (.seq (.reg [0, 6, 7, 9, 26, 27] (.c (.q 37 [] (.mv (.t 8))) (.c (.q 38 [] (.bin .add (.t 37) (.c (.int .i64 1)))) (.c (.e (some 39) [] (.bsl 3 1 [(.t 38)])) (.c (.q 9 [] (.mv (.t 39))) .nil))))) t10_19)
def t10_20 := b10_20
theorem u10_20 : vcK P t10_20 k e w = vcK P b10_20 k e w := rfl
abbrev b10_21 : X := (.seq (.reg [0, 6, 7, 8, 26, 27] (.c (.q 34 [] (.mv (.t 6))) (.c (.q 35 [] (.mv (.t 8))) (.c (.q 36 [] (.ia 1 (.t 34) (.t 35))) (.c (.e none [] (.st 1 (.t 36) (.c (.bool true)))) .nil))))) t10_20)
def t10_21 := b10_21
theorem u10_21 : vcK P t10_21 k e w = vcK P b10_21 k e w := rfl
abbrev b10_22 : X := (.seq (.seq (.reg [0, 6, 7, 8, 26, 27, 33] (.c (.q 30 [] (.mv (.t 6))) (.c (.q 31 [] (.mv (.t 8))) (.c (.q 32 [] (.ia 1 (.t 30) (.t 31))) (.c (.q 33 [] (.ld (.t 32))) .nil))))) t10_2) t10_21)
def t10_22 := b10_22
theorem u10_22 : vcK P t10_22 k e w = vcK P b10_22 k e w := rfl
abbrev b10_23 : X := (.reg [0, 6, 7, 26, 27] (.c (.q 82 [] (.bin .add (.t 27) (.c (.int .i64 1)))) (.c (.q 27 [] (.mv (.t 82))) .nil)))
def t10_23 := b10_23
theorem u10_23 : vcK P t10_23 k e w = vcK P b10_23 k e w := rfl
abbrev b10_24 : X := (.seq (.blk 1 (.seq (.reg [0, 6, 7, 8, 26, 27] (.c (.q 29 [] (.mv (.t 27))) (.c (.q 8 [] (.mv (.t 29))) .nil))) t10_22)) t10_23)
def t10_24 := b10_24
theorem u10_24 : vcK P t10_24 k e w = vcK P b10_24 k e w := rfl
abbrev b10_25 : X := (.seq (.cond (.t 28) .skip (.exit 0)) t10_24)
def t10_25 := b10_25
theorem u10_25 : vcK P t10_25 k e w = vcK P b10_25 k e w := rfl
abbrev b10_26 : X := (.seq (.reg [0, 6, 7, 26, 27, 28] (.c (.q 28 [] (.bin .lss (.t 27) (.t 26))) .nil)) t10_25)
def t10_26 := b10_26
theorem u10_26 : vcK P t10_26 k e w = vcK P b10_26 k e w := rfl
abbrev b10_27 : X := (.blk 0 (.loop [7, 27] [0, 6, 26] t10_26))
def t10_27 := b10_27
theorem u10_27 : vcK P t10_27 k e w = vcK P b10_27 k e w := rfl
abbrev b10_28 : X := (.seq (.reg [4, 5] (.c (.q 83 [] (.mv (.t 7))) (.c (.q 4 [] (.mv (.t 83))) (.c (.q 5 [] (.mv (.c (.bool true)))) .nil)))) .ret)
def t10_28 := b10_28
theorem u10_28 : vcK P t10_28 k e w = vcK P b10_28 k e w := rfl
abbrev b10_29 : X := (.seq (.seq (.reg [0, 6, 7, 26, 27] (.c (.q 26 [] (.mv (.t 1))) (.c (.q 27 [] (.mv (.c (.int .i64 0)))) .nil))) t10_27) t10_28)
def t10_29 := b10_29
theorem u10_29 : vcK P t10_29 k e w = vcK P b10_29 k e w := rfl
abbrev b10_30 : X := (.seq (.reg [0, 1, 6, 7] (.c (.e (some 25) [] (.bsl 31 1 [])) (.c (.q 7 [] (.mv (.t 25))) .nil))) t10_29)
def t10_30 := b10_30
theorem u10_30 : vcK P t10_30 k e w = vcK P b10_30 k e w := rfl
abbrev b10_31 : X := (.seq (.reg [0, 1, 6] (.c (.q 23 [] (.mv (.t 1))) (.c (.e (some 24) [] (.msl 85 4 1 1 [(.bool false)] (.t 23) (.t 23))) (.c (.q 6 [] (.mv (.t 24))) .nil)))) t10_30)
def t10_31 := b10_31
theorem u10_31 : vcK P t10_31 k e w = vcK P b10_31 k e w := rfl
abbrev b10_32 : X := (.seq (.seq (.reg [0, 1, 22] (.c (.q 14 [] (.mv (.t 1))) (.c (.e (some 15) [] (.call false 56 [(.t 14)])) (.c (.q 16 [] (.not (.t 15))) (.c (.q 17 [] (.mv (.t 16))) (.c (.q 18 [(17, false)] (.mv (.t 1))) (.c (.q 19 [(17, false)] (.mv (.t 0))) (.c (.e (some 20) [(17, false)] (.call false 57 [(.t 18), (.t 19)])) (.c (.q 21 [(17, false)] (.not (.t 20))) (.c (.q 22 [] (.pick (.t 17) (.c (.bool true)) (.t 21))) .nil)))))))))) t10_1) t10_31)
def t10_32 := b10_32
theorem u10_32 : vcK P t10_32 k e w = vcK P b10_32 k e w := rfl
abbrev b10_0 : X := (.seq (.reg [0, 1] (.c (.q 4 [] (.mv (.c (.slice none 0 0)))) (.c (.q 5 [] (.mv (.c (.bool false)))) .nil))) t10_32)
def x_iOrbitsOf := b10_0
theorem u10_0 : vcK P x_iOrbitsOf k e w = vcK P b10_0 k e w := rfl
def r_iOrbitsOf : List XO := [(.mv (.t 4)), (.mv (.t 5))]
theorem c_iOrbitsOf : convF Try.prog [54, 55, 58, 69, 70, 71, 72, 73, 84, 89, 94, 95, 113, 114, 115, 130, 134, 143, 146, 161] Try.f10 [([0, 1], []), ([0, 1, 22], []), ([4, 5], []), ([0, 1, 6], []), ([0, 1, 6, 7], []), ([0, 6, 7, 26, 27], []), ([7, 27], [0, 6, 26]), ([0, 6, 7, 26, 27, 28], []), ([0, 6, 7, 8, 26, 27], []), ([0, 6, 7, 8, 26, 27, 33], []), ([0, 6, 7, 8, 26, 27], []), ([0, 6, 7, 9, 26, 27], []), ([0, 6, 7, 9, 10, 26, 27], []), ([9, 10], [0, 6, 7, 26, 27]), ([0, 6, 7, 9, 10, 26, 27, 43], []), ([0, 6, 7, 9, 10, 26, 27, 46, 47, 48], []), ([9, 48], [0, 6, 7, 10, 26, 27, 46, 47]), ([0, 6, 7, 9, 10, 26, 27, 46, 47, 48, 49], []), ([0, 6, 7, 9, 10, 12, 26, 27, 46, 47, 48], []), ([0, 6, 7, 9, 10, 13, 26, 27, 46, 47, 48], []), ([0, 6, 7, 9, 10, 13, 26, 27, 46, 47, 48, 66], []), ([0, 6, 7, 9, 10, 13, 26, 27, 46, 47, 48], []), ([0, 6, 7, 9, 10, 26, 27, 46, 47, 48], []), ([0, 6, 7, 9, 10, 26, 27, 46, 47, 48], []), ([0, 6, 7, 9, 10, 26, 27], []), ([0, 6, 7, 9, 26, 27], []), ([0, 6, 7, 26, 27], []), ([0, 6, 7, 26, 27], []), ([4, 5], [])] = some (x_iOrbitsOf, r_iOrbitsOf) := by kernel_rfl
def us_iOrbitsOf :=  (aI (aI (aI (aI (aI @u10_0 @u10_1) (aI @u10_2 @u10_3)) (aI (aI @u10_4 @u10_5) (aI @u10_6 @u10_7))) (aI (aI (aI @u10_8 @u10_9) (aI @u10_10 @u10_11)) (aI (aI @u10_12 @u10_13) (aI @u10_14 @u10_15)))) (aI (aI (aI (aI @u10_16 @u10_17) (aI @u10_18 @u10_19)) (aI (aI @u10_20 @u10_21) (aI @u10_22 @u10_23))) (aI (aI (aI @u10_24 @u10_25) (aI @u10_26 @u10_27)) (aI (aI @u10_28 @u10_29) (aI @u10_30 (aI @u10_31 @u10_32))))))
end
section
variable {w : World} {g n : Nat} {os : Array Obj}
theorem heap_int {cur : Array Value} {e : TypeId} {fr : Nat × Nat} (d : Array Int) (hb : w.heap[g]? = some (.cells cur e fr)) :
    (Go.Sort.grow (Go.Sort.putRow (Value.int .i64) (Go.Sort.ahead w n) g 0 d) os).heap[g]? = some (.cells (Go.Sort.putCells (Value.int .i64) 0 d cur) e fr) := by
  have hg : g < w.heap.size := (Array.getElem?_eq_some_iff.1 hb).1
  rw [Go.Sort.heap_grow_old _ _ (by simpa using hg)]
  simp [Go.Sort.putRow, Go.Sort.mapBlock, Go.Sort.ahead, Array.getElem?_modify, hb, Go.Sort.onCells]
theorem grown_int (d : Array Int) : w.grownBy (Go.Sort.grow (Go.Sort.putRow (Value.int .i64) (Go.Sort.ahead w n) g 0 d) os) (some g) := by
  refine ⟨rfl, rfl, rfl, by simp, fun k hk hne => ?_⟩
  rw [Go.Sort.heap_grow_old _ _ (by simpa using hk)]
  have : g ≠ k := fun e => hne (by rw [e])
  simp [Go.Sort.putRow, Go.Sort.mapBlock, Go.Sort.ahead, Array.getElem?_modify, this]
theorem take_int (cur : Array Value) (ts : List Int) (h : ts.length ≤ cur.size) : (Go.Sort.putCells (Value.int .i64) 0 ts.toArray cur).toList.take ts.length = ts.map (Value.int .i64) := by
  apply List.ext_getElem?
  intro j
  by_cases hj : j < ts.length
  · rw [List.getElem?_take_of_lt hj, Array.getElem?_toList]
    simp [Go.Sort.putCells, hj, show j < cur.size by omega]
  · rw [List.getElem?_take_eq_none (by omega), List.getElem?_eq_none (by simp; omega)]
end
/-- The numbers, rising. -/
def srtI (l : List Int) : List Int := l.mergeSort fun x y => decide (x ≤ y)
theorem srtI_perm (l : List Int) : (srtI l).Perm l := List.mergeSort_perm l _
theorem srtI_len (l : List Int) : (srtI l).length = l.length := (srtI_perm l).length_eq
theorem holds_int {w : World} {g : Nat} {cur : List Value} {E : TypeId} {l : List Int} (h : Blk w g cur E) (ht : cur.take l.length = l.flatMap fI) : Go.Sort.Holds (Value.int .i64) w g 0 l.toArray := by
  intro j hj
  have hj' : j < l.length := by simpa using hj
  have e : cur[j]? = some (.int .i64 (l.getD j 0)) := by
    have h1 : (cur.take l.length)[j]? = (l.flatMap fI)[j]? := by rw [ht]
    rw [List.getElem?_take_of_lt hj'] at h1
    rw [h1]
    have := flat_getD (f := fI) fI_len 0 l j 0 hj' (by omega)
    have hl := flat_len (f := fI) fI_len l
    rw [Nat.mul_one, Nat.add_zero, List.getD_eq_getElem?_getD, List.getElem?_eq_getElem (by omega)] at this
    rw [List.getElem?_eq_getElem (by omega)]
    exact congrArg some this
  have hjc : j < cur.length := (List.getElem?_eq_some_iff.1 e).1
  rw [Nat.zero_add]
  refine ⟨?_, h.frozen j hjc⟩
  rw [h.cell, e, List.getD_eq_getElem?_getD, List.getElem?_eq_getElem hj']
  simp [hj']
theorem xslices_Sort_int_int_ok {B : Nat} (v : Value) (l : List Int) (hl : l.length ≤ 1000000000) (hv : 0 < l.length) (w : World) (h : Own fI 1 3 B w v l) :
    CallsV Try.prog 58 [v] w (fun _ w' => Own fI 1 3 B w' v (srtI l) ∧ w.grownBy w' v.ownBlock) := by
  rcases h.2 with ⟨_, rfl⟩ | ⟨g, cap, cur, rfl, hB, hb, hle, hcm, hcl, hct⟩
  · simp at hv
  · rw [Nat.mul_one] at hcl hct
    refine Calls.mono (Try.slices_Sort_int g 0 cap l w (holds_int hb hct) hb.lt (by omega)) ?_
    rintro e w' ⟨rfl, n, os, rfl⟩
    obtain ⟨fz, hr, hfz⟩ := blk_raw hb
    have hsl : (srtI l).length = l.length := srtI_len l
    refine ⟨_, rfl, ⟨fI_len, .inr ⟨g, cap, (Go.Sort.putCells (Value.int .i64) 0 (srtI l).toArray ⟨cur⟩).toList, by rw [hsl], hB, ⟨fz, heap_int _ hr, ?_⟩, by rw [hsl]; exact hle, hcm, ?_, ?_⟩⟩, grown_int _⟩
    · rcases hfz with h0 | h0
      · exact .inl h0
      · exact .inr (by simpa [Go.Sort.putCells] using h0)
    · simpa [Go.Sort.putCells] using hcl
    · rw [Nat.mul_one]
      have := take_int ⟨cur⟩ (srtI l) (by simp [hsl]; omega)
      rw [this]
      induction srtI l with
      | nil => rfl
      | cons a l ih => rw [List.map_cons, List.flatMap_cons, ih]; rfl
theorem srtI_eq {l m : List Int} (hp : l.Perm m) (hm : m.Pairwise (· ≤ ·)) : srtI l = m := by
  have h1 : (srtI l).Perm m := (srtI_perm l).trans hp
  have h2 : (srtI l).Pairwise (· ≤ ·) := by
    have := List.pairwise_mergeSort (le := fun x y : Int => decide (x ≤ y)) (fun a b c h1 h2 => by simp only [decide_eq_true_eq] at *; omega) (fun a b => by simp only [Bool.or_eq_true, decide_eq_true_eq]; omega) l
    exact this.imp fun h => by simpa using h
  exact List.Perm.eq_of_pairwise (fun a b _ _ h1 h2 => by omega) h2 hm h1
theorem range_le (n : Nat) : (List.range n).Pairwise (· ≤ ·) := by
  induction n with
  | zero => simp
  | succ n ih =>
    rw [List.range_succ, List.pairwise_append]
    exact ⟨ih, by simp, fun a ha b hb => by have := List.mem_range.1 ha; have := List.mem_singleton.1 hb; omega⟩
theorem cls_sorted (P : List Nat) (n c : Nat) : (clsL P n c).Pairwise (· ≤ ·) := by
  unfold clsL clsN
  rw [List.pairwise_map]
  exact ((range_le n).filter _).imp fun h => by omega
/-- A list of the places of a label, each once, sorted. -/
theorem srt_cls {P : List Nat} {n c : Nat} {O : List Nat} (hn : O.Nodup) (hm : ∀ q, q ∈ O ↔ q ∈ clsN P n c) : srtI (O.map fun q : Nat => (q : Int) + 1) = clsL P n c := by
  refine srtI_eq ?_ (cls_sorted P n c)
  unfold clsL
  exact List.Perm.map _ ((List.perm_ext_iff_of_nodup hn (clsN_nodup P n c)).2 hm)
/-- Which places were met before the label c, or lie in O. -/
def SeenL (P : List Nat) (n c : Nat) (O : List Nat) (L : List Bool) : Prop := L.length = n ∧ ∀ p, p < n → (L.getD p false = true ↔ P.getD p 0 < c ∨ p ∈ O)
def upI (O : List Nat) : List Int := O.map fun q : Nat => (q : Int) + 1
theorem upI_len (O : List Nat) : (upI O).length = O.length := by simp [upI]
theorem upI_get (O : List Nat) (i : Nat) (h : i < O.length) : (upI O).getD i 0 = (O.getD i 0 : Int) + 1 := by
  unfold upI
  rw [List.getD_eq_getElem?_getD, List.getElem?_map, List.getD_eq_getElem?_getD, List.getElem?_eq_getElem h]; rfl
theorem SeenL.put {P : List Nat} {n c : Nat} {O : List Nat} {L : List Bool} (h : SeenL P n c O L) {q : Nat} (hq : q < n) : SeenL P n c (O ++ [q]) (L.set q true) := by
  refine ⟨by rw [List.length_set, h.1], fun p hp => ?_⟩
  rw [getD_set]
  by_cases e : q = p
  · rw [if_pos ⟨e, by rw [h.1]; exact hp⟩]
    exact ⟨fun _ => .inr (by rw [e]; simp), fun _ => rfl⟩
  · rw [if_neg (fun hh => e hh.1), h.2 p hp]
    constructor
    · rintro (h1 | h1)
      · exact .inl h1
      · exact .inr (List.mem_append.2 (.inl h1))
    · rintro (h1 | h1)
      · exact .inl h1
      · rcases List.mem_append.1 h1 with h2 | h2
        · exact .inr h2
        · exact absurd (List.mem_singleton.1 h2).symm e
/-- An orbit in the making: all that stands before place k is closed. -/
structure Bfs (l : List Bs) (n c : Nat) (O : List Nat) (k : Nat) : Prop where
  nodup : O.Nodup
  has : c ∈ O
  cls : ∀ q ∈ O, q < n ∧ (labF l n).getD q 0 = c
  closed : ∀ i < k, ∀ g ∈ l, bell g (O.getD i 0) ∈ O
  le : k ≤ O.length
theorem Bfs.small {l : List Bs} {n c : Nat} {O : List Nat} {k : Nat} (h : Bfs l n c O k) : O.length ≤ n := by
  have := sub_lenP h.nodup (B := List.range n) fun q hq => List.mem_range.2 (h.cls q hq).1
  rwa [List.length_range] at this
theorem Bfs.more {l : List Bs} {n c : Nat} {O : List Nat} {k : Nat} (h : Bfs l n c O k) {q : Nat} (hq : q < n) (hc : (labF l n).getD q 0 = c) (hno : q ∉ O) : Bfs l n c (O ++ [q]) k := by
  refine ⟨List.nodup_append.2 ⟨h.nodup, by simp, fun a ha b hb e => hno (by rw [← List.mem_singleton.1 hb, ← e]; exact ha)⟩, List.mem_append.2 (.inl h.has), fun x hx => ?_, fun i hi g hg => ?_, by rw [List.length_append]; have := h.le; omega⟩
  · rcases List.mem_append.1 hx with h1 | h1
    · exact h.cls x h1
    · rw [List.mem_singleton.1 h1]; exact ⟨hq, hc⟩
  · have e : (O ++ [q]).getD i 0 = O.getD i 0 := by rw [List.getD_eq_getElem?_getD, List.getElem?_append_left (by have := h.le; omega), List.getD_eq_getElem?_getD]
    rw [e]
    exact List.mem_append.2 (.inl (h.closed i hi g hg))
theorem iOrbitsOf_ok (v : Value) (l : List Bs) (n : Int) (hl : l.length ≤ 1000000) (w : World) (h : Sq fS 1 w v l) : Fn 10 [v, .int .i64 n] w (fun r w' => ∃ y, r = .tuple ⟨[y, .bool (decide (OrbOk l n))]⟩ ∧ Sq2 fI w' y (orbV l n)) := by
  (refine callsV_of mix Try.func10 c_iOrbitsOf ?_; simp only [↓vsd, vsn, gW, qd, qv, ev, pick, argE, zipE, ne_eq, eq_self, forall_const, implies_true, if_true, if_false, reduceIte, reduceCtorEq, Nat.reduceEqDiff, Nat.reduceAdd, Nat.reduceLT, ↓us_iOrbitsOf, r_iOrbitsOf])
  refine m_call (iisStage_ok n _) ?_
  rintro _ w1 hx1 rfl
  have hq1 := h.ext hx1
  have hno : ¬ OrbOk l n → ∀ w', ∃ y, Value.tuple ⟨[.slice none 0 0, .bool false]⟩ = .tuple ⟨[y, .bool (decide (OrbOk l n))]⟩ ∧ Sq2 fI w' y (orbV l n) := fun hn w' =>
    ⟨_, by rw [decide_eq_false hn], by rw [orbV, if_neg hn]; exact (NestU.nil (E1 := 3) (E2 := 31) (B := 0) (T := 0)).sq⟩
  by_cases hn : 3 ≤ n ∧ n ≤ 8
  · obtain ⟨n, rfl⟩ : ∃ m : Nat, n = m := ⟨n.toNat, by omega⟩
    have h38 : 3 ≤ n ∧ n ≤ 8 := by omega
    have hnd : (decide ((3 : Int) ≤ (n : Int)) && decide ((n : Int) ≤ (8 : Int))) = true := by rw [Bool.and_eq_true, decide_eq_true_eq, decide_eq_true_eq]; omega
    simp only [↓vsd, vsn, gW, qd, qv, ev, pick, argE, zipE, ne_eq, eq_self, forall_const, implies_true, if_true, if_false, reduceIte, reduceCtorEq, Nat.reduceEqDiff, Nat.reduceAdd, Nat.reduceLT, ↓us_iOrbitsOf, r_iOrbitsOf, hnd]
    refine m_call (iareRowsOf_ok n v l (by omega) _ hq1) ?_
    rintro _ w2 hx2 rfl
    have hx2 : Ext w1 w2 := by first | exact hx2 | exact ud hx2 | exact ud (ud hx2)
    have hx12 := hx1.trans hx2
    by_cases hr : AreRows n l
    · have hok : OrbOk l n := ⟨hn, hr⟩
      have hg := hr.n
      simp only [↓vsd, vsn, gW, qd, qv, ev, pick, argE, zipE, ne_eq, eq_self, forall_const, implies_true, if_true, if_false, reduceIte, reduceCtorEq, Nat.reduceEqDiff, Nat.reduceAdd, Nat.reduceLT, ↓us_iOrbitsOf, r_iOrbitsOf, hr]
      refine m_msl (B := w2.heap.size) false fB_len rfl (by omega) (by decide) (Nat.le_refl _) ?_
      rintro z w3 hz3 hzb hx3
      have hx3 : Ext w2 w3 := by first | exact hx3 | exact ud hx3 | exact ud (ud hx3)
      have hzlt : ∀ c, z.ownBlock = some c → w2.heap.size ≤ c ∧ c < w3.heap.size := fun c hc => ⟨(hz3.bound c hc).1, hz3.lt c hc⟩
      simp only [↓vsd, vsn, gW, qd, qv, ev, pick, argE, zipE, ne_eq, eq_self, forall_const, implies_true, if_true, if_false, reduceIte, reduceCtorEq, Nat.reduceEqDiff, Nat.reduceAdd, Nat.reduceLT, ↓us_iOrbitsOf, r_iOrbitsOf]
      refine m_bsl (by simp) ?_
      rintro b4 w4 hb4 hblk4 hx4 hs4
      have hx4 : Ext w3 w4 := by first | exact hx4 | exact ud hx4 | exact ud (ud hx4)
      have hN4 : NestU fI 3 31 w3.heap.size w4.heap.size w4 (.slice (some ⟨b4, 0, none⟩) 0 0) ([] : List (List Int)) :=
        ⟨[], (Own.empty fSV_len hblk4 (by omega)).to rfl, (fun c hc => by
          simp only [Value.ownBlock, Option.some.injEq] at hc
          omega), rfl, fun i hi => by simp at hi⟩
      simp only [↓vsd, vsn, gW, qd, qv, ev, pick, argE, zipE, ne_eq, eq_self, forall_const, implies_true, if_true, if_false, reduceIte, reduceCtorEq, Nat.reduceEqDiff, Nat.reduceAdd, Nat.reduceLT, ↓us_iOrbitsOf, r_iOrbitsOf]
      generalize hPF : labF l n = P
      have hself : ∀ p, p < n → P.getD p 0 ≤ p ∧ P.getD (P.getD p 0) 0 = P.getD p 0 := fun p hp => by rw [← hPF]; exact labF_self hg hp
      have hstep : ∀ g ∈ l, ∀ p, p < n → P.getD (bell g p) 0 = P.getD p 0 := fun g hm p hp => by rw [← hPF]; exact labF_step hg hm hp
      have hfirst : ∀ c, c < n → (clsN P n c = [] ↔ P.getD c 0 ≠ c) := fun c hc => by rw [← hPF]; exact cls_first hg hc
      refine m_upto n (fun i vs w' => ∃ y, vs = [y, .int .i64 i] ∧ (∃ L, SeenL P n i [] L ∧ Own fB 1 4 w2.heap.size w' z L) ∧ NestU fI 3 31 w3.heap.size w'.heap.size w' y (orbK P n i) ∧ (orbK P n i).length ≤ i ∧ Ext w2 w' ∧ w3.heap.size ≤ w'.heap.size) ⟨_, rfl, ⟨_, ⟨by simp, fun p hp => by simp [List.getD_eq_getElem?_getD, List.getElem?_replicate, hp]⟩, hz3.ext hx4⟩, hN4, by simp [orbK], hx3.trans hx4, hx4.size⟩ ?_
      rintro i vs w5 hi ⟨y, rfl, ⟨L, hL, hz5⟩, hN5, hc5, hx5, hs35⟩
      by_cases hli : i < n
      · have hliI : (i : Int) < (n : Int) := by omega
        have hliJ : ¬ (n : Int) ≤ i := by omega
        have f5 := hz5.sq.facts
        have b5 := hz5.sq.at1 false (i := i) (by rw [hL.1]; exact hli)
        have hos := orbK_succ P n i
        have hsi := hself i hli
        cases hLi : L.getD i false with
        | true =>
          have hlt : P.getD i 0 < i := by
            have := (hL.2 i hli).1 hLi
            rcases this with h1 | h1
            · exact h1
            · cases h1
          have he0 : clsN P n i = [] := (hfirst i hli).2 (by omega)
          rw [hLi] at b5
          rw [if_pos he0, List.append_nil] at hos
          have hLl := hL.1
          simp only [↓vsd, vsn, gW, qd, qv, ev, pick, argE, zipE, ne_eq, eq_self, forall_const, implies_true, if_true, if_false, reduceIte, reduceCtorEq, Nat.reduceEqDiff, Nat.reduceAdd, Nat.reduceLT, ↓us_iOrbitsOf, r_iOrbitsOf, hliI, hliJ, f5, b5]
          refine ⟨⟨by omega, by omega⟩, inR_i64 (by omega), UpTo.next hli ⟨y, rfl, ⟨L, ⟨hL.1, fun p hp => ?_⟩, hz5⟩, hN5.to hos.symm, by rw [hos]; omega, hx5, hs35⟩⟩
          rw [hL.2 p hp]
          have hne : P.getD p 0 ≠ i := fun e => by
            have : p ∈ clsN P n i := (clsN_mem _ _ _ _).2 ⟨hp, e⟩
            rw [he0] at this
            cases this
          constructor
          · rintro (h1 | h1)
            · exact .inl (by omega)
            · cases h1
          · rintro (h1 | h1)
            · exact .inl (by omega)
            · cases h1
        | false =>
          have heq : P.getD i 0 = i := by
            have : ¬ (P.getD i 0 < i ∨ i ∈ ([] : List Nat)) := fun hh => by rw [(hL.2 i hli).2 hh] at hLi; cases hLi
            have : ¬ P.getD i 0 < i := fun hh => this (.inl hh)
            omega
          rw [hLi] at b5
          have hLl := hL.1
          simp only [↓vsd, vsn, gW, qd, qv, ev, pick, argE, zipE, ne_eq, eq_self, forall_const, implies_true, if_true, if_false, reduceIte, reduceCtorEq, Nat.reduceEqDiff, Nat.reduceAdd, Nat.reduceLT, ↓us_iOrbitsOf, r_iOrbitsOf, hliI, hliJ, f5, b5]
          refine ⟨⟨by omega, by omega⟩, ⟨by omega, by omega⟩, m_set1 i true hz5 rfl (by omega) rfl fB_one ?_⟩
          rintro w6 hz6 hg6 hs6
          have hL6 := hL.put (q := i) hli
          rw [List.nil_append] at hL6
          have hx6 := hz5.grown hx5 (Nat.le_refl _) hg6
          have hN6 := hN5.off hg6 (fun c hc => .inl (by have := hzlt c hc; omega))
          have hs6' := hg6.size
          simp only [↓vsd, vsn, gW, qd, qv, ev, pick, argE, zipE, ne_eq, eq_self, forall_const, implies_true, if_true, if_false, reduceIte, reduceCtorEq, Nat.reduceEqDiff, Nat.reduceAdd, Nat.reduceLT, ↓us_iOrbitsOf, r_iOrbitsOf]
          refine ⟨inR_i64 (by omega), m_bsl (fun p hp => by simp only [List.mem_cons, List.not_mem_nil, or_false] at hp; rw [hp]; rfl) ?_⟩
          rintro b7 w7 hb7 hblk7 hx7 hs7
          have hx7 : Ext w6 w7 := by first | exact hx7 | exact ud hx7 | exact ud (ud hx7)
          have hx27 := hx6.trans hx7
          have hz7 := hz6.ext hx7
          have hN7 := hN6.ext hx7
          have ho7 : Own fI 1 3 w6.heap.size w7 (.slice (some ⟨b7, 0, none⟩) 1 1) (upI [i]) :=
            ⟨fI_len, .inr ⟨b7, 1, _, rfl, by omega, hblk7, Nat.le_refl _, by unfold maxLen; omega, rfl, rfl⟩⟩
          have hB7 : Bfs l n i [i] 0 := ⟨by simp, by simp, fun q hq => by rw [List.mem_singleton.1 hq, hPF]; exact ⟨hli, heq⟩, fun j hj => absurd hj (Nat.not_lt_zero j), Nat.zero_le _⟩
          simp only [↓vsd, vsn, gW, qd, qv, ev, pick, argE, zipE, ne_eq, eq_self, forall_const, implies_true, if_true, if_false, reduceIte, reduceCtorEq, Nat.reduceEqDiff, Nat.reduceAdd, Nat.reduceLT, ↓us_iOrbitsOf, r_iOrbitsOf]
          refine m_upto n (fun k vs w' => ∃ x O, vs = [x, .int .i64 k] ∧ Bfs l n i O k ∧ (∃ L, SeenL P n i O L ∧ Own fB 1 4 w2.heap.size w' z L) ∧ Own fI 1 3 w6.heap.size w' x (upI O) ∧ NestU fI 3 31 w3.heap.size w6.heap.size w' y (orbK P n i) ∧ Ext w2 w' ∧ w6.heap.size ≤ w'.heap.size) ⟨_, _, rfl, hB7, ⟨_, hL6, hz7⟩, ho7, by rw [hs6]; exact hN7, hx27, hx7.size⟩ ?_
          rintro k vs w8 hk ⟨x, O, rfl, hB8, ⟨L8, hL8, hz8⟩, ho8, hN8, hx8, hs68⟩
          have hOn := hB8.small
          have hOk := hB8.le
          have hup := upI_len O
          have f8 := ho8.sq.facts
          by_cases hlk : k < O.length
          · have hlkI : (k : Int) < ((upI O).length : Nat) := by omega
            have hq8 := (h.ext (hx12.trans hx8)).facts
            simp only [↓vsd, vsn, gW, qd, qv, ev, pick, argE, zipE, ne_eq, eq_self, forall_const, implies_true, if_true, if_false, reduceIte, reduceCtorEq, Nat.reduceEqDiff, Nat.reduceAdd, Nat.reduceLT, ↓us_iOrbitsOf, r_iOrbitsOf, f8, hlkI, hq8]
            have hqm : O.getD k 0 ∈ O := by rw [List.getD_eq_getElem?_getD, List.getElem?_eq_getElem hlk]; exact List.getElem_mem hlk
            obtain ⟨hqn, hqc⟩ := hB8.cls _ hqm
            rw [hPF] at hqc
            generalize hq0 : O.getD k 0 = q at *
            refine m_upto l.length (fun j vs w' => ∃ x O, vs = [x, .int .i64 j] ∧ Bfs l n i O k ∧ (k < O.length ∧ O.getD k 0 = q) ∧ (∀ g ∈ l.take j, bell g q ∈ O) ∧ (∃ L, SeenL P n i O L ∧ Own fB 1 4 w2.heap.size w' z L) ∧ Own fI 1 3 w6.heap.size w' x (upI O) ∧ NestU fI 3 31 w3.heap.size w6.heap.size w' y (orbK P n i) ∧ Ext w2 w' ∧ w6.heap.size ≤ w'.heap.size) ⟨x, O, rfl, hB8, ⟨hlk, hq0⟩, by simp, ⟨L8, hL8, hz8⟩, ho8, hN8, hx8, hs68⟩ ?_
            rintro j vs w9 hj ⟨x9, O9, rfl, hB9, ⟨hk9, hq9⟩, hcl9, ⟨L9, hL9, hz9⟩, ho9, hN9, hx9, hs69⟩
            have hO9 := hB9.small
            have hup9 := upI_len O9
            have hq9' := h.ext (hx12.trans hx9)
            by_cases hlj : j < l.length
            · have hljI : (j : Int) < l.length := by omega
              have hljJ : ¬ (l.length : Int) ≤ j := by omega
              have a9 := hq9'.at1 [] hlj
              have hgm := getD_mem [] hlj
              have hgr := hg _ hgm
              have hsn : l.take (j + 1) = l.take j ++ [l.getD j []] := by rw [List.take_add_one, List.getElem?_eq_getElem hlj, List.getD_eq_getElem?_getD, List.getElem?_eq_getElem hlj]; rfl
              generalize l.getD j [] = g at *
              have hbl : bell g q < n := edge_lt hg hgm hqn
              have hbc := hstep g hgm q hqn
              have hlow := hgr.1.low (i := q) (by rw [hgr.2]; exact hqn)
              have hx256 : (g.getD q 0).toNat < 256 := (g.getD q 0).toNat_lt
              have hbI : ((g.getD q 0).toNat : Int) - 48 = ((bell g q + 1 : Nat) : Int) := by unfold bell; omega
              have hgl : g.length = n := hgr.2
              have f9 := ho9.sq.facts
              have b9 := ho9.sq.at1 0 (i := k) (by omega)
              rw [upI_get O9 k hk9, hq9] at b9
              have e1 : (q : Int) + 1 - 1 = (q : Int) := by omega
              have e2 : ((bell g q + 1 : Nat) : Int) - 1 = (bell g q : Nat) := by omega
              have g9 := hz9.sq.facts
              have c9 := hz9.sq.at1 false (i := bell g q) (by rw [hL9.1]; exact hbl)
              have hLl9 := hL9.1
              cases hLb : L9.getD (bell g q) false with
              | true =>
                rw [hLb] at c9
                have hin : bell g q ∈ O9 := by
                  rcases (hL9.2 _ hbl).1 hLb with h1 | h1
                  · omega
                  · exact h1
                simp only [↓vsd, vsn, gW, qd, qv, ev, pick, argE, zipE, ne_eq, eq_self, forall_const, implies_true, if_true, if_false, reduceIte, reduceCtorEq, Nat.reduceEqDiff, Nat.reduceAdd, Nat.reduceLT, ↓us_iOrbitsOf, r_iOrbitsOf, hljI, hljJ, hq9'.facts, a9, f9, b9, e1, hbI, e2, g9, c9]
                refine ⟨by omega, ⟨by omega, by omega⟩, inR_i64 (by omega), ⟨by omega, by omega⟩, inR_u8 (by omega), inR_i64 (by omega), inR_i64 (by omega), ⟨by omega, by omega⟩, inR_i64 (by omega), UpTo.next hlj ⟨x9, O9, rfl, hB9, ⟨hk9, hq9⟩, fun g' hg' => ?_, ⟨L9, hL9, hz9⟩, ho9, hN9, hx9, hs69⟩⟩
                rw [hsn] at hg'
                rcases List.mem_append.1 hg' with h1 | h1
                · exact hcl9 g' h1
                · rw [List.mem_singleton.1 h1]; exact hin
              | false =>
                rw [hLb] at c9
                have hnin : bell g q ∉ O9 := fun hh => by rw [(hL9.2 _ hbl).2 (.inr hh)] at hLb; cases hLb
                simp only [↓vsd, vsn, gW, qd, qv, ev, pick, argE, zipE, ne_eq, eq_self, forall_const, implies_true, if_true, if_false, reduceIte, reduceCtorEq, Nat.reduceEqDiff, Nat.reduceAdd, Nat.reduceLT, ↓us_iOrbitsOf, r_iOrbitsOf, hljI, hljJ, hq9'.facts, a9, f9, b9, e1, hbI, e2, g9, c9]
                refine ⟨by omega, ⟨by omega, by omega⟩, inR_i64 (by omega), ⟨by omega, by omega⟩, inR_u8 (by omega), inR_i64 (by omega), inR_i64 (by omega), ⟨by omega, by omega⟩, inR_i64 (by omega), ⟨by omega, by omega⟩, m_set1 (bell g q) true hz9 rfl (by omega) rfl fB_one ?_⟩
                rintro w10 hz10 hg10 hs10
                have hL10 := hL9.put (q := bell g q) hbl
                have hB10 := hB9.more hbl (by rw [hPF]; omega) hnin
                have hx10 := hz9.grown hx9 (Nat.le_refl _) hg10
                have hN10 := hN9.off hg10 (fun c hc => .inl (by have := hzlt c hc; omega))
                have ho10 := ho9.off hg10 (fun c hc e => by have := hzlt c hc; have := (ho9.bound c e).1; omega)
                have hs10' := hg10.size
                simp only [↓vsd, vsn, gW, qd, qv, ev, pick, argE, zipE, ne_eq, eq_self, forall_const, implies_true, if_true, if_false, reduceIte, reduceCtorEq, Nat.reduceEqDiff, Nat.reduceAdd, Nat.reduceLT, ↓us_iOrbitsOf, r_iOrbitsOf]
                refine m_bsl (fun p hp => by simp only [List.mem_cons, List.not_mem_nil, or_false] at hp; rw [hp]; rfl) ?_
                rintro b11 w11 hb11 hblk11 hx11 hs11
                have hx11 : Ext w10 w11 := by first | exact hx11 | exact ud hx11 | exact ud (ud hx11)
                have eq1 : ((bell g q + 1 : Nat) : Int) = (bell g q : Int) + 1 := by omega
                have hs26 := hx6.size
                have hs1011 := hx11.size
                simp only [↓vsd, vsn, gW, qd, qv, ev, pick, argE, zipE, ne_eq, eq_self, forall_const, implies_true, if_true, if_false, reduceIte, reduceCtorEq, Nat.reduceEqDiff, Nat.reduceAdd, Nat.reduceLT, ↓us_iOrbitsOf, r_iOrbitsOf]
                refine m_app (ho10.ext hx11) (Sq.one (f := fI) (a := (bell g q : Int) + 1) fI_len hblk11 (by rw [eq1]; rfl)) fI_one (by decide) (by rw [List.length_singleton]; omega) (by decide) (by omega) ?_
                rintro x12 w12 ho12 hg12
                have hbd12 : ∀ c, x9.ownBlock = some c → w6.heap.size ≤ c := fun c hc => (ho9.bound c hc).1
                have hx12' := (ho10.ext hx11).grown (hx10.trans hx11) hs26 hg12
                have hN12 := (hN10.ext hx11).off hg12 (fun c hc => .inr (hbd12 c hc))
                have hz12 := (hz10.ext hx11).off hg12 (fun c hc e => by have := hzlt c e; have := hbd12 c hc; omega)
                have hs12 := hg12.size
                simp only [↓vsd, vsn, gW, qd, qv, ev, pick, argE, zipE, ne_eq, eq_self, forall_const, implies_true, if_true, if_false, reduceIte, reduceCtorEq, Nat.reduceEqDiff, Nat.reduceAdd, Nat.reduceLT, ↓us_iOrbitsOf, r_iOrbitsOf]
                refine ⟨inR_i64 (by omega), UpTo.next hlj ⟨x12, O9 ++ [bell g q], rfl, hB10, ⟨by rw [List.length_append]; omega, by rw [List.getD_eq_getElem?_getD, List.getElem?_append_left hk9, ← List.getD_eq_getElem?_getD]; exact hq9⟩, fun g' hg' => ?_, ⟨_, hL10, hz12⟩, ho12.to (by unfold upI; rw [List.map_append]; rfl), hN12, hx12', by omega⟩⟩
                rw [hsn] at hg'
                rcases List.mem_append.1 hg' with h1 | h1
                · exact List.mem_append.2 (.inl (hcl9 g' h1))
                · rw [List.mem_singleton.1 h1]; simp
            · obtain rfl : j = l.length := by omega
              have hljI : ¬ ((l.length : Nat) : Int) < l.length := by omega
              rw [List.take_length] at hcl9
              simp only [↓vsd, vsn, gW, qd, qv, ev, pick, argE, zipE, ne_eq, eq_self, forall_const, implies_true, if_true, if_false, reduceIte, reduceCtorEq, Nat.reduceEqDiff, Nat.reduceAdd, Nat.reduceLT, ↓us_iOrbitsOf, r_iOrbitsOf, hljI]
              have hB10 : Bfs l n i O9 (k + 1) := ⟨hB9.nodup, hB9.has, hB9.cls, fun p hp g hgm => by
                by_cases he : p = k
                · rw [he, hq9]; exact hcl9 g hgm
                · exact hB9.closed p (by omega) g hgm, hk9⟩
              exact ⟨inR_i64 (by omega), UpTo.next (by omega) ⟨x9, O9, rfl, hB10, ⟨L9, hL9, hz9⟩, ho9, hN9, hx9, hs69⟩⟩
          · have hkO : k = O.length := by omega
            have hlkI : ¬ (k : Int) < ((upI O).length : Nat) := by omega
            simp only [↓vsd, vsn, gW, qd, qv, ev, pick, argE, zipE, ne_eq, eq_self, forall_const, implies_true, if_true, if_false, reduceIte, reduceCtorEq, Nat.reduceEqDiff, Nat.reduceAdd, Nat.reduceLT, ↓us_iOrbitsOf, r_iOrbitsOf, f8, hlkI]
            have hmem := closed_cls hg hB8.nodup hli (fun q hq => ⟨(hB8.cls q hq).1, by rw [(hB8.cls q hq).2, hPF, heq]⟩) (fun q hq g hgm => by
              obtain ⟨p, hp, rfl⟩ := List.getElem_of_mem hq
              have := hB8.closed p (by omega) g hgm
              rwa [List.getD_eq_getElem?_getD, List.getElem?_eq_getElem hp] at this) hB8.has
            rw [hPF, heq] at hmem
            have hO0 : 0 < O.length := List.length_pos_of_mem hB8.has
            refine m_callw (by first | exact .inl rfl | exact .inr rfl) (xslices_Sort_int_int_ok x (upI O) (by omega) (by omega) _ ho8) ?_
            rintro _ w9 ⟨ho9, hg9⟩
            have hsrt : srtI (upI O) = clsL P n i := srt_cls hB8.nodup hmem
            have ho9 := ho9.to hsrt
            have hbd8 : ∀ c, x.ownBlock = some c → w6.heap.size ≤ c := fun c hc => (ho8.bound c hc).1
            have hz9 := hz8.off hg9 (fun c hc e => by have := hzlt c e; have := hbd8 c hc; omega)
            have hN9 := hN8.off hg9 (fun c hc => .inr (hbd8 c hc))
            have hx26 := hx6.size
            have hx9 := ho8.grown hx8 hx26 hg9
            have hs9 := hg9.size
            obtain ⟨sx, rfl⟩ := ho9.sq.sv
            simp only [↓vsd, vsn, gW, qd, qv, ev, pick, argE, zipE, ne_eq, eq_self, forall_const, implies_true, if_true, if_false, reduceIte, reduceCtorEq, Nat.reduceEqDiff, Nat.reduceAdd, Nat.reduceLT, ↓us_iOrbitsOf, r_iOrbitsOf]
            refine m_bsl (one_el rfl) ?_
            rintro b10 w10 hb10 hblk10 hx10 hs10
            have hx10 : Ext w9 w10 := by first | exact hx10 | exact ud hx10 | exact ud (ud hx10)
            have hs910 := hx10.size
            simp only [↓vsd, vsn, gW, qd, qv, ev, pick, argE, zipE, ne_eq, eq_self, forall_const, implies_true, if_true, if_false, reduceIte, reduceCtorEq, Nat.reduceEqDiff, Nat.reduceAdd, Nat.reduceLT, ↓us_iOrbitsOf, r_iOrbitsOf]
            refine m_pushU (hN9.ext hx10) (Sq.one (a := sx) fSV_len hblk10 rfl) ((ho9.ext hx10).mono (by omega)) (fun c hc => (ho9.bound c hc).1) (by omega) (by omega) rfl (by decide) (by omega) ?_
            rintro y11 w11 hN11 hg11
            have hs1 := hg11.size
            have hx11 := ext_grow (hx9.trans hx10) hg11 (fun c hc => by have := ((hN9.ext hx10).bound c hc).1; have := hx3.size; omega)
            have hz11 := (hz9.ext hx10).off hg11 (fun c hc e => by have := hzlt c e; have := ((hN9.ext hx10).bound c hc).1; omega)
            have hne : clsN P n i ≠ [] := fun e => (hfirst i hli).1 e heq
            rw [if_neg hne] at hos
            simp only [↓vsd, vsn, gW, qd, qv, ev, pick, argE, zipE, ne_eq, eq_self, forall_const, implies_true, if_true, if_false, reduceIte, reduceCtorEq, Nat.reduceEqDiff, Nat.reduceAdd, Nat.reduceLT, ↓us_iOrbitsOf, r_iOrbitsOf]
            refine ⟨inR_i64 (by omega), UpTo.next hli ⟨y11, rfl, ⟨L8, ⟨hL8.1, fun p hp => ?_⟩, hz11⟩, hN11.to hos.symm, by rw [hos, List.length_append, List.length_singleton]; omega, hx11, by omega⟩⟩
            rw [hL8.2 p hp, hmem p, clsN_mem]
            constructor
            · rintro (h1 | h1)
              · exact .inl (by omega)
              · exact .inl (by omega)
            · rintro (h1 | h1)
              · by_cases he : P.getD p 0 = i
                · exact .inr ⟨hp, he⟩
                · exact .inl (by omega)
              · cases h1
      · obtain rfl : i = n := by omega
        have hliI : ¬ (i : Int) < (i : Int) := by omega
        simp only [↓vsd, vsn, gW, qd, qv, ev, pick, argE, zipE, ne_eq, eq_self, forall_const, implies_true, if_true, if_false, reduceIte, reduceCtorEq, Nat.reduceEqDiff, Nat.reduceAdd, Nat.reduceLT, ↓us_iOrbitsOf, r_iOrbitsOf, hliI]
        exact ⟨hx12.trans hx5, y, by rw [decide_eq_true hok], by rw [orbV, if_pos hok, Int.toNat_natCast, hPF]; exact hN5.sq⟩
    · simp only [↓vsd, vsn, gW, qd, qv, ev, pick, argE, zipE, ne_eq, eq_self, forall_const, implies_true, if_true, if_false, reduceIte, reduceCtorEq, Nat.reduceEqDiff, Nat.reduceAdd, Nat.reduceLT, ↓us_iOrbitsOf, r_iOrbitsOf, hr]
      exact ⟨hx12, hno (fun hh => hr hh.2) _⟩
  · have hnd : (decide ((3 : Int) ≤ n) && decide (n ≤ 8)) = false := by
      rw [Bool.and_eq_false_iff, decide_eq_false_iff_not, decide_eq_false_iff_not]; omega
    simp only [↓vsd, vsn, gW, qd, qv, ev, pick, argE, zipE, ne_eq, eq_self, forall_const, implies_true, if_true, if_false, reduceIte, reduceCtorEq, Nat.reduceEqDiff, Nat.reduceAdd, Nat.reduceLT, ↓us_iOrbitsOf, r_iOrbitsOf, hnd]
    exact ⟨hx1, hno (fun hh => hn hh.1) _⟩
end Go.Proofs.Ythopbkemkfjebaa
