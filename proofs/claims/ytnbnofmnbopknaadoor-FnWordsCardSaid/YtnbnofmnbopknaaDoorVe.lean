/-
  Small code: the operations that change memory or call, what is asked of them, and that this is enough in the model.
  Conditions: none (laws over any program).
-/
import Derived.Test.YtnbnofmnbopknaaDoorVq
import Derived.Laws.MakeOwn
import Derived.Laws.IdiomCopy
set_option linter.unusedSimpArgs false
set_option linter.unusedVariables false
set_option linter.defProp false
namespace Go.Proofs.YtnbnofmnbopknaaDoor
open Go Go.RowKit

/-- w' is w with new blocks: nothing that was there has turned. -/
def Ext (w w' : World) : Prop := Below w.heap.size w w'
theorem Ext.refl (w : World) : Ext w w := Below.refl _ _
theorem Ext.trans {a b c : World} (h : Ext a b) (k : Ext b c) : Ext a c := Below.trans h (Below.mono k h.size)
theorem Ext.size {a b : World} (h : Ext a b) : a.heap.size ≤ b.heap.size := Below.size h
theorem Ext.alloc (w : World) (o : Obj) : Ext w (w.alloc o) := (Below.refl _ _).alloc (Nat.le_refl _) o
theorem Ext.drew (w : World) : Ext w w.drew := (Below.refl _ w).drew
theorem Ext.drew' {a b : World} (h : Ext a b) : Ext a b.drew := Below.drew h
theorem Ext.block {a b : World} (h : Ext a b) {k : Nat} (hk : k < a.heap.size) : b.heap[k]? = a.heap[k]? := Below.block h k hk
theorem Ext.cell {a b : World} (h : Ext a b) {p : Addr} {v : Value} (hv : a.cell? p = some v) : b.cell? p = some v := by
  rw [← hv]
  exact World.cell?_of_block (h.block (World.block_lt_of_cell? a p hv))

/-- Block b holds these cells of type T, none of them frozen. -/
def Blk (w : World) (b : Nat) (cs : List Value) (T : TypeId) : Prop := ∃ fz : Nat × Nat, w.heap[b]? = some (.cells ⟨cs⟩ T fz) ∧ (fz = (0, 0) ∨ cs.length ≤ fz.1)
theorem Blk.plain {w : World} {b : Nat} {cs : List Value} {T : TypeId} (h : w.heap[b]? = some (.cells ⟨cs⟩ T (0, 0))) : Blk w b cs T := ⟨_, h, .inl rfl⟩
theorem Blk.lt {w : World} {b : Nat} {cs : List Value} {T : TypeId} (h : Blk w b cs T) : b < w.heap.size := by
  obtain ⟨fz, h, _⟩ := h
  exact (Array.getElem?_eq_some_iff.1 h).1
theorem Blk.same {w w' : World} {b : Nat} {cs : List Value} {T : TypeId} (h : Blk w b cs T) (he : w'.heap[b]? = w.heap[b]?) : Blk w' b cs T := by
  obtain ⟨fz, h, hf⟩ := h
  exact ⟨fz, by rw [he]; exact h, hf⟩
theorem Blk.ext {w w' : World} {b : Nat} {cs : List Value} {T : TypeId} (h : Blk w b cs T) (he : Ext w w') : Blk w' b cs T := h.same (he.block h.lt)
theorem Blk.cell {w : World} {b : Nat} {cs : List Value} {T : TypeId} (h : Blk w b cs T) (i : Nat) : w.cell? ⟨b, i, none⟩ = cs[i]? := by
  obtain ⟨fz, h, _⟩ := h
  simp [World.cell?, h]
theorem Blk.frozen {w : World} {b : Nat} {cs : List Value} {T : TypeId} (h : Blk w b cs T) (i : Nat) (hi : i < cs.length) : w.frozen? ⟨b, i, none⟩ = false := by
  obtain ⟨fz, h, hf⟩ := h
  rcases hf with rfl | hf
  · simp [World.frozen?, h]
  · simp only [World.frozen?, h]
    simp only [Bool.and_eq_false_imp, decide_eq_true_eq]
    intro h1
    omega
theorem Blk.new (w : World) (cs : List Value) (T : TypeId) : Blk (w.alloc (.cells ⟨cs⟩ T)) w.heap.size cs T := .plain (heap_alloc_new w _)
/-- w' is w with block b written, no block more or less. -/
structure Upd (w w' : World) (b : Nat) : Prop where
  grown : w.grownBy w' (some b)
  size : w'.heap.size = w.heap.size
theorem Upd.blk {w w' : World} {b b' : Nat} {cs : List Value} {T : TypeId} (h : Upd w w' b) (k : Blk w b' cs T) (hne : b' ≠ b) : Blk w' b' cs T := k.same (h.grown.block b' k.lt (by simpa using hne))
theorem Upd.below {B : Nat} {w0 w w' : World} {b : Nat} (h : Upd w w' b) (k : Below B w0 w) (hb : B ≤ b) : Below B w0 w' :=
  k.trans ⟨h.grown.os, h.grown.tape, h.grown.output, h.grown.size, fun i hi => by
    by_cases hlt : i < w.heap.size
    · exact h.grown.block i hlt (by simp; omega)
    · rw [Array.getElem?_eq_none (by have := h.size; omega), Array.getElem?_eq_none (by omega)]⟩

/-- The call of f hands back v and leaves w' with K v w'. -/
def CallsV (P : Program) (f : FuncId) (args : List Value) (w : World) (K : Value → World → Prop) : Prop :=
  Calls P f ⟨args⟩ w fun x w' => ∃ v, x = .returned v ∧ K v w'
theorem CallsV.mono {P : Program} {f : FuncId} {args : List Value} {w : World} {K K' : Value → World → Prop} (h : CallsV P f args w K) (hk : ∀ v w', K v w' → K' v w') : CallsV P f args w K' :=
  Calls.mono h fun _ _ ⟨v, e, k⟩ => ⟨v, e, hk _ _ k⟩

/-- What the program's table says of a slice type. -/
structure SlT (P : Program) (T E : TypeId) (z bytes : Nat) (zero : List Value) : Prop where
  ul : P.underlying T = some (.slice E)
  info : ∃ i v, P.info? E = some i ∧ i.size = z ∧ i.bytes = bytes ∧ i.zero = some v ∧ v.cells.toList = zero

inductive XE where
  | call (mt : Bool) (f : Nat) (args : List VO)
  | callv (f : VO) (args : List VO)
  | st (n : Nat) (x v : VO)
  | al (T : TypeId) (cells : List Value)
  | box (T : TypeId) (x : VO)
  | bsl (E z : Nat) (parts : List VO)
  | msl (T E z bytes : Nat) (zero : List Value) (l c : VO)
  | app (T E z bytes : Nat) (zero : List Value) (ty : TypeId) (s x : VO)
  | s2b (E : TypeId) (x : VO)
  | b2s (x : VO)
  | mkmap
  | mup (soft : Bool) (K : TypeDesc) (x k v : VO)
  | apf (T E z bytes : Nat) (zero : List Value) (ty : TypeId) (s x : VO)
  | apz (T Ti E z bytes : Nat) (zero : List Value) (ty : TypeId) (s x : VO)
  | rng (x : VO)
  | nxt (x : VO)

/-- Block b walks over the bytes l, at place p. -/
def Itr (w : World) (b : Nat) (l : List UInt8) (p : Nat) : Prop := w.heap[b]? = some (.stringIter ⟨⟨l⟩⟩ p)
/-- The run of an operation ends well. -/
def XR (P : Program) (s : Sem Value) (w : World) (K : Value → World → Prop) : Prop := ∃ v w', s.run P w = .ok v w' ∧ K v w'

def vE (P : Program) (e : Env) (w : World) (K : Value → World → Prop) : XE → Prop
  | .call _ f args => CallsV P f (args.map (ev e)) w K
  | .callv f args => ∃ n first cap, ev e f = .func (.func n) ⟨first⟩ ⟨cap⟩ ∧ (∃ fn, P.funcs[n]? = some fn ∧ fn.body.isSome = true ∧ (fn.name == "runtime.NumGoroutine") = false) ∧ CallsV P n (first ++ args.map (ev e) ++ cap) w K
  | .st n x v => ∃ b off cur T, ev e x = .pointer (some ⟨b, off, none⟩) ∧ Blk w b cur T ∧ (ev e v).cells.size = n ∧ off + n ≤ cur.length ∧ (∀ u ∈ (ev e v).cells.toList, u.oneCell' = true) ∧
      ∀ w', Blk w' b (spl cur off (ev e v).cells.toList) T → Upd w w' b → K undef w'
  | .al T cells => K (.pointer (some ⟨w.heap.size, 0, none⟩)) (w.alloc (.cells ⟨cells⟩ T))
  | .box T x => K (.pointer (some ⟨w.heap.size, 0, none⟩)) (w.alloc (.cells (ev e x).cells T))
  | .bsl E z parts => (∀ p ∈ parts, (ev e p).cells.size = z) ∧ K (.slice (some ⟨w.heap.size, 0, none⟩) parts.length parts.length) (w.alloc (.cells ⟨parts.flatMap fun p => (ev e p).cells.toList⟩ E))
  | .msl T E z bytes zero l c => SlT P T E z bytes zero → XR P (Instr.makeSlice T (ev e l) (ev e c)) w K
  | .app T E z bytes zero ty s x => SlT P T E z bytes zero → XR P (Builtin.append_ #[T, T] ty #[ev e s, ev e x]) w K
  | .s2b E x => ∃ s, ev e x = .string s ∧ XR P (Conv.stringToBytes E s) w K
  | .b2s x => XR P (Conv.bytesToString (ev e x)) w K
  | .mkmap => K (.map (some w.heap.size)) (w.alloc (.map #[] 0))
  | .mup _ T x k v => ∃ r es ck, ev e x = .map (some r) ∧ w.heap[r]? = some (.map es ck) ∧ (lkE T (ev e k) (entriesOf es)).isSome = true ∧
      ∀ w', mapAt w' (.map (some r)) = some (putE T (ev e k) (ev e v) (entriesOf es)) → Upd w w' r → K undef w'
  | .apf T E z bytes zero ty s x => SlT P T E z bytes zero → XR P (Builtin.append_ #[T, T] ty #[ev e s, ev e x]) w K
  | .apz T Ti E z bytes zero ty s x => SlT P T E z bytes zero → (∃ kn, P.underlying Ti = some (.int kn)) → XR P (Builtin.append_ #[T, Ti] ty #[ev e s, ev e x]) w K
  | .rng x => ∃ l, ev e x = S l ∧ K (.pointer (some ⟨w.heap.size, 0, none⟩)) (w.alloc (.stringIter ⟨⟨l⟩⟩ 0))
  | .nxt x => ∃ r l pos, ev e x = .pointer (some ⟨r, 0, none⟩) ∧ Itr w r l pos ∧
      ((pos < l.length ∧ (l.getD pos 0).toNat < 128 ∧ ∀ w', Itr w' r l (pos + 1) → Upd w w' r → K (.tuple ⟨[.bool true, .int .i64 pos, .int .i32 (l.getD pos 0).toNat]⟩) w') ∨ (l.length ≤ pos ∧ K (.tuple ⟨[.bool false]⟩) w))

/-- It may write to memory that was there: nothing that reads may stand beside it in a region that draws. -/
def XE.mut : XE → Bool
  | .st .. | .app .. | .apz .. | .nxt _ => true
  | .mup soft _ _ _ _ => !soft
  | .call mt _ _ => mt
  | .callv .. => true
  | _ => false

def VOs.tmps (l : List VO) : List Nat := l.flatMap VO.tmps
def XE.tmps : XE → List Nat
  | .call _ _ args => VOs.tmps args
  | .callv f args => f.tmps ++ VOs.tmps args
  | .st _ x v => x.tmps ++ v.tmps
  | .al _ _ | .mkmap => []
  | .mup _ _ x k v => x.tmps ++ (k.tmps ++ v.tmps)
  | .box _ x | .s2b _ x | .b2s x | .rng x | .nxt x => x.tmps
  | .bsl _ _ parts => VOs.tmps parts
  | .msl _ _ _ _ _ l c => l.tmps ++ c.tmps
  | .app _ _ _ _ _ _ s x | .apf _ _ _ _ _ _ s x | .apz _ _ _ _ _ _ _ s x => s.tmps ++ x.tmps

def plainFn (P : Program) (f : Nat) : Bool :=
  match P.funcs[f]? with
  | some fn => fn.body.isSome && !(fn.name == "runtime.NumGoroutine")
  | none => false

def slT (P : Program) (T : TypeId) : Option (Nat × Nat × Nat × List Value) :=
  match P.underlying T with
  | some (.slice E) =>
    match P.info? E with
    | some i =>
      match i.zero with
      | some v => some (E, i.size, i.bytes, v.cells.toList)
      | none => none
    | none => none
  | _ => none
theorem slT_spec {P : Program} {T E z b : Nat} {zero : List Value} (h : slT P T = some (E, z, b, zero)) : SlT P T E z b zero := by
  unfold slT at h
  split at h <;> try simp only [reduceCtorEq] at h
  rename_i hu
  split at h <;> try simp only [reduceCtorEq] at h
  rename_i i hi
  split at h <;> try simp only [reduceCtorEq] at h
  rename_i v hv
  simp only [Option.some.injEq, Prod.mk.injEq] at h
  obtain ⟨rfl, rfl, rfl, rfl⟩ := h
  exact ⟨hu, i, v, hi, rfl, rfl, hv, rfl⟩

def convCallE (P : Program) (mf : List Nat) (ty : TypeId) : Callee → List Operand → List TypeId → Option XE
  | .value (.func f), args, _ => if plainFn P f then some (.call (mf.contains f) f (args.map cvO)) else none
  | .value (.tmp t), args, _ => some (.callv (.t t) (args.map cvO))
  | .builtin .append, [s, x], [T, T'] => if T = T' then (if mf.contains 1000000 then (slT P T).map fun q => .apf T q.1 q.2.1 q.2.2.1 q.2.2.2 ty (cvO s) (cvO x) else (slT P T).map fun q => .app T q.1 q.2.1 q.2.2.1 q.2.2.2 ty (cvO s) (cvO x)) else
    match P.underlying T' with
    | some (.int _) => (slT P T).map fun q => .apz T T' q.1 q.2.1 q.2.2.1 q.2.2.2 ty (cvO s) (cvO x)
    | _ => none
  | _, _, _ => none

def convE (P : Program) (mf : List Nat) (ty : TypeId) : Op → Option XE
  | .call c => convCallE P mf ty c.callee c.args.toList c.argTypes.toList
  | .store T x v => (P.info? T).map fun i => .st i.size (cvO x) (cvO v)
  | .alloc T =>
    match P.info? T with
    | some i => i.zero.map fun z => .al T z.cells.toList
    | none => none
  | .box T x => some (.box T (cvO x))
  | .buildSlice T n parts =>
    match P.underlying T with
    | some (.slice E) =>
      match P.info? E with
      | some i => if (parts.toList.map (·.1)) = List.range n ∧ n * i.size ≤ 16777216 ∧ i.size ≠ 0 ∧ i.zero.isSome then some (.bsl E i.size (parts.toList.map fun p => cvO p.2)) else none
      | none => none
    | _ => none
  | .makeSlice T l c => (slT P T).map fun q => .msl T q.1 q.2.1 q.2.2.1 q.2.2.2 (cvO l) (cvO c)
  | .convert s d x =>
    match P.underlying s, P.underlying d with
    | some .string, some (.slice E) =>
      match P.underlying E with
      | some (.int .u8) => some (.s2b E (cvO x))
      | _ => none
    | some (.slice E), some .string =>
      match P.underlying E with
      | some (.int .u8) => some (.b2s (cvO x))
      | _ => none
    | _, _ => none
  | .makeMap _ none => some .mkmap
  | .range T x =>
    match P.underlying T with
    | some .string => some (.rng (cvO x))
    | _ => none
  | .next x true => some (.nxt (cvO x))
  | .mapUpdate T m k v | .insert T m k v => (keyDesc P T).map fun q => .mup (mf.contains 1000001) q.1 (cvO m) (cvO k) (cvO v)
  | _ => none

theorem fill_all (z : Nat) (vs : List Value) : ∀ (k : Nat) (cs : Array Value), (∀ v ∈ vs, v.cells.size = z) → cs.size = (k + vs.length) * z →
    Instr.fill (fun i => some (i * z, z)) cs ((vs.zipIdx k).map fun p => (p.2, p.1)) = some ⟨cs.toList.take (k * z) ++ vs.flatMap fun v => v.cells.toList⟩ := by
  induction vs with
  | nil =>
    intro k cs _ hs
    simp only [List.zipIdx_nil, List.map_nil, Instr.fill, List.flatMap_nil, List.append_nil]
    rw [List.take_of_length_le (by simp at hs ⊢; omega)]
  | cons v vs ih =>
    intro k cs hv hs
    have hz : v.cells.size = z := hv v (by simp)
    have hsz : (k + (v :: vs).length) * z = k * z + z + vs.length * z := by simp only [List.length_cons]; rw [Nat.add_mul, Nat.add_mul]; omega
    rw [List.zipIdx_cons, List.map_cons]
    have hbig : ¬ (k * z + v.cells.size > cs.size) := by rw [hz, hs, hsz]; omega
    simp only [Instr.fill, hz, ne_eq, not_true_eq_false, decide_false, Bool.false_or]
    rw [if_neg (by simpa [hz] using hbig)]
    have hf : Array.foldl (fun cs (x : Value × Nat) => cs.setIfInBounds (k * z + x.2) x.1) cs v.cells.zipIdx = ⟨spl cs.toList (k * z) v.cells.toList⟩ := by
      rw [← Array.foldl_toList, Array.toList_zipIdx]
      rcases foldl_put v.cells.toList 0 cs (k * z) with h | h
      · simpa using h
      · simp at h; omega
    rw [hf]
    have hl : (spl cs.toList (k * z) v.cells.toList).length = cs.size := by
      unfold spl; simp; omega
    have hkz : (k + 1) * z = k * z + z := by rw [Nat.add_mul]; omega
    rw [ih (k + 1) _ (fun u hu => hv u (by simp [hu])) (by
      show (spl cs.toList (k * z) v.cells.toList).length = _
      rw [hl, hs, hsz, Nat.add_mul, hkz])]
    congr 2
    simp only [List.flatMap_cons]
    rw [← List.append_assoc]
    congr 1
    show (spl cs.toList (k * z) v.cells.toList).take ((k + 1) * z) = _
    unfold spl
    rw [List.take_append_of_le_length (by simp; omega)]
    exact List.take_of_length_le (by simp; omega)

section
variable {P : Program} {w : World} {a : Act} {e : Env}
theorem evs_map {l : List Operand} (h : ∀ t ∈ VOs.tmps (l.map cvO), a.tmps.getD t undef = lk e t) : l.map a.eval = (l.map cvO).map (ev e) := by
  induction l with
  | nil => rfl
  | cons x l ih =>
    simp only [List.map_cons]
    rw [ev_cvO (x := x) fun t ht => h t (by simp [VOs.tmps, ht]), ih fun t ht => h t (by
      simp only [VOs.tmps, List.map_cons, List.flatMap_cons, List.mem_append]; right; exact ht)]

theorem callFunc_run {f : Nat} {args : Array Value} (h : plainFn P f = true) : (callFunc f args).run P w = .ok (.enter f args) w := by
  unfold plainFn at h
  cases hf : P.funcs[f]? with
  | none => simp [hf] at h
  | some fn =>
    simp only [hf, Bool.and_eq_true, Bool.not_eq_true'] at h
    have h1 : fn.body.isNone = false := by cases hb : fn.body <;> simp_all
    simp only [callFunc, Sem.run_bind, run_program, Result.andThen_ok, hf, h.2, h1, Bool.false_eq_true, if_false, Sem.run_pure]

theorem setCells_heap (b : Nat) (T : TypeId) (fz : Nat × Nat) : ∀ (vs : List Value) (o : Nat) (cur : List Value) (w : World), w.heap[b]? = some (.cells ⟨cur⟩ T fz) → o + vs.length ≤ cur.length → (w.setCells b o vs).heap[b]? = some (.cells ⟨spl cur o vs⟩ T fz) := by
  intro vs
  induction vs with
  | nil => intro o cur w h _; simpa [World.setCells, spl] using h
  | cons v vs ih =>
    intro o cur w h hl
    simp only [List.length_cons] at hl
    have h1 : (w.setCell ⟨b, o, none⟩ v).heap[b]? = some (.cells ⟨cur.set o v⟩ T fz) := by
      have hlt : b < w.heap.size := (Array.getElem?_eq_some_iff.1 h).1
      have hv := (Array.getElem?_eq_some_iff.1 h).2
      simp only [World.setCell, Option.isSome_none, Bool.false_eq_true, if_false]
      rw [Array.getElem?_eq_getElem (by simpa using hlt), Array.getElem_modify_self, hv]
      simp
    have := ih (o + 1) (cur.set o v) _ h1 (by simp; omega)
    rw [World.setCells, this]
    congr 3
    unfold spl
    rw [List.set_eq_take_append_cons_drop, if_pos (by omega)]
    have e1 : (cur.take o).length = o := by simp; omega
    rw [List.take_append, e1, show o + 1 - o = 1 by omega, List.take_of_length_le (by omega), List.take_succ_cons, List.take_zero, List.drop_append, e1, show o + 1 + vs.length - o = vs.length + 1 by omega, List.drop_succ_cons, List.drop_drop,
      List.drop_eq_nil_of_le (by omega)]
    simp [Nat.add_comm, Nat.add_left_comm, Nat.add_assoc]
theorem setCells_upd (w : World) (b o : Nat) (vs : List Value) : Upd w (w.setCells b o vs) b := by
  have hk := World.keptBut_setCells b (may := fun _ => True) vs o w (fun _ _ => trivial)
  have key : ∀ (vs : List Value) (o : Nat) (w : World), (w.setCells b o vs).heap.size = w.heap.size ∧ (w.setCells b o vs).tape = w.tape ∧ (w.setCells b o vs).os = w.os ∧ (w.setCells b o vs).output = w.output ∧ ∀ k, k ≠ b → (w.setCells b o vs).heap[k]? = w.heap[k]? := by
    intro vs
    induction vs with
    | nil => intro o w; exact ⟨rfl, rfl, rfl, rfl, fun _ _ => rfl⟩
    | cons v vs ih =>
      intro o w
      obtain ⟨h1, h2, h3, h4, h5⟩ := ih (o + 1) (w.setCell ⟨b, o, none⟩ v)
      refine ⟨by rw [World.setCells, h1]; simp [World.setCell], by rw [World.setCells, h2]; rfl, by rw [World.setCells, h3]; rfl, by rw [World.setCells, h4]; rfl, fun k hk => ?_⟩
      rw [World.setCells, h5 k hk]
      simp [World.setCell, Array.getElem?_modify, Ne.symm hk]
  obtain ⟨h1, h2, h3, h4, h5⟩ := key vs o w
  exact ⟨⟨h3, h2, h4, by omega, fun k _ hk => h5 k (by simpa using hk)⟩, h1⟩
theorem storeCells_run {b off : Nat} {cur vs : List Value} {T' : TypeId} (hb : Blk w b cur T') (hl : off + vs.length ≤ cur.length) (h1 : ∀ u ∈ vs, u.oneCell' = true) :
    (storeCells ⟨b, off, none⟩ vs 0).run P w = .ok () (w.setCells b off vs) ∧ Blk (w.setCells b off vs) b (spl cur off vs) T' ∧ Upd w (w.setCells b off vs) b := by
  refine ⟨?_, ?_, setCells_upd w b off vs⟩
  · have := run_storeCells_cells (P := P) b off vs 0 w (fun j hj => by rw [hb.cell, List.getElem?_eq_getElem (by omega)]; rfl) (fun j hj => hb.frozen _ (by omega)) h1
    simpa using this
  · obtain ⟨fz, h, hf⟩ := hb
    refine ⟨fz, setCells_heap b T' fz vs off cur w h hl, hf.imp id fun hf => ?_⟩
    have : (spl cur off vs).length = cur.length := by
      unfold spl
      simp only [List.length_append, List.length_take, List.length_drop]
      omega
    omega
theorem store_run {T : TypeId} {i : TypeInfo} {b off : Nat} {cur : List Value} {T' : TypeId} {v : Value} (hi : P.info? T = some i) (hb : Blk w b cur T') (hs : v.cells.size = i.size) (hl : off + i.size ≤ cur.length) (h1 : ∀ u ∈ v.cells.toList, u.oneCell' = true) :
    ∃ w', (Instr.storeAt T (.pointer (some ⟨b, off, none⟩)) v).run P w = .ok () w' ∧ Blk w' b (spl cur off v.cells.toList) T' ∧ Upd w w' b := by
  obtain ⟨hr, h2, h3⟩ := storeCells_run (P := P) (off := off) hb (vs := v.cells.toList) (by have := Array.size_eq_length_toList (xs := v.cells); omega) h1
  refine ⟨_, ?_, h2, h3⟩
  simp only [Instr.storeAt, Instr.sureAddr, Sem.run_bind, Sem.run_pure, Result.andThen_ok, storeVar, sizeOf_run hi, hs, ne_eq, not_true_eq_false, if_false]
  exact hr

theorem bsl_run {T E : TypeId} {i : TypeInfo} {parts : List (Nat × Value)} (hT : P.underlying T = some (.slice E)) (hi : P.info? E = some i) (hp : parts.map (·.1) = List.range parts.length) (hn : parts.length * i.size ≤ 16777216) (hz : i.size ≠ 0) (hzz : i.zero.isSome = true)
    (hv : ∀ p ∈ parts, p.2.cells.size = i.size) :
    (Instr.buildSlice T parts.length ⟨parts⟩).run P w = .ok (.slice (some ⟨w.heap.size, 0, none⟩) parts.length parts.length) (w.alloc (.cells ⟨parts.flatMap fun p => p.2.cells.toList⟩ E)) := by
  obtain ⟨z, hz0⟩ := Option.isSome_iff_exists.1 hzz
  have key : parts = ((parts.map (·.2)).zipIdx 0).map fun p => (p.2, p.1) := by
    apply List.ext_getElem?
    intro j
    have h1 : (parts.map (·.1))[j]? = (List.range parts.length)[j]? := by rw [hp]
    simp only [List.getElem?_map, List.getElem?_zipIdx] at h1 ⊢
    by_cases hj : j < parts.length
    · simp only [List.getElem?_eq_getElem hj, Option.map_some] at h1 ⊢
      simp [hj] at h1
      congr 1
      refine Prod.ext ?_ rfl
      simpa using h1
    · simp [List.getElem?_eq_none (Nat.le_of_not_lt hj)]
  have hf := fun (c : Array Value) (hc : c.size = parts.length * i.size) => fill_all i.size (parts.map (·.2)) 0 c (by intro v hv'; obtain ⟨p, hp', rfl⟩ := List.mem_map.1 hv'; exact hv p hp') (by simpa using hc)
  rw [← key] at hf
  have hb : ¬ (2 ^ 24 < parts.length * i.size) := by omega
  by_cases h0 : parts.length * i.size = 0
  · have := hf #[] (by simpa using h0.symm)
    have hlen : parts.length = 0 := by
      rcases Nat.mul_eq_zero.1 h0 with h | h
      · exact h
      · exact absurd h hz
    have hnil : parts = [] := List.eq_nil_of_length_eq_zero hlen
    subst hnil
    simp [Instr.buildSlice, run_underlying hT, sizeOf_run hi, Instr.fill, newRow, Array.range_zero']
  · have := hf ((Array.range (parts.length * i.size)).map (z.cells[· % z.cells.size]!)) (by simp)
    simp only [Nat.zero_mul, List.take_zero, List.nil_append] at this
    have hl : (⟨parts⟩ : Array (Nat × Value)).toList = parts := rfl
    simp [Instr.buildSlice, run_underlying hT, sizeOf_run hi, hb, h0, zeroValue, typeInfo, hi, hz0, this, newRow, List.flatMap_map]

set_option maxHeartbeats 1000000 in
/-- What is asked of an operation that changes memory is enough. -/
theorem ba_eq {a b : ByteArray} (h : (a == b) = true) : a = b := by
  cases a; cases b
  congr
  exact beq_iff_eq.1 h
theorem ba_refl (a : ByteArray) : (a == a) = true := by
  cases a
  exact beq_self_eq_true (α := Array UInt8) _
theorem sameNow_bits {K : TypeDesc} {k a : Value} (n : Nat) (h : sameK K k a = some true) : Instr.sameBits (n + 1) a k = true := by
  unfold sameK at h
  split at h
  · split at h
    · rename_i p q hp hq
      simp only [Option.some.injEq, decide_eq_true_eq] at h
      subst h
      rw [keyPair_spec hp, keyPair_spec hq]
      cases n <;> simp [Instr.sameBits]
    · cases h
  · unfold Instr.sameNow at h
    split at h
    · split at h
      · rename_i hk
        subst hk
        simp only [Option.some.injEq] at h
        simp [Instr.sameBits, (beq_iff_eq.1 h)]
      · cases h
    · simp only [Option.some.injEq] at h
      obtain rfl := ba_eq h
      exact ba_refl _
    · simp only [Option.some.injEq] at h
      have := beq_iff_eq.1 h
      subst this
      simp [Instr.sameBits]
    · cases h
theorem findK_put (K : TypeDesc) (k v' : Value) : ∀ (es : List MapEntry) (i0 : Nat) (r : Option (Nat × Value)), findK K k es i0 = some r →
    (r = none ∧ putE K k v' (es.map fun e => (e.key, e.val)) = (es.map fun e => (e.key, e.val)) ++ [(k, v')]) ∨
    ∃ j e v, r = some (i0 + j, v) ∧ es[j]? = some e ∧ sameK K k e.key = some true ∧ putE K k v' (es.map fun e => (e.key, e.val)) = (es.modify j fun e => { e with key := k, val := v' }).map fun e => (e.key, e.val) := by
  intro es
  induction es with
  | nil => intro i0 r h; simp only [findK, Option.map_eq_some_iff] at h; obtain ⟨_, _, h⟩ := h; exact .inl ⟨h.symm, rfl⟩
  | cons e es ih =>
    intro i0 r h
    simp only [findK] at h
    split at h
    · rename_i hs
      simp only [Option.some.injEq] at h
      refine .inr ⟨0, e, e.val, h.symm, rfl, hs, ?_⟩
      simp only [List.map_cons, putE, hs]
      rfl
    · rename_i hs
      rcases ih (i0 + 1) r h with ⟨hr, hp⟩ | ⟨j, e', v, hr, he, hs', hp⟩
      · exact .inl ⟨hr, by simp only [List.map_cons, putE, hs, hp, List.cons_append]⟩
      · refine .inr ⟨j + 1, e', v, by rw [hr, Nat.add_assoc, Nat.add_comm 1 j], by simpa using he, hs', ?_⟩
        simp only [List.map_cons, putE, hs, hp]
        rfl
    · cases h
theorem setObj_run {r : Nat} {es : Array MapEntry} {ck : Nat} (o : Obj) (hb : w.heap[r]? = some (.map es ck)) : (setObj r o).run P w = .ok () { w with heap := w.heap.setIfInBounds r o } := by
  simp [setObj, Sem.run, hb]
theorem setObj_upd {r : Nat} {es es' : Array MapEntry} {ck ck' : Nat} (hb : w.heap[r]? = some (.map es ck)) (l : List (Value × Value)) (hl : entriesOf es' = l) :
    mapAt { w with heap := w.heap.setIfInBounds r (.map es' ck') } (.map (some r)) = some l ∧ Upd w { w with heap := w.heap.setIfInBounds r (.map es' ck') } r := by
  have hlt := (Array.getElem?_eq_some_iff.1 hb).1
  refine ⟨by simp [mapAt, hlt, hl], ⟨rfl, rfl, rfl, by simp, fun i hi hne => ?_⟩, by simp⟩
  have : r ≠ i := fun e => hne (by rw [e])
  simp [Array.getElem?_setIfInBounds, this]
theorem mup_run {T e : TypeId} {K : TypeDesc} {r : Nat} {es : Array MapEntry} {ck : Nat} {k v : Value} (hT : keyDesc P T = some (K, e)) (hb : w.heap[r]? = some (.map es ck)) (hd : (lkE K k (entriesOf es)).isSome = true) :
    ∃ w', (Instr.mapUpdate T (.map (some r)) k v).run P w = .ok () w' ∧ mapAt w' (.map (some r)) = some (putE K k v (entriesOf es)) ∧ Upd w w' r := by
  obtain ⟨kt, hu, hk, hK⟩ := keyDesc_spec hT
  have hf := findK_lkE K k es.toList 0
  cases hn : findK K k es.toList 0 with
  | none => rw [hn] at hf; rw [show entriesOf es = es.toList.map (fun e => (e.key, e.val)) from rfl, ← hf] at hd; cases hd
  | some q =>
    have h1 := checkKey_run (P := P) (w := w) hk hK false k (fun n el e => by subst e; exact findK_pair hn)
    have h2 := findKey_run (P := P) (w := w) hk hK k es.toList hn
    rcases findK_put K k v es.toList 0 q hn with ⟨rfl, hp⟩ | ⟨j, e', v0, rfl, he, hs, hp⟩
    · have hl : entriesOf (es.push { key := k, val := v, born := ck }) = putE K k v (entriesOf es) := by
        rw [show entriesOf es = es.toList.map (fun e => (e.key, e.val)) from rfl, hp]
        simp [entriesOf]
      obtain ⟨ha, hu'⟩ := setObj_upd (ck' := ck + 1) hb _ hl
      refine ⟨_, ?_, ha, hu'⟩
      unfold Instr.mapUpdate
      simp only [Sem.run_bind, run_underlying hu, getObj_run hb, h1, h2, Result.andThen_ok, setObj_run _ hb]
    · rw [Nat.zero_add] at hn h2
      have hl : entriesOf (es.modify j fun e => { e with key := k, val := v }) = putE K k v (entriesOf es) := by
        rw [show entriesOf es = es.toList.map (fun e => (e.key, e.val)) from rfl, hp]
        simp [entriesOf]
      obtain ⟨ha, hu'⟩ := setObj_upd (ck' := ck) hb _ hl
      refine ⟨_, ?_, ha, hu'⟩
      have he' : es[j]? = some e' := by simpa using he
      have hst : (Instr.keyThatStays (((es[j]?).map (·.key)).getD k) k).run P w = .ok k w := by
        unfold Instr.keyThatStays
        rw [he', Option.map_some, Option.getD_some, if_pos (sameNow_bits 9999 hs)]
        simp
      unfold Instr.mapUpdate
      simp only [Sem.run_bind, run_underlying hu, getObj_run hb, h1, h2, Result.andThen_ok, hst, setObj_run _ hb]
theorem mup_ex {so : Bool} {T e' : TypeId} {K : TypeDesc} {x k v : VO} {R : Value → World → Prop} (hK : keyDesc P T = some (K, e')) (h : vE P e w R (.mup so K x k v)) :
    ∃ w', (Instr.mapUpdate T (ev e x) (ev e k) (ev e v)).run P w = .ok () w' ∧ R undef w' := by
  obtain ⟨r, es, ck, hx, hb, hd, hk⟩ := h
  obtain ⟨w', hr, hm, hu⟩ := mup_run (v := ev e v) hK hb hd
  exact ⟨w', by rw [hx]; exact hr, hk w' hm hu⟩
theorem nxt_run {r pos : Nat} {l : List UInt8} {T : TypeId} (hb : Itr w r l pos) (hl : pos < l.length) (h1 : (l.getD pos 0).toNat < 128) :
    ∃ w', (Instr.next (.pointer (some ⟨r, 0, none⟩)) true T).run P w = .ok (.tuple ⟨[.bool true, .int .i64 pos, .int .i32 (l.getD pos 0).toNat]⟩) w' ∧ Itr w' r l (pos + 1) ∧ Upd w w' r := by
  have hlt := (Array.getElem?_eq_some_iff.1 hb).1
  have hget : (getObj r).run P w = .ok (.stringIter ⟨⟨l⟩⟩ pos) w := by
    unfold Itr at hb
    simp [getObj, Sem.run, hb]
  have hset : (setObj r (.stringIter ⟨⟨l⟩⟩ (pos + 1))).run P w = .ok () { w with heap := w.heap.setIfInBounds r (.stringIter ⟨⟨l⟩⟩ (pos + 1)) } := by
    unfold Itr at hb
    simp [setObj, Sem.run, hb]
  have hsz : (⟨⟨l⟩⟩ : ByteArray).size = l.length := rfl
  have hb0 : ((⟨⟨l⟩⟩ : ByteArray).get! (pos + 0)) = l.getD pos 0 := by
    show (⟨l⟩ : Array UInt8)[pos + 0]! = _
    simp [List.getD_eq_getElem?_getD, hl]
  have hd : Utf8.decode ⟨⟨l⟩⟩ pos = ((l.getD pos 0).toNat, 1) := by
    unfold Utf8.decode
    simp only [hb0]
    rw [if_pos h1]
  refine ⟨{ w with heap := w.heap.setIfInBounds r (.stringIter ⟨⟨l⟩⟩ (pos + 1)) }, ?_, ?_, ⟨rfl, rfl, rfl, by simp, fun i hi hne => ?_⟩, by simp⟩
  · unfold Instr.next
    simp only [Sem.run_bind, Sem.run_pure, Result.andThen_ok, hget, hsz, if_pos hl, hd, hset]
    rfl
  · simp [Itr, hlt]
  · have : r ≠ i := fun e => hne (by rw [e])
    simp [Array.getElem?_setIfInBounds, this]
theorem nxt_over {r pos : Nat} {l : List UInt8} {T : TypeId} (hb : Itr w r l pos) (hl : l.length ≤ pos) :
    (Instr.next (.pointer (some ⟨r, 0, none⟩)) true T).run P w = .ok (.tuple ⟨[.bool false]⟩) w := by
  have hget : (getObj r).run P w = .ok (.stringIter ⟨⟨l⟩⟩ pos) w := by
    unfold Itr at hb
    simp [getObj, Sem.run, hb]
  have hsz : (⟨⟨l⟩⟩ : ByteArray).size = l.length := rfl
  unfold Instr.next
  simp only [Sem.run_bind, Sem.run_pure, Result.andThen_ok, hget, hsz, if_neg (Nat.not_lt.2 hl)]
set_option maxHeartbeats 800000 in
theorem e_run {o : Oper} {x : XE} {K : Value → World → Prop} {K' : Act → World → Prop} {Q : Exit → Act → World → Prop} {mf : List Nat} (hc : convE P mf o.type o.op = some x) (ha : ∀ t ∈ x.tmps, a.tmps.getD t undef = lk e t)
    (h : vE P e w K x) (hK : ∀ v w', K v w' → K' (a.put o.dst v) w') : o.wp P a w K' Q := by
  obtain ⟨dst, op, type, pos, after, guard⟩ := o
  simp only at hc
  have fin : ∀ {s : Sem Value} {v : Value} {w' : World}, execOp a.eval ⟨dst, op, type, pos, after, guard⟩ = (do pure (.value (← s)) : Sem Next) → s.run P w = .ok v w' → K v w' → Oper.wp P ⟨dst, op, type, pos, after, guard⟩ a w K' Q := by
    intro s v w' h1 h2 h3
    unfold Oper.wp
    rw [h1, Sem.run_bind, h2]
    exact hK _ _ h3
  have finU : ∀ {s : Sem Unit} {w' : World}, execOp a.eval ⟨dst, op, type, pos, after, guard⟩ = (do s; pure .skip : Sem Next) → s.run P w = .ok () w' → K undef w' → Oper.wp P ⟨dst, op, type, pos, after, guard⟩ a w K' Q := by
    intro s w' h1 h2 h3
    unfold Oper.wp
    rw [h1, Sem.run_bind, h2]
    exact hK _ _ h3
  have finC : ∀ {f : Nat} {args : List Value}, (execOp a.eval ⟨dst, op, type, pos, after, guard⟩).run P w = .ok (.enter f ⟨args⟩) w → CallsV P f args w K → Oper.wp P ⟨dst, op, type, pos, after, guard⟩ a w K' Q := by
    intro f args h1 h2
    unfold Oper.wp
    rw [h1]
    exact Calls.mono h2 fun x w' ⟨v, hx, hk⟩ => by subst hx; exact hK _ _ hk
  cases op
  case alloc T =>
    simp only [convE] at hc
    split at hc <;> simp only [Option.map_eq_some_iff, reduceCtorEq] at hc
    obtain ⟨z, hz, rfl⟩ := hc
    rename_i i hi
    exact fin rfl (by simp [Instr.alloc, zeroValue, typeInfo, hi, hz, newVar, newRow]) h
  case box T x =>
    simp only [convE, Option.some.injEq] at hc; subst hc
    have h1 := ev_cvO (x := x) ha
    exact fin rfl (by simp [Instr.box, newVar, newRow, h1]) h
  case buildSlice T n parts =>
    obtain ⟨parts⟩ := parts
    simp only [convE] at hc
    split at hc <;> try simp only [reduceCtorEq] at hc
    rename_i E hT
    split at hc <;> try simp only [reduceCtorEq] at hc
    rename_i i hi
    split at hc <;> simp only [Option.some.injEq, reduceCtorEq] at hc
    rename_i hcond
    obtain ⟨hp, hn, hz, hzz⟩ := hcond
    subst hc
    have hlen : parts.length = n := by have := congrArg List.length hp; simpa using this
    subst hlen
    have hev : ∀ p ∈ parts, a.eval p.2 = ev e (cvO p.2) := fun p hp' => ev_cvO (x := p.2) fun t ht => ha t (by
      simp only [XE.tmps, VOs.tmps, List.mem_flatMap, List.mem_map]
      exact ⟨cvO p.2, ⟨p, hp', rfl⟩, ht⟩)
    have hmap : parts.map (fun p => (p.1, a.eval p.2)) = parts.map (fun p => (p.1, ev e (cvO p.2))) := List.map_congr_left fun p hp' => by rw [hev p hp']
    have hr := bsl_run (P := P) (w := w) (parts := parts.map fun p => (p.1, ev e (cvO p.2))) hT hi (by
      rw [List.map_map, List.length_map]; exact hp) (by simpa using hn) hz hzz (by
      intro p hp'
      obtain ⟨q, hq, rfl⟩ := List.mem_map.1 hp'
      exact h.1 _ (List.mem_map.2 ⟨q, hq, rfl⟩))
    have h2 := h.2
    simp only [List.length_map, List.flatMap_map] at hr h2
    refine fin (s := Instr.buildSlice T parts.length ⟨parts.map fun p => (p.1, ev e (cvO p.2))⟩) ?_ hr h2
    simp only [execOp, List.map_toArray]
    rw [← hmap]
  case mapUpdate T m k v =>
    simp only [convE, Option.map_eq_some_iff] at hc
    obtain ⟨⟨K, e'⟩, hK, rfl⟩ := hc
    have h1 := evs (x := m) ha
    have h2 := evs (x := k) fun t ht => ha t (List.mem_append_right _ ht)
    have h3 := evs2 (x := v) fun t ht => ha t (List.mem_append_right _ ht)
    obtain ⟨w', hr, hk⟩ := mup_ex hK h
    exact finU (by simp only [execOp, h1, h2, h3]) hr hk
  case insert T m k v =>
    simp only [convE, Option.map_eq_some_iff] at hc
    obtain ⟨⟨K, e'⟩, hK, rfl⟩ := hc
    have h1 := evs (x := m) ha
    have h2 := evs (x := k) fun t ht => ha t (List.mem_append_right _ ht)
    have h3 := evs2 (x := v) fun t ht => ha t (List.mem_append_right _ ht)
    obtain ⟨w', hr, hk⟩ := mup_ex hK h
    exact finU (by simp only [execOp, h1, h2, h3]) hr hk
  case makeSlice T l c =>
    simp only [convE, Option.map_eq_some_iff] at hc
    obtain ⟨⟨E, z, b, zero⟩, hs, rfl⟩ := hc
    have h1 := evs (x := l) ha
    have h2 := evs2 (x := c) ha
    obtain ⟨v, w', hr, hk⟩ := h (slT_spec hs)
    refine fin (s := Instr.makeSlice T (ev e (cvO l)) (ev e (cvO c))) ?_ hr hk
    simp only [execOp, h1, h2]
  case convert s d x =>
    simp only [convE] at hc
    split at hc <;> try simp only [reduceCtorEq] at hc
    · rename_i E hs hd
      split at hc <;> simp only [Option.some.injEq, reduceCtorEq] at hc
      rename_i hE
      subst hc
      have h1 := ev_cvO (x := x) ha
      obtain ⟨s, he, v, w', hr, hk⟩ := h
      refine fin (s := convert _ _ (a.eval x)) rfl ?_ hk
      rw [h1, he]
      simp [convert, run_underlying hs, run_underlying hd, run_underlying hE, hr]
    · rename_i E hs hd
      split at hc <;> simp only [Option.some.injEq, reduceCtorEq] at hc
      rename_i hE
      subst hc
      have h1 := ev_cvO (x := x) ha
      obtain ⟨v, w', hr, hk⟩ := h
      refine fin (s := convert _ _ (a.eval x)) rfl ?_ hk
      rw [h1]
      cases hv : ev e (cvO x) <;> rw [hv] at hr <;> first | (simp [Conv.bytesToString, stuck] at hr; done) | skip
      simp only [convert, Sem.run_bind, run_underlying hs, run_underlying hd, run_underlying hE, Result.andThen_ok]
      exact hr
  case makeMap T r =>
    cases r <;> simp only [convE, Option.some.injEq, reduceCtorEq] at hc
    subst hc
    exact fin rfl rfl h
  case range T x =>
    simp only [convE] at hc
    split at hc <;> simp only [Option.some.injEq, reduceCtorEq] at hc
    rename_i hT
    subst hc
    have h1 := ev_cvO (x := x) ha
    obtain ⟨l, he, hk⟩ := h
    refine fin (s := Instr.range T (a.eval x)) rfl ?_ hk
    rw [h1, he]
    unfold Instr.range S
    simp only [Sem.run_bind, run_underlying hT, Result.andThen_ok, Sem.run_pure]
    rfl
  case next x b =>
    cases b <;> simp only [convE, Option.some.injEq, reduceCtorEq] at hc
    subst hc
    have h1 := ev_cvO (x := x) ha
    obtain ⟨r, l, pos, hx, hb, ⟨hl, hc, hk⟩ | ⟨hl, hk⟩⟩ := h
    · obtain ⟨w', hr, hb', hu⟩ := nxt_run (P := P) (T := type) hb hl hc
      exact fin (s := Instr.next (a.eval x) true type) rfl (by rw [h1, hx]; exact hr) (hk w' hb' hu)
    · exact fin (s := Instr.next (a.eval x) true type) rfl (by rw [h1, hx]; exact nxt_over hb hl) hk
  case store T x v =>
    simp only [convE, Option.map_eq_some_iff] at hc
    obtain ⟨i, hi, rfl⟩ := hc
    have h1 := evs (x := x) ha
    have h2 := evs2 (x := v) ha
    obtain ⟨b, off, cur, T', hx, hb, hs, hl, h1c, hk⟩ := h
    obtain ⟨w', hr, hb', hu⟩ := store_run hi hb hs hl h1c
    refine finU (s := Instr.storeAt T (ev e (cvO x)) (ev e (cvO v))) ?_ ?_ (hk w' hb' hu)
    · simp only [execOp, h1, h2]
    · rw [hx]; exact hr
  case call c =>
    obtain ⟨callee, args, argTypes⟩ := c
    obtain ⟨args⟩ := args
    obtain ⟨argTypes⟩ := argTypes
    simp only [convE, convCallE] at hc
    split at hc <;> try simp only [Option.some.injEq, reduceCtorEq] at hc
    · split at hc <;> simp only [Option.some.injEq, reduceCtorEq] at hc
      rename_i hf
      subst hc
      refine finC (by
        have hm := evs_map (a := a) (e := e) (l := args) ha
        simp only [execOp, resolve, Act.eval, Deferred.ofValue, Sem.run_bind, Sem.run_pure, Result.andThen_ok, invoke, List.map_toArray, Array.append_empty, Array.empty_append, callFunc_run hf]
        rw [← hm]) h
    · rename_i tm
      subst hc
      obtain ⟨n, first, cap, hf, ⟨fn, hfn, hb, hnm⟩, hcall⟩ := h
      have hpl : plainFn P n = true := by simp only [plainFn, hfn, hb, hnm, Bool.not_false, Bool.and_self]
      have h1 : a.eval (.tmp tm) = .func (.func n) ⟨first⟩ ⟨cap⟩ := by
        rw [← hf]; exact ha tm (by simp [XE.tmps, VO.tmps])
      refine finC (f := n) (args := first ++ args.map (fun x => ev e (cvO x)) ++ cap) ?_ (by simpa [List.map_map, Function.comp_def] using hcall)
      have hm := evs_map (a := a) (e := e) (l := args) fun t ht => ha t (by simp only [XE.tmps, List.mem_append]; right; exact ht)
      simp only [execOp, resolve, h1, Deferred.ofValue, Sem.run_bind, Sem.run_pure, Result.andThen_ok, invoke, callFunc_run hpl, List.map_toArray, hm, List.map_map]
      simp [Function.comp_def]
    · rename_i s x T T'
      split at hc
      · rename_i hTT
        subst hTT
        split at hc <;> simp only [Option.map_eq_some_iff] at hc
        all_goals
          obtain ⟨⟨E, z, b, zero⟩, hs, rfl⟩ := hc
          have h1 := evs (x := s) ha
          have h2 := evs2 (x := x) ha
          obtain ⟨v, w', hr, hk⟩ := h (slT_spec hs)
          unfold Oper.wp
          simp only [execOp, resolve, Sem.run_bind, Sem.run_pure, Result.andThen_ok, invoke, builtin, List.map_toArray, List.map_cons, List.map_nil, h1, h2, hr]
          exact hK _ _ hk
      · split at hc <;> simp only [Option.map_eq_some_iff, reduceCtorEq] at hc
        rename_i kn hkn
        obtain ⟨⟨E, z, b, zero⟩, hs, rfl⟩ := hc
        have h1 := evs (x := s) ha
        have h2 := evs2 (x := x) ha
        obtain ⟨v, w', hr, hk⟩ := h (slT_spec hs) ⟨kn, hkn⟩
        unfold Oper.wp
        simp only [execOp, resolve, Sem.run_bind, Sem.run_pure, Result.andThen_ok, invoke, builtin, List.map_toArray, List.map_cons, List.map_nil, h1, h2, hr]
        exact hK _ _ hk
  all_goals simp only [convE, reduceCtorEq] at hc
end
end Go.Proofs.YtnbnofmnbopknaaDoor
