/-
  The small operations that only read yield in the model what they say.
  Conditions: none (laws over any program).
-/
import Derived.Test.YtnbnofmnbopknaaDoorVb
set_option linter.unusedSimpArgs false
set_option linter.unusedVariables false
set_option linter.defProp false
namespace Go.Proofs.YtnbnofmnbopknaaDoor
open Go

section
variable {P : Program} {w : World} {a : Act} {e : Env}

theorem evs {x : Operand} {r : List Nat} (h : ∀ t ∈ (cvO x).tmps ++ r, a.tmps.getD t undef = lk e t) : a.eval x = ev e (cvO x) :=
  ev_cvO fun t ht => h t (List.mem_append_left _ ht)
theorem evs2 {x : Operand} {l : List Nat} (h : ∀ t ∈ l ++ (cvO x).tmps, a.tmps.getD t undef = lk e t) : a.eval x = ev e (cvO x) :=
  ev_cvO fun t ht => h t (List.mem_append_right _ ht)
theorem evo {x : Option Operand} (h : ∀ t ∈ ((x.map cvO).map VO.tmps).getD [], a.tmps.getD t undef = lk e t) : x.map a.eval = (x.map cvO).map (ev e) := by
  cases x with
  | none => rfl
  | some x => simp only [Option.map_some]; rw [ev_cvO (by simpa using h)]

theorem isAggB_run {T : TypeId} {b : Bool} (h : isAggB P T = some b) : (isAgg T).run P w = .ok b w := by
  unfold isAggB at h
  cases hu : P.underlying T with
  | none => simp [hu] at h
  | some d =>
    rw [hu] at h
    have hr := run_underlying hu w
    cases d <;> simp only [Option.some.injEq] at h <;> subst h <;> simp [isAgg, hr]
theorem sizeOf_run {T : TypeId} {i : TypeInfo} (h : P.info? T = some i) : (sizeOf T).run P w = .ok i.size w := by
  simp [sizeOf, typeInfo, h]

theorem bin_run {op : BinOp} {T : TypeId} {xo yo : Operand} {x y : Value} (h : binD op x y) :
    (do eqGuard op T xo yo x y; binOp op T x y : Sem Value).run P w = .ok (binV op x y) w := by
  rw [Sem.run_bind, eqGuard_plain _ _ _ _ _ _ _ _ (by
    cases x <;> cases y <;> simp only [binD] at h <;> simp), Result.andThen_ok]
  cases x <;> cases y <;> simp only [binD] at h
  · exact int_run P w op T _ _ _ _ h
  · exact str_run P w op T _ _ h

theorem idx_run {T : TypeId} {x i : Value} (hT : P.underlying T = some .string) (h : idxD x i) : (Instr.index T x i).run P w = .ok (idxV x i) w := by
  cases x <;> cases i <;> simp only [idxD] at h
  rename_i s k i
  obtain ⟨h0, h1⟩ := h
  have hlt : i.toNat < s.data.toList.length := by omega
  have e1 : s[i.toNat]? = some (s.data.toList.getD i.toNat 0) := by
    have : s[i.toNat]? = s.data.toList[i.toNat]? := by
      have hs : s.data.toList.length = s.size := rfl
      rw [List.getElem?_eq_getElem hlt]
      rw [getElem?_pos s i.toNat (by omega)]
      rfl
    rw [this, List.getD_eq_getElem?_getD, List.getElem?_eq_getElem hlt]
    rfl
  simp only [idxV]
  simp [Instr.index, asIntOf, run_underlying hT, h0, e1]

theorem bound_run {x : Value} {y : Nat} {c : BoundsCode} (hi : isI x) (h0 : 0 ≤ asI x) (h1 : asI x ≤ y) : (Instr.sliceBound x y c).run P w = .ok (asI x).toNat w := by
  cases x <;> simp only [isI] at hi
  simp only [asI] at h0 h1 ⊢
  simp [Instr.sliceBound, asIntOf, h0, h1]

theorem extract_list (s : ByteArray) (lo hi : Nat) : (s.extract lo hi).data.toList = (s.data.toList.take hi).drop lo := by
  rw [ByteArray.data_extract, Array.toList_extract, List.extract_eq_take_drop, List.drop_take]

theorem sub_run {T : TypeId} {x : Value} {lo hi : Option Value} (hT : P.underlying T = some .string) (h : subD x lo hi) :
    (Instr.sliceAt T x lo hi none).run P w = .ok (subV x lo hi) w := by
  cases x <;> simp only [subD] at h
  rename_i s
  have hs : s.data.toList.length = s.size := rfl
  have key : ∀ l h : Nat, (Instr.sliceBounds false s.size s.size lo hi none).run P w = .ok (l, h, s.size) w →
      (Instr.sliceAt T (.string s) lo hi none).run P w = .ok (S ((s.data.toList.take h).drop l)) w := by
    intro l h hb
    have e1 : S ((s.data.toList.take h).drop l) = .string (s.extract l h) := by rw [← extract_list]; rfl
    rw [e1]
    simp [Instr.sliceAt, Instr.slice, run_underlying hT, hb]
  have fin : ∀ l h : Nat, (Instr.sliceBounds false s.size s.size lo hi none).run P w = .ok (l, h, s.size) w → subV (.string s) lo hi = S ((s.data.toList.take h).drop l) →
      (Instr.sliceAt T (.string s) lo hi none).run P w = .ok (subV (.string s) lo hi) w := fun l h hb e => by rw [e]; exact key l h hb
  cases lo <;> cases hi <;> simp only [] at h
  · exact fin 0 s.size (by simp [Instr.sliceBounds]) (by simp only [subV]; rw [List.take_of_length_le (by omega)]; rfl)
  · obtain ⟨h1, h2, h3⟩ := h
    rename_i y
    exact fin 0 (asI y).toNat (by simp [Instr.sliceBounds, bound_run (y := s.size) h1 h2 h3]) rfl
  · obtain ⟨h1, h2, h3⟩ := h
    rename_i y
    exact fin (asI y).toNat s.size (by simp [Instr.sliceBounds, bound_run (y := s.size) h1 h2 h3]) (by simp only [subV]; rw [List.take_of_length_le (by omega)])
  · obtain ⟨h1, h2, h3, h4, h5⟩ := h
    rename_i y z
    exact fin (asI y).toNat (asI z).toNat (by simp [Instr.sliceBounds, bound_run h1 h3 (show asI y ≤ ((asI z).toNat : Nat) by omega), bound_run h2 (show 0 ≤ asI z by omega) (show asI z ≤ (s.size : Nat) by omega)]) rfl

theorem ssl_run {T E : TypeId} {i : TypeInfo} {x : Value} {lo hi : Option Value} (hT : P.underlying T = some (.slice E)) (hE : P.info? E = some i) (h : sslD x lo hi) :
    (Instr.sliceAt T x lo hi none).run P w = .ok (sslV i.size x lo hi) w := by
  cases x <;> simp only [sslD] at h
  rename_i ad n c
  have key : ∀ l h : Nat, (Instr.sliceBounds true n c lo hi none).run P w = .ok (l, h, c) w →
      (Instr.sliceAt T (.slice ad n c) lo hi none).run P w = .ok (.slice (cutA ad c l i.size) (h - l) (c - l)) w := by
    intro l h hb
    simp [Instr.sliceAt, Instr.slice, run_underlying hT, hb, sizeOf_run hE, cutA]
  have fin : ∀ l h : Nat, (Instr.sliceBounds true n c lo hi none).run P w = .ok (l, h, c) w → sslV i.size (.slice ad n c) lo hi = .slice (cutA ad c l i.size) (h - l) (c - l) →
      (Instr.sliceAt T (.slice ad n c) lo hi none).run P w = .ok (sslV i.size (.slice ad n c) lo hi) w := fun l h hb e => by rw [e]; exact key l h hb
  cases lo <;> cases hi <;> simp only [] at h
  · exact fin 0 n (by simp [Instr.sliceBounds]) (by simp [sslV])
  · obtain ⟨h1, h2, h3⟩ := h
    rename_i y
    exact fin 0 (asI y).toNat (by simp [Instr.sliceBounds, bound_run h1 h2 h3]) (by simp [sslV])
  · obtain ⟨h1, h2, h3⟩ := h
    rename_i y
    exact fin (asI y).toNat n (by simp [Instr.sliceBounds, bound_run h1 h2 h3]) rfl
  · obtain ⟨h1, h2, h3, h4, h5⟩ := h
    rename_i y z
    exact fin (asI y).toNat (asI z).toNat (by simp [Instr.sliceBounds, bound_run h1 h3 (show asI y ≤ ((asI z).toNat : Nat) by omega), bound_run h2 (show 0 ≤ asI z by omega) h5]) rfl

theorem fa_run {T : TypeId} {fs : Array Field} {f : Nat} {fd : Field} {i : TypeInfo} {x : Value} (hT : P.underlying T = some (.struct fs)) (hf : fs[f]? = some fd) (hi : P.info? fd.type = some i) (h0 : i.size ≠ 0) (h : isP x) :
    (Instr.fieldAt T x f).run P w = .ok (faV fd.offset x) w := by
  cases x <;> simp only [isP] at h
  rename_i p
  cases p <;> simp only [] at h
  simp [Instr.fieldAt, run_underlying hT, hf, Instr.sureAddr, fieldPlace, sizeOf_run hi, h0, faV]

theorem ia_run {T E : TypeId} {i : TypeInfo} {x y : Value} (hT : P.underlying T = some (.slice E)) (hE : P.info? E = some i) (h : iaD x y) :
    (Instr.indexAt T x y).run P w = .ok (iaV i.size x y) w := by
  cases x <;> cases y <;> simp only [iaD] at h
  rename_i ad n c k j
  cases ad <;> simp only [] at h
  obtain ⟨h0, h1⟩ := h
  simp [Instr.indexAt, asIntOf, run_underlying hT, sizeOf_run hE, h0, h1, iaV]

theorem ld_run {T : TypeId} {x : Value} (hT : isAggB P T = some false) (h : ldD w x) : (Instr.loadAt T x).run P w = .ok (ldV w x) w := by
  cases x <;> simp only [ldD] at h
  rename_i p
  cases p <;> simp only [] at h
  rename_i ad
  cases hc : w.cell? ad with
  | none => exact absurd hc h
  | some v => simp [Instr.loadAt, Instr.sureAddr, loadVar, isAggB_run hT, hc, ldV]

theorem lda_run {T : TypeId} {i : TypeInfo} {x : Value} (hT : isAggB P T = some true) (hi : P.info? T = some i) (h : ldaD w i.size x) : (Instr.loadAt T x).run P w = .ok (ldaV w i.size x) w := by
  cases x <;> simp only [ldaD] at h
  rename_i p
  cases p <;> simp only [] at h
  rename_i ad
  have hr := run_loadCells (P := P) (w := w) ad i.size (fun j => (w.cell? (ad.add j)).getD undef) (fun j hj => by
    cases hc : w.cell? (ad.add j) with
    | none => exact absurd hc (h j hj)
    | some v => rfl)
  simp [Instr.loadAt, Instr.sureAddr, loadVar, isAggB_run hT, sizeOf_run hi, hr, ldaV]

theorem fld_run {T : TypeId} {fs : Array Field} {f : Nat} {fd : Field} {x : Value} (hT : P.underlying T = some (.struct fs)) (hf : fs[f]? = some fd) (hg : isAggB P fd.type = some false) (h : fldD fd.offset x) :
    (Instr.field T x f).run P w = .ok (fldV fd.offset x) w := by
  cases x <;> simp only [fldD] at h
  rename_i cs
  simp [Instr.field, run_underlying hT, hf, asAgg, part, isAggB_run hg, h, fldV]

theorem flda_run {T : TypeId} {fs : Array Field} {f : Nat} {fd : Field} {i : TypeInfo} {x : Value} (hT : P.underlying T = some (.struct fs)) (hf : fs[f]? = some fd) (hg : isAggB P fd.type = some true) (hi : P.info? fd.type = some i) (h : isAg x) :
    (Instr.field T x f).run P w = .ok (fldaV fd.offset i.size x) w := by
  cases x <;> simp only [isAg] at h
  simp [Instr.field, run_underlying hT, hf, asAgg, part, isAggB_run hg, sizeOf_run hi, fldaV]

theorem eq_bool (T : TypeId) (b c : Bool) (hT : P.underlying T = some .bool) : (Op.equal T (.bool b) (.bool c)).run P w = .ok (b == c) w := by
  have h : ∀ d : Nat, (Op.equalIn (d + 1) T (.bool b) (.bool c)).run P w = .ok (b == c) w := fun d => by
    simp [Op.equalIn, run_underlying hT]
  exact h 9999
theorem eq_snil (T E : TypeId) (a : Option Addr) (n c n' c' : Nat) (hT : P.underlying T = some (.slice E)) : (Op.equal T (.slice a n c) (.slice none n' c')).run P w = .ok a.isNone w := by
  have h : ∀ d : Nat, (Op.equalIn (d + 1) T (.slice a n c) (.slice none n' c')).run P w = .ok a.isNone w := fun d => by
    cases a <;> simp [Op.equalIn, run_underlying hT]
  exact h 9999

theorem beq_run {T : TypeId} {op : BinOp} {neg : Bool} {xo yo : Operand} {x y : Value} (hop : op = if neg then .neq else .eql) (hT : P.underlying T = some .bool) (h : beqD x y) :
    (do eqGuard op T xo yo x y; binOp op T x y : Sem Value).run P w = .ok (beqV neg x y) w := by
  cases x <;> cases y <;> simp only [beqD] at h
  rw [Sem.run_bind, eqGuard_plain _ _ _ _ _ _ _ _ (by simp), Result.andThen_ok]
  rename_i b c
  have he := eq_bool (w := w) T b c hT
  cases neg <;> subst hop <;> simp only [binOp, Bool.false_eq_true, if_false, if_true, Sem.run_bind, he, Result.andThen_ok, Sem.run_pure, beqV] <;> cases b <;> cases c <;> rfl

theorem snil_run {T E : TypeId} {op : BinOp} {neg : Bool} {xo yo : Operand} {x y : Value} (hop : op = if neg then .neq else .eql) (hT : P.underlying T = some (.slice E)) (h : snilD x y) :
    (do eqGuard op T xo yo x y; binOp op T x y : Sem Value).run P w = .ok (snilV neg x y) w := by
  cases x <;> cases y <;> simp only [snilD] at h
  rename_i a n c a' n' c'
  cases a' <;> simp only [] at h
  rw [Sem.run_bind, eqGuard_plain _ _ _ _ _ _ _ _ (by simp), Result.andThen_ok]
  have he := eq_snil (w := w) T E a n c n' c' hT
  cases neg <;> subst hop <;> simp only [binOp, Bool.false_eq_true, if_false, if_true, Sem.run_bind, he, Result.andThen_ok, Sem.run_pure, snilV] <;> cases a <;> rfl

theorem un_run {x : Value} : asBD x → (Op.unary .not x).run P w = .ok (notV x) w := by
  intro h
  cases x <;> simp only [asBD] at h
  rfl
theorem neg_run {x : Value} (h : negD x) : (Op.unary .neg x).run P w = .ok (negV x) w := by
  cases x <;> simp only [negD] at h
  simp only [negV, Op.unary, Op.intArith, wrap_in h, Sem.run_pure]
theorem cvi_run {s d : TypeId} {k k' : IntKind} {x : Value} (hs : P.underlying s = some (.int k')) (hd : P.underlying d = some (.int k)) (h : cviD k x) : (convert s d x).run P w = .ok (cviV k x) w := by
  cases x <;> simp only [cviD] at h
  simp [convert, run_underlying hs, run_underlying hd, Conv.intToInt, cviV, wrap_in h]
theorem mx_run {x y : Value} (t : TypeId) (T : Array TypeId) (h : mxD x y) : (Builtin.max_ T t #[x, y]).run P w = .ok (mxV x y) w := by
  cases x <;> cases y <;> simp only [mxD] at h
  subst h
  simp [Builtin.max_, Builtin.max2, mxV]
theorem mn_run {x y : Value} (t : TypeId) (T : Array TypeId) (h : mnD x y) : (Builtin.min_ T t #[x, y]).run P w = .ok (mnV x y) w := by
  cases x <;> cases y <;> simp only [mnD] at h
  · subst h
    simp [Builtin.min_, Builtin.min2, mnV]
  · rename_i a b
    have h1 : (Builtin.min2 (.string a) (.string b)).run P w = .ok (mnV (.string a) (.string b)) w := by
      simp only [Builtin.min2, Op.stringOp, ByteArray.toList_eq, beq_dec, mnV, Sem.run_bind, Sem.run_pure, Result.andThen_ok, asBool]
      cases (Op.bytesLess a.data.toList b.data.toList || decide (a.data.toList = b.data.toList)) <;> rfl
    simp [Builtin.min_, h1]
theorem len_run {x : Value} {T t : TypeId} (hT : P.underlying T = some .string) (h : lenD x) : (Builtin.len_ #[T] t #[x]).run P w = .ok (lenV x) w := by
  cases x <;> simp only [lenD] at h
  simp [Builtin.len_, run_underlying hT, lenV, goInt]
theorem lens_run {x : Value} {T t E : TypeId} (hT : P.underlying T = some (.slice E)) (h : lensD x) : (Builtin.len_ #[T] t #[x]).run P w = .ok (lensV x) w := by
  cases x <;> simp only [lensD] at h
  simp [Builtin.len_, run_underlying hT, lensV, goInt]
theorem caps_run {x : Value} {T t E : TypeId} (hT : P.underlying T = some (.slice E)) (h : lensD x) : (Builtin.cap_ #[T] t #[x]).run P w = .ok (capsV x) w := by
  cases x <;> simp only [lensD] at h
  simp [Builtin.cap_, run_underlying hT, capsV, goInt]

theorem spl_length (cur ys : List Value) (o : Nat) (h : o + ys.length ≤ cur.length) : (spl cur o ys).length = cur.length := by
  unfold spl
  simp only [List.length_append, List.length_take, List.length_drop]
  omega
theorem fill_mono {f g : Nat → Option (Nat × Nat)} (h : ∀ i x, g i = some x → f i = some x) : ∀ (parts : List (Nat × Value)) (cs r : Array Value), Instr.fill g cs parts = some r → Instr.fill f cs parts = some r
  | [], _, _, hr => hr
  | (i, v) :: rest, cs, r, hr => by
    simp only [Instr.fill] at hr ⊢
    cases hg : g i with
    | none => simp [hg] at hr
    | some x =>
      rw [h i x hg]
      simp only [hg] at hr ⊢
      split at hr
      · cases hr
      · rename_i hc
        rw [if_neg hc]
        exact fill_mono h rest _ _ hr
theorem fill_bld (P : Program) (places : List (Nat × Nat)) (fs : List TypeId) (n : Nat) (g : VO → Value) : ∀ (parts : List (Nat × Operand)) (ps : List (Nat × Nat × VO)) (cs : List Value), cs.length = n →
    bldConv P places fs n parts = some ps → bldP (ps.map fun p => (p.1, p.2.1, g p.2.2)) →
    Instr.fill (places.toArray[·]?) ⟨cs⟩ (parts.map fun p => (p.1, g (cvO p.2))) = some ⟨bldL cs (ps.map fun p => (p.1, p.2.1, g p.2.2))⟩ := by
  intro parts
  induction parts with
  | nil =>
    intro ps cs _ hc _
    simp only [bldConv, Option.some.injEq] at hc
    subst hc
    rfl
  | cons p parts ih =>
    intro ps cs hl hc hd
    obtain ⟨f, x⟩ := p
    simp only [bldConv] at hc
    split at hc <;> try simp only [reduceCtorEq] at hc
    rename_i off sz fd hp hf
    split at hc <;> try simp only [reduceCtorEq] at hc
    rename_i ag hag
    split at hc <;> simp only [Option.map_eq_some_iff, reduceCtorEq] at hc
    rename_i hcond
    obtain ⟨ps', hc', rfl⟩ := hc
    obtain ⟨h1, h2, h3⟩ := hcond
    have hp' : places.toArray[f]? = some (off, sz) := by simpa using hp
    have put : ∀ v : Value, v.cells.size = sz → Array.foldl (fun cs (x : Value × Nat) => cs.setIfInBounds (off + x.2) x.1) (⟨cs⟩ : Array Value) v.cells.zipIdx = ⟨spl cs off v.cells.toList⟩ := by
      intro v hv
      have := foldl_put v.cells.toList 0 ⟨cs⟩ off
      rcases this with h | h
      · rw [← Array.foldl_toList]
        simpa using h
      · simp at h; omega
    have go : ∀ v : Value, g (cvO x) = v → v.cells.size = sz → Instr.fill (places.toArray[·]?) ⟨cs⟩ ((f, g (cvO x)) :: parts.map fun p => (p.1, g (cvO p.2))) = Instr.fill (places.toArray[·]?) ⟨spl cs off v.cells.toList⟩ (parts.map fun p => (p.1, g (cvO p.2))) := by
      intro v hv hs
      rw [hv]
      simp only [Instr.fill, hp', hs]
      rw [if_neg (by simp [hl]; omega)]
      rw [← put v hs]
    simp only [List.map_cons]
    cases ag with
    | false =>
      simp only [Bool.false_eq_true, if_false, List.map_cons, bldP] at hd ⊢
      have hs : (g (cvO x)).cells.size = sz := by rw [hd.1, h3 rfl]; rfl
      rw [go _ rfl hs, hd.1, bldL]
      have e : spl cs off [g (cvO x)] = cs.set off (g (cvO x)) := spl_one cs off _ (by omega)
      show Instr.fill _ ⟨spl cs off [g (cvO x)]⟩ _ = _
      rw [e]
      exact ih ps' _ (by rw [List.length_set]; exact hl) hc' hd.2
    | true =>
      obtain ⟨m, rfl⟩ : ∃ m, sz = m + 1 := ⟨sz - 1, by omega⟩
      simp only [if_true, List.map_cons, bldP] at hd ⊢
      rw [go _ rfl hd.1, bldL]
      exact ih ps' _ (by rw [spl_length _ _ _ (by rw [Array.length_toList, hd.1]; omega)]; exact hl) hc' hd.2

/-- The entry that a map holds under a key, with its place. -/
def findK (K : TypeDesc) (k : Value) : List MapEntry → Nat → Option (Option (Nat × Value))
  | [], _ => (nilK K k).map fun _ => none
  | e :: es, i => match sameK K k e.key with | some true => some (some (i, e.val)) | some false => findK K k es (i + 1) | none => none
theorem findK_lkE (K : TypeDesc) (k : Value) : ∀ (es : List MapEntry) (i : Nat), (findK K k es i).map (Option.map (·.2)) = lkE K k (es.map fun e => (e.key, e.val)) := by
  intro es
  induction es with
  | nil =>
    intro i
    show ((nilK K k).map fun _ => (none : Option (Nat × Value))).map (Option.map (·.2)) = nilK K k
    unfold nilK
    split
    · split <;> rfl
    · rfl
  | cons e es ih =>
    intro i
    simp only [findK, List.map_cons, lkE]
    split
    · rename_i h; rw [h]; rfl
    · rename_i h; rw [h]; exact ih _
    · rename_i h; rw [h]; rfl
/-- The key types that are compared here. -/
def KeyK (P : Program) (K : TypeDesc) : Prop := K = .string ∨ (∃ i, K = .int i) ∨ K = .bool ∨ ∃ el ie, K = .array 2 el ∧ P.underlying el = some (.int .i64) ∧ P.info? el = some ie ∧ ie.size = 1
theorem keyDesc_spec {T e : TypeId} {K : TypeDesc} (h : keyDesc P T = some (K, e)) : ∃ kt, P.underlying T = some (.map kt e) ∧ P.underlying kt = some K ∧ KeyK P K := by
  unfold keyDesc at h
  split at h <;> try simp only [reduceCtorEq] at h
  rename_i k e' hT
  split at h <;> try simp only [Option.some.injEq, Prod.mk.injEq, reduceCtorEq] at h
  · obtain ⟨rfl, rfl⟩ := h; rename_i hk; exact ⟨k, hT, hk, .inl rfl⟩
  · obtain ⟨rfl, rfl⟩ := h; rename_i i hk; exact ⟨k, hT, hk, .inr (.inl ⟨i, rfl⟩)⟩
  · obtain ⟨rfl, rfl⟩ := h; rename_i hk; exact ⟨k, hT, hk, .inr (.inr (.inl rfl))⟩
  · rename_i el hk
    split at h <;> try simp only [reduceCtorEq] at h
    rename_i ie hel hie
    split at h <;> simp only [Option.some.injEq, Prod.mk.injEq, reduceCtorEq] at h
    rename_i hs
    obtain ⟨rfl, rfl⟩ := h
    exact ⟨k, hT, hk, .inr (.inr (.inr ⟨el, ie, rfl, hel, hie, hs⟩))⟩
theorem keyPair_spec {v : Value} {p : Int × Int} (h : keyPair v = some p) : v = .agg ⟨[.int .i64 p.1, .int .i64 p.2]⟩ := by
  unfold keyPair at h
  split at h
  · simp only [Option.some.injEq] at h; subst h; rfl
  · cases h
theorem findK_pair {n : Nat} {el : TypeId} {k : Value} : ∀ {es : List MapEntry} {i : Nat} {r : Option (Nat × Value)}, findK (.array n el) k es i = some r → ∃ p, keyPair k = some p
  | [], i, r, h => by
    simp only [findK, nilK] at h
    split at h
    · rename_i p hp; exact ⟨p, hp⟩
    · simp at h
  | e :: es, i, r, h => by
    simp only [findK, sameK] at h
    cases hp : keyPair k with
    | some p => exact ⟨p, rfl⟩
    | none => simp [hp] at h
theorem part_run {el : TypeId} {ie : TypeInfo} (hel : P.underlying el = some (.int .i64)) (cs : Array Value) (off : Nat) (v : Value) (h : cs[off]? = some v) : (part el cs off).run P w = .ok v w := by
  unfold part
  have ha : (isAgg el).run P w = .ok false w := by unfold isAgg; simp [run_underlying hel]
  simp [ha, h]
theorem checkKey_run {kt : TypeId} {K : TypeDesc} (hk : P.underlying kt = some K) (hK : KeyK P K) (b : Bool) (v : Value) (hv : ∀ n el, K = .array n el → ∃ p, keyPair v = some p) : (Instr.checkKey b 10000 kt v).run P w = .ok () w := by
  rcases hK with rfl | ⟨i, rfl⟩ | rfl | ⟨el, ie, rfl, hel, hie, hs⟩
  · unfold Instr.checkKey; simp [run_underlying hk]
  · unfold Instr.checkKey; simp [run_underlying hk]
  · unfold Instr.checkKey; simp [run_underlying hk]
  · obtain ⟨p, hp⟩ := hv _ _ rfl
    have hz : ∀ w, (sizeOf el).run P w = .ok 1 w := fun w => by unfold sizeOf; simp [typeInfo, hie, hs]
    have h0 : ∀ w, (part el ⟨[.int .i64 p.1, .int .i64 p.2]⟩ 0).run P w = .ok (.int .i64 p.1) w := fun w => part_run (ie := ie) hel _ _ _ rfl
    have h1 : ∀ w, (part el ⟨[.int .i64 p.1, .int .i64 p.2]⟩ 1).run P w = .ok (.int .i64 p.2) w := fun w => part_run (ie := ie) hel _ _ _ rfl
    have hc : ∀ (x : Int) w, (Instr.checkKey b 9999 el (.int .i64 x)).run P w = .ok () w := fun x w => by
      rw [show (9999 : Nat) = 9998 + 1 from rfl]
      unfold Instr.checkKey; simp [run_underlying hel]
    rw [keyPair_spec hp, show (10000 : Nat) = 9999 + 1 from rfl, Instr.checkKey]
    simp only [Sem.run_bind, run_underlying hk, Result.andThen_ok]
    simp only [Std.Legacy.Range.forIn_eq_forIn_range', Std.Legacy.Range.size, Nat.sub_zero, Nat.add_sub_cancel, Nat.div_one, List.range'_succ, List.range'_zero, List.forIn_cons, List.forIn_nil]
    simp [hz, h0, h1, hc]
theorem equal_run {kt el : TypeId} {ie : TypeInfo} (hk : P.underlying kt = some (.array 2 el)) (hel : P.underlying el = some (.int .i64)) (hie : P.info? el = some ie) (hs : ie.size = 1) (p q : Int × Int) :
    (Op.equal kt (.agg ⟨[.int .i64 p.1, .int .i64 p.2]⟩) (.agg ⟨[.int .i64 q.1, .int .i64 q.2]⟩)).run P w = .ok (decide (p = q)) w := by
  have hz : ∀ w, (sizeOf el).run P w = .ok 1 w := fun w => by unfold sizeOf; simp [typeInfo, hie, hs]
  have h0 : ∀ (p : Int × Int) w, (part el ⟨[.int .i64 p.1, .int .i64 p.2]⟩ 0).run P w = .ok (.int .i64 p.1) w := fun p w => part_run (ie := ie) hel _ _ _ rfl
  have h1 : ∀ (p : Int × Int) w, (part el ⟨[.int .i64 p.1, .int .i64 p.2]⟩ 1).run P w = .ok (.int .i64 p.2) w := fun p w => part_run (ie := ie) hel _ _ _ rfl
  have hc : ∀ (x y : Int) w, (Op.equalIn 9999 el (.int .i64 x) (.int .i64 y)).run P w = .ok (x == y) w := fun x y w => by
    rw [show (9999 : Nat) = 9998 + 1 from rfl]
    unfold Op.equalIn; simp [run_underlying hel]
  unfold Op.equal
  rw [show Op.maxDepth = 9999 + 1 from rfl, Op.equalIn]
  simp only [Sem.run_bind, run_underlying hk, Result.andThen_ok]
  simp only [Std.Legacy.Range.forIn_eq_forIn_range', Std.Legacy.Range.size, Nat.sub_zero, Nat.add_sub_cancel, Nat.div_one, List.range'_succ, List.range'_zero, List.forIn_cons, List.forIn_nil]
  obtain ⟨a, b⟩ := p
  obtain ⟨c, d⟩ := q
  have e0 := h0 (a, b); have e1 := h1 (a, b); have e2 := h0 (c, d); have e3 := h1 (c, d)
  simp only at e0 e1 e2 e3
  have hd : decide ((a, b) = (c, d)) = (a == c && b == d) := by
    by_cases ha : a = c <;> by_cases hb : b = d <;> simp [ha, hb]
  rw [hd]
  cases hac : (a == c) <;> cases hbd : (b == d) <;> simp [hz, e0, e1, e2, e3, hc, hac, hbd]
theorem findAsking_run {kt el : TypeId} {ie : TypeInfo} {k : Value} (hk : P.underlying kt = some (.array 2 el)) (hel : P.underlying el = some (.int .i64)) (hie : P.info? el = some ie) (hs : ie.size = 1) : ∀ (es : List MapEntry) (i : Nat) {r : Option (Nat × Value)}, findK (.array 2 el) k es i = some r → (Instr.findAsking kt k es i).run P w = .ok r w := by
  intro es
  induction es with
  | nil =>
    intro i r h
    simp only [findK, Option.map_eq_some_iff] at h
    obtain ⟨_, _, rfl⟩ := h
    simp [Instr.findAsking]
  | cons e es ih =>
    intro i r h
    obtain ⟨p, hp⟩ := findK_pair h
    simp only [findK, sameK, hp] at h
    cases hq : keyPair e.key with
    | none => simp [hq] at h
    | some q =>
      have he := equal_run (P := P) (w := w) hk hel hie hs p q
      rw [← keyPair_spec hp, ← keyPair_spec hq] at he
      simp only [hq] at h
      simp only [Instr.findAsking, Sem.run_bind, he, Result.andThen_ok]
      by_cases hpq : p = q
      · simp only [hpq, decide_true, Option.some.injEq] at h
        subst h
        simp [hpq]
      · simp only [hpq, decide_false] at h
        simp only [hpq, decide_false, Bool.false_eq_true, if_false]
        exact ih _ h
theorem findK_now {K : TypeDesc} (hK : ∀ n el, K ≠ .array n el) (k : Value) : ∀ (es : List MapEntry) (i : Nat), findK K k es i = Instr.findNow K k es i := by
  intro es
  induction es with
  | nil =>
    intro i
    simp only [findK, Instr.findNow]
    unfold nilK
    split
    · exact absurd rfl (hK _ _)
    · rfl
  | cons e es ih =>
    intro i
    have hs : sameK K k e.key = Instr.sameNow K k e.key := by
      unfold sameK
      split
      · exact absurd rfl (hK _ _)
      · rfl
    simp only [findK, Instr.findNow, hs]
    split <;> simp_all
theorem findKey_run {kt : TypeId} {K : TypeDesc} (hk : P.underlying kt = some K) (hK : KeyK P K) (k : Value) (es : List MapEntry) {r : Option (Nat × Value)} (h : findK K k es 0 = some r) : (Instr.findKey kt k es).run P w = .ok r w := by
  have plain : (∀ n el, K ≠ .array n el) → (Instr.findKey kt k es).run P w = .ok r w := fun hn => by
    rw [findK_now hn] at h
    unfold Instr.findKey
    simp [run_underlying hk, h]
  rcases hK with rfl | ⟨i, rfl⟩ | rfl | ⟨el, ie, rfl, hel, hie, hs⟩
  · exact plain (by simp)
  · exact plain (by simp)
  · exact plain (by simp)
  · have ha := findAsking_run (P := P) (w := w) hk hel hie hs es 0 h
    cases es with
    | nil =>
      simp only [findK, Option.map_eq_some_iff] at h
      obtain ⟨_, _, rfl⟩ := h
      unfold Instr.findKey
      simp [run_underlying hk, Instr.findNow]
    | cons e es =>
      unfold Instr.findKey
      simp only [Sem.run_bind, run_underlying hk, Result.andThen_ok, Instr.findNow, Instr.sameNow]
      exact ha
theorem getObj_run {r : Nat} {es : Array MapEntry} {ck : Nat} (hb : w.heap[r]? = some (.map es ck)) : (getObj r).run P w = .ok (.map es ck) w := by
  simp [getObj, Sem.run, hb]
theorem mlk_run {T e : TypeId} {K : TypeDesc} {x k z : Value} {i : TypeInfo} (co : Bool) (hT : keyDesc P T = some (K, e)) (hi : P.info? e = some i) (hz : i.zero = some z) (hd : mlkD w K x k) :
    (Instr.lookup T x k co).run P w = .ok (mlkV w co K z x k) w := by
  obtain ⟨kt, hu, hk, hK⟩ := keyDesc_spec hT
  unfold mlkD at hd
  unfold mlkV
  have key : ∀ es : List MapEntry, ∀ b : Bool, mapAt w x = some (es.map fun e => (e.key, e.val)) →
      (do Instr.checkKey b 10000 kt k
          let (v, ok) ← match ← Instr.findKey kt k es with
            | some (_, v) => pure (v, true)
            | none => pure (← zeroValue e, false)
          pure (if co then .tuple #[v, .bool ok] else v) : Sem Value).run P w = .ok (mlkR co z ((mapAt w x).bind (lkE K k))) w := by
    intro es b hm
    rw [hm] at hd ⊢
    simp only [Option.bind_some] at hd ⊢
    have hf := findK_lkE K k es 0
    cases hn : findK K k es 0 with
    | none => rw [hn] at hf; rw [← hf] at hd; cases hd
    | some r =>
      rw [hn] at hf
      rw [← hf]
      have h1 := checkKey_run (P := P) (w := w) hk hK b k (fun n el e => by subst e; exact findK_pair hn)
      have h2 := findKey_run (P := P) (w := w) hk hK k es hn
      cases r with
      | none =>
        cases co <;> simp [h1, h2, zeroValue, typeInfo, hi, hz, mlkR, Result.andThen]
      | some p =>
        cases co <;> simp [h1, h2, mlkR, Result.andThen]
  cases x with
  | map r =>
    cases r with
    | none =>
      have := key [] true rfl
      unfold Instr.lookup
      simp only [Sem.run_bind, run_underlying hu, Result.andThen_ok, Sem.run_pure] at this ⊢
      exact this
    | some r =>
      cases hb : w.heap[r]? with
      | none => simp [mapAt, hb] at hd
      | some o =>
        cases o with
        | map es ck =>
          have := key es.toList es.isEmpty (by simp [mapAt, hb, entriesOf])
          unfold Instr.lookup
          simp only [Sem.run_bind, run_underlying hu, getObj_run hb, Result.andThen_ok, Sem.run_pure] at this ⊢
          exact this
        | _ => simp [mapAt, hb] at hd
  | _ => simp [mapAt] at hd
theorem evs_mapq {l : List Operand} (h : ∀ t ∈ (l.map cvO).flatMap VO.tmps, a.tmps.getD t undef = lk e t) : l.map a.eval = (l.map cvO).map (ev e) := by
  induction l with
  | nil => rfl
  | cons x l ih =>
    simp only [List.map_cons]
    rw [ev_cvO (x := x) fun t ht => h t (by simp [ht]), ih fun t ht => h t (by
      simp only [List.map_cons, List.flatMap_cons, List.mem_append]; right; exact ht)]
/-- Each small operation that only reads, but for 'pick': it yields its value where it is defined. -/
theorem q_run {o : Oper} {x : XO} (hc : convQ P o.op = some x) (hp : ∀ c a b, x ≠ .pick c a b) (ha : ∀ t ∈ x.tmps, a.tmps.getD t undef = lk e t) (hd : qd e w x) :
    (execOp a.eval o).run P w = .ok (.value (qv e w x)) w := by
  obtain ⟨dst, op, type, pos, after, guard⟩ := o
  simp only at hc
  cases op
  case move x =>
    simp only [convQ, Option.some.injEq] at hc; subst hc
    simp only [execOp, Sem.run_pure, qv]; rw [ev_cvO ha]
  case assign x =>
    simp only [convQ, Option.some.injEq] at hc; subst hc
    simp only [execOp, Sem.run_pure, qv]; rw [ev_cvO ha]
  case pick c x y =>
    simp only [convQ, Option.some.injEq] at hc; subst hc
    exact absurd rfl (hp _ _ _)
  case binOp op T x y T' =>
    have gen : ∀ z, z = XO.bin op (cvO x) (cvO y) → (∀ t ∈ z.tmps, a.tmps.getD t undef = lk e t) → qd e w z →
        (execOp a.eval ⟨dst, .binOp op T x y T', type, pos, after, guard⟩).run P w = .ok (.value (qv e w z)) w := by
      rintro _ rfl ha hd
      have h1 := evs (x := x) ha
      have h2 := evs2 (x := y) ha
      simp only [execOp, h1, h2, qv, Sem.run_bind (α := Value)]
      rw [bin_run hd]
      rfl
    cases op <;> simp only [convQ] at hc
    case eql =>
      split at hc <;> simp only [Option.some.injEq, reduceCtorEq] at hc
      · subst hc
        rename_i hT
        simp only [execOp, evs (x := x) ha, evs2 (x := y) ha, qv, Sem.run_bind (α := Value)]
        rw [beq_run (op := .eql) (neg := false) rfl hT hd]; rfl
      · subst hc
        rename_i hT
        simp only [execOp, evs (x := x) ha, evs2 (x := y) ha, qv, Sem.run_bind (α := Value)]
        rw [snil_run (op := .eql) (neg := false) rfl hT hd]; rfl
      · exact gen _ hc.symm ha hd
      · exact gen _ hc.symm ha hd
    case neq =>
      split at hc <;> simp only [Option.some.injEq, reduceCtorEq] at hc
      · subst hc
        rename_i hT
        simp only [execOp, evs (x := x) ha, evs2 (x := y) ha, qv, Sem.run_bind (α := Value)]
        rw [beq_run (op := .neq) (neg := true) rfl hT hd]; rfl
      · subst hc
        rename_i hT
        simp only [execOp, evs (x := x) ha, evs2 (x := y) ha, qv, Sem.run_bind (α := Value)]
        rw [snil_run (op := .neq) (neg := true) rfl hT hd]; rfl
      · exact gen _ hc.symm ha hd
      · exact gen _ hc.symm ha hd
    all_goals exact gen _ (Option.some.inj hc).symm ha hd
  case unOp op T x =>
    cases op <;> simp only [convQ, Option.some.injEq, reduceCtorEq] at hc <;> subst hc
    · simp only [execOp, ev_cvO (x := x) ha, qv, Sem.run_bind (α := Value)]; rw [neg_run hd]; rfl
    · simp only [execOp, ev_cvO (x := x) ha, qv, Sem.run_bind (α := Value)]; rw [un_run hd]; rfl
  case convert s d x =>
    simp only [convQ] at hc
    split at hc <;> simp only [Option.some.injEq, reduceCtorEq] at hc
    subst hc
    rename_i h1 h2
    simp only [execOp, ev_cvO (x := x) ha, qv, Sem.run_bind (α := Value)]; rw [cvi_run h1 h2 hd]; rfl
  case slice T x lo hi mx =>
    cases mx <;> simp only [convQ, reduceCtorEq] at hc
    split at hc <;> simp only [Option.some.injEq, Option.map_eq_some_iff, reduceCtorEq] at hc
    · subst hc
      rename_i hT
      have h1 := evs (x := x) ha
      have h2 := evo (x := lo) fun t ht => ha t (List.mem_append_right _ (List.mem_append_left _ ht))
      have h3 := evo (x := hi) fun t ht => ha t (List.mem_append_right _ (List.mem_append_right _ ht))
      simp only [execOp, h1, h2, h3, qv, Sem.run_bind (α := Value), Option.map_none]; rw [sub_run hT hd]; rfl
    · obtain ⟨i, hE, rfl⟩ := hc
      rename_i hT
      have h1 := evs (x := x) ha
      have h2 := evo (x := lo) fun t ht => ha t (List.mem_append_right _ (List.mem_append_left _ ht))
      have h3 := evo (x := hi) fun t ht => ha t (List.mem_append_right _ (List.mem_append_right _ ht))
      simp only [execOp, h1, h2, h3, qv, Sem.run_bind (α := Value), Option.map_none]; rw [ssl_run hT hE hd]; rfl
  case lookup T x i co =>
    simp only [convQ] at hc
    split at hc <;> try simp only [reduceCtorEq] at hc
    rename_i K e' hK
    split at hc <;> simp only [Option.map_eq_some_iff, reduceCtorEq] at hc
    rename_i j hj
    obtain ⟨z, hz, rfl⟩ := hc
    simp only [execOp, evs (x := x) ha, evs2 (x := i) ha, qv, Sem.run_bind (α := Value)]; rw [mlk_run co hK hj hz hd]; rfl
  case build T parts =>
    obtain ⟨parts⟩ := parts
    simp only [convQ] at hc
    have gen : ∀ (places : List (Nat × Nat)) (ts : List TypeId) (z : Value) (ps : List (Nat × Nat × VO)), bldConv P places ts z.cells.size parts = some ps → x = .bld z.cells.toList ps →
        (∀ r, Instr.fill (places.toArray[·]?) z.cells (parts.map fun p => (p.1, ev e (cvO p.2))) = some r → P.built T (parts.map fun p => (p.1, ev e (cvO p.2))) = some r) →
        (execOp a.eval ⟨dst, .build T ⟨parts⟩, type, pos, after, guard⟩).run P w = .ok (.value (qv e w x)) w := by
      rintro places ts z ps hps rfl hb0
      have hmem : ∀ p ∈ parts, a.eval p.2 = ev e (cvO p.2) := fun p hp' => ev_cvO (x := p.2) fun t ht => ha t (by
        have hin : ∀ (parts : List (Nat × Operand)) (ps : List (Nat × Nat × VO)), bldConv P places ts z.cells.size parts = some ps → p ∈ parts → ∃ q ∈ ps, q.2.2 = cvO p.2 := by
          intro parts
          induction parts with
          | nil => intro ps _ h; cases h
          | cons p0 parts ih =>
            intro ps hc hm
            simp only [bldConv] at hc
            split at hc <;> try simp only [reduceCtorEq] at hc
            split at hc <;> try simp only [reduceCtorEq] at hc
            split at hc <;> simp only [Option.map_eq_some_iff, reduceCtorEq] at hc
            obtain ⟨ps', hc', rfl⟩ := hc
            rcases List.mem_cons.1 hm with rfl | hm
            · exact ⟨_, List.mem_cons_self, rfl⟩
            · obtain ⟨q, hq, e⟩ := ih ps' hc' hm
              exact ⟨q, List.mem_cons_of_mem _ hq, e⟩
        obtain ⟨q, hq, e⟩ := hin parts ps hps hp'
        simp only [XO.tmps, List.mem_flatMap]
        exact ⟨q, hq, by rw [e]; exact ht⟩)
      have hmap : parts.map (fun p => (p.1, a.eval p.2)) = parts.map (fun p => (p.1, ev e (cvO p.2))) := List.map_congr_left fun p hp' => by rw [hmem p hp']
      have hf := fill_bld P places ts z.cells.size (ev e) parts ps z.cells.toList (by rw [Array.length_toList]) hps hd
      have hb := hb0 _ hf
      have hr := run_build (P := P) w T ⟨parts.map fun p => (p.1, ev e (cvO p.2))⟩ _ hb
      simp only [execOp, List.map_toArray]
      rw [show (parts.map fun x => match x with | (i, x) => (i, a.eval x)) = parts.map fun p => (p.1, ev e (cvO p.2)) from hmap]
      simp only [Sem.run_bind (α := Value)]
      rw [hr]; rfl
    split at hc <;> try simp only [reduceCtorEq] at hc
    · rename_i it fields hit hu
      split at hc <;> try simp only [reduceCtorEq] at hc
      rename_i z places hz hpl
      simp only [Option.map_eq_some_iff] at hc
      obtain ⟨ps, hps, rfl⟩ := hc
      exact gen places _ z ps hps rfl fun r hr => by simp only [Program.built, hit, hu, hz, hpl]; exact hr
    · rename_i it len el hit hu
      split at hc <;> try simp only [reduceCtorEq] at hc
      rename_i z ie hz hie
      simp only [Option.map_eq_some_iff] at hc
      obtain ⟨ps, hps, rfl⟩ := hc
      refine gen _ _ z ps hps rfl fun r hr => ?_
      simp only [Program.built, hit, hu, hz, hie]
      refine fill_mono (fun i x hx => ?_) _ _ _ hr
      simp only [List.getElem?_toArray, List.getElem?_map, Option.map_eq_some_iff] at hx
      obtain ⟨k, hk, rfl⟩ := hx
      have hk2 : k = i := by
        by_cases hlt : i < len
        · rw [List.getElem?_range hlt] at hk; exact (Option.some.inj hk).symm
        · rw [List.getElem?_eq_none (by simp; omega)] at hk; cases hk
      rw [hk2]
  case fieldAddr T x f =>
    simp only [convQ] at hc
    split at hc <;> try simp only [reduceCtorEq] at hc
    rename_i hT
    split at hc <;> try simp only [reduceCtorEq] at hc
    rename_i hf
    split at hc <;> try simp only [reduceCtorEq] at hc
    rename_i hi
    split at hc <;> simp only [Option.some.injEq, reduceCtorEq] at hc
    subst hc
    rename_i h0
    simp only [execOp, ev_cvO (x := x) ha, qv, Sem.run_bind (α := Value)]; rw [fa_run hT hf hi h0 hd]; rfl
  case indexAddr T x i =>
    simp only [convQ] at hc
    split at hc <;> simp only [Option.map_eq_some_iff, reduceCtorEq] at hc
    obtain ⟨j, hE, rfl⟩ := hc
    rename_i hT
    simp only [execOp, evs (x := x) ha, evs2 (x := i) ha, qv, Sem.run_bind (α := Value)]; rw [ia_run hT hE hd]; rfl
  case index T x i =>
    simp only [convQ] at hc
    split at hc <;> simp only [Option.some.injEq, reduceCtorEq] at hc
    subst hc
    rename_i hT
    simp only [execOp, evs (x := x) ha, evs2 (x := i) ha, qv, Sem.run_bind (α := Value)]; rw [idx_run hT hd]; rfl
  case load T x =>
    simp only [convQ] at hc
    split at hc <;> simp only [Option.some.injEq, Option.map_eq_some_iff, reduceCtorEq] at hc
    · subst hc
      rename_i hT
      simp only [execOp, ev_cvO (x := x) ha, qv, Sem.run_bind (α := Value)]; rw [ld_run hT hd]; rfl
    · obtain ⟨i, hi, rfl⟩ := hc
      rename_i hT
      simp only [execOp, ev_cvO (x := x) ha, qv, Sem.run_bind (α := Value)]; rw [lda_run hT hi hd]; rfl
  case field T x f =>
    simp only [convQ] at hc
    split at hc <;> try simp only [reduceCtorEq] at hc
    rename_i hT
    split at hc <;> try simp only [reduceCtorEq] at hc
    rename_i hf
    split at hc <;> simp only [Option.some.injEq, Option.map_eq_some_iff, reduceCtorEq] at hc
    · subst hc
      rename_i hg
      simp only [execOp, ev_cvO (x := x) ha, qv, Sem.run_bind (α := Value)]; rw [fld_run hT hf hg hd]; rfl
    · obtain ⟨i, hi, rfl⟩ := hc
      rename_i hg
      simp only [execOp, ev_cvO (x := x) ha, qv, Sem.run_bind (α := Value)]; rw [flda_run hT hf hg hi hd]; rfl
  case nilCheck x =>
    simp only [convQ, Option.some.injEq] at hc; subst hc
    have h1 := ev_cvO (x := x) ha
    simp only [qd] at hd
    simp only [execOp, h1, qv]
    cases hv : ev e (cvO x) <;> rw [hv] at hd <;> simp only [isN] at hd
    · rename_i p
      cases p <;> simp only [] at hd
      rfl
    · rename_i f _ _
      cases f <;> simp only [] at hd
      rfl
  case makeFunc f first cap =>
    obtain ⟨first⟩ := first
    obtain ⟨cap⟩ := cap
    cases f <;> simp only [convQ, Option.some.injEq, reduceCtorEq] at hc
    subst hc
    have h1 := evs_mapq (l := first) fun t ht => ha t (List.mem_append_left _ ht)
    have h2 := evs_mapq (l := cap) fun t ht => ha t (List.mem_append_right _ ht)
    simp only [execOp, qv, List.map_toArray, h1, h2]
    rfl
  case extract x i =>
    simp only [convQ, Option.some.injEq] at hc; subst hc
    have h1 := ev_cvO (x := x) ha
    simp only [qd] at hd
    simp only [execOp, h1, qv, Sem.run_bind (α := Value)]
    cases hv : ev e (cvO x) <;> rw [hv] at hd <;> simp only [extD] at hd
    simp [Instr.extract, hd, extV]
  case call c =>
    obtain ⟨callee, args, argTypes⟩ := c
    obtain ⟨args⟩ := args
    obtain ⟨argTypes⟩ := argTypes
    simp only [convQ, convCall] at hc
    split at hc <;> try simp only [Option.some.injEq, reduceCtorEq] at hc
    · rename_i x T
      split at hc <;> try simp only [Option.some.injEq, reduceCtorEq] at hc
      · subst hc
        rename_i hT
        have h1 := ev_cvO (x := x) ha
        simp only [execOp, resolve, List.map_toArray, List.map_cons, List.map_nil, Sem.run_bind, Sem.run_pure, Result.andThen_ok, invoke, builtin, h1, qv]
        rw [len_run hT hd]; rfl
      · subst hc
        rename_i hT
        have h1 := ev_cvO (x := x) ha
        simp only [execOp, resolve, List.map_toArray, List.map_cons, List.map_nil, Sem.run_bind, Sem.run_pure, Result.andThen_ok, invoke, builtin, h1, qv]
        rw [lens_run hT hd]; rfl
    · rename_i x T
      split at hc <;> try simp only [Option.some.injEq, reduceCtorEq] at hc
      subst hc
      rename_i hT
      have h1 := ev_cvO (x := x) ha
      simp only [execOp, resolve, List.map_toArray, List.map_cons, List.map_nil, Sem.run_bind, Sem.run_pure, Result.andThen_ok, invoke, builtin, h1, qv]
      rw [caps_run hT hd]; rfl
    · rename_i x y
      subst hc
      have h1 := evs (x := x) ha
      have h2 := evs2 (x := y) ha
      simp only [execOp, resolve, List.map_toArray, List.map_cons, List.map_nil, Sem.run_bind, Sem.run_pure, Result.andThen_ok, invoke, builtin, h1, h2, qv]
      rw [mx_run _ _ hd]; rfl
    · rename_i x y
      subst hc
      have h1 := evs (x := x) ha
      have h2 := evs2 (x := y) ha
      simp only [execOp, resolve, List.map_toArray, List.map_cons, List.map_nil, Sem.run_bind, Sem.run_pure, Result.andThen_ok, invoke, builtin, h1, h2, qv]
      rw [mn_run _ _ hd]; rfl
  all_goals simp only [convQ, reduceCtorEq] at hc
end
end Go.Proofs.YtnbnofmnbopknaaDoor
