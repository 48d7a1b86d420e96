/-
  Small code: whole functions. From a function of the model to small code (convF); what is asked of the small code (vcK); that it is enough (callsV_of).
  Conditions: none (laws over any program).
-/
import Derived.Test.YtnbnofmnbopknaaDoorVr
set_option linter.unusedSimpArgs false
set_option linter.unusedVariables false
set_option linter.defProp false
namespace Go.Proofs.YtnbnofmnbopknaaDoor
open Go Go.RowKit

inductive X where
  | skip
  | reg (ps : List Nat) (xs : XT)
  | drw (ps : List Nat) (xs : XT)
  | seq (a b : X)
  | cond (c : VO) (a b : X)
  | blk (id : Nat) (c : X)
  | loop (chg keep : List Nat) (c : X)
  | exit (id : Nat)
  | ret
  | dead

inductive Ex where
  | nrm
  | exit (id : Nat)
  | ret
def toExit : Ex → Exit
  | .nrm => .normal
  | .exit j => .exit j
  | .ret => .ret

def pick (ps : List Nat) (e : Env) (r : Nat → Value) : Env := ⟨ps.map fun s => (s, lk e s), r⟩
def zipE : List Nat → List Value → List (Nat × Value)
  | s :: ss, v :: vs => (s, v) :: zipE ss vs
  | _, _ => []

def vc (P : Program) : X → (Ex → Env → World → Prop) → Env → World → Prop
  | .skip, K, e, w => K .nrm e w
  | .reg ps xs, K, e, w => vops P (fun e w => ∀ r, K .nrm (pick ps e r) w) xs e w
  | .drw ps xs, K, e, w => vopd P w.drew (fun e w => ∀ r, K .nrm (pick ps e r) w) xs e w.drew
  | .seq a b, K, e, w => vc P a (fun
    | .nrm, e, w => vc P b K e w
    | .exit j, e, w => K (.exit j) e w
    | .ret, e, w => K .ret e w) e w
  | .cond c a b, K, e, w => asBD (ev e c) ∧ (asB (ev e c) = true → vc P a K e w) ∧ (asB (ev e c) = false → vc P b K e w)
  | .blk id c, K, e, w => vc P c (fun
    | .nrm, e, w => K .nrm e w
    | .exit j, e, w => if j = id then K .nrm e w else K (.exit j) e w
    | .ret, e, w => K .ret e w) e w
  | .loop chg keep c, K, e, w => ∃ I : Nat → List Value → World → Prop, (∃ m, I m (chg.map (lk e)) w) ∧ ∀ m vs r w', I m vs w' → vc P c (fun
    | .nrm, e', w'' => keep.map (lk e') = keep.map (lk e) ∧ ∃ m', m' < m ∧ I m' (chg.map (lk e')) w''
    | .exit j, e', w'' => K (.exit j) e' w''
    | .ret, e', w'' => K .ret e' w'') ⟨zipE chg vs ++ zipE keep (keep.map (lk e)), r⟩ w'
  | .exit j, K, e, w => K (.exit j) e w
  | .ret, K, e, w => K .ret e w
  | .dead, _, _, _ => False

/-- Regions and loops in the order of the text: a region's slots that are read later; a loop's slots that its rounds change, and those that they leave. -/
abbrev Anns := List (List Nat × List Nat)

def convC (P : Program) (mf : List Nat) (n : Nat) : Code → Anns → Option (X × Anns)
  | .skip, A => some (.skip, A)
  | .region _ ops false, (ps, _) :: A =>
    match convList P mf n ops ops.toList [] with
    | some (xs, G) => if ps.all fun s => (look G s).isEmpty then some (.reg ps xs, A) else some (.dead, A)
    | none => some (.dead, A)
  | .region _ ops true, (ps, _) :: A =>
    if Region.noSelect ops then
      match convDraw P mf n ops (muts P mf ops) ps ops.size (Array.replicate ops.size false) [] with
      | some xs => some (.drw ps xs, A)
      | none => some (.dead, A)
    else some (.dead, A)
  | .seq a b, A =>
    match convC P mf n a A with
    | some (x, A') => (convC P mf n b A').map fun r => (.seq x r.1, r.2)
    | none => none
  | .cond c a b, A =>
    match convC P mf n a A with
    | some (x, A') => (convC P mf n b A').map fun r => (.cond (cvO c) x r.1, r.2)
    | none => none
  | .block id c, A => (convC P mf n c A).map fun r => (.blk id r.1, r.2)
  | .loop c, A =>
    match A with
    | (chg, keep) :: A' => (convC P mf n c A').map fun r => (.loop chg keep r.1, r.2)
    | [] => none
  | .exit j, A => some (.exit j, A)
  | .ret, A => some (.ret, A)
  | _, _ => none

theorem lk_pick {n : Nat} {G : GT} {ps : List Nat} {e : Env} {a : Act} (hr : RelG n G e a) (hps : (ps.all fun s => (look G s).isEmpty) = true) : RelG n [] (pick ps e fun t => a.tmps.getD t undef) a := by
  have key : ∀ (l : List Nat) (t : Nat), (∀ s ∈ l, s ∈ ps) → lkL (l.map fun s => (s, lk e s)) (fun t => a.tmps.getD t undef) t = a.tmps.getD t undef := by
    intro l t
    induction l with
    | nil => intro _; rfl
    | cons s l ih =>
      intro hl
      simp only [List.map_cons, lkL]
      split
      · rename_i hst
        subst hst
        have h1 := List.all_eq_true.1 hps s (hl s (by simp))
        have h2 : look G s = [] := by simpa using h1
        exact (hr.yes s (by rw [h2]; trivial)).symm
      · exact ih fun s hs => hl s (by simp [hs])
  exact ⟨hr.def_, hr.size, fun t _ => (key ps t fun _ h => h).symm, fun t h => absurd trivial h⟩

theorem relG_zip {n : Nat} {e : Env} {a : Act} (hr : RelG n [] e a) (l : List Nat) (r : List (Nat × Value)) (h : ∀ t, lkL r (fun t => a.tmps.getD t undef) t = a.tmps.getD t undef) :
    ∀ t, lkL (zipE l (l.map (lk e)) ++ r) (fun t => a.tmps.getD t undef) t = a.tmps.getD t undef := by
  intro t
  induction l with
  | nil => exact h t
  | cons s l ih =>
    simp only [List.map_cons, zipE, List.cons_append, lkL]
    split
    · rename_i hst; subst hst; exact (hr.yes s trivial).symm
    · exact ih

theorem loop_rule {P : Program} {Q : Exit → Act → World → Prop} {c : Code} (J : Nat → Act → World → Prop)
    (round : ∀ m a w, J m a w → c.wp P (Exit.then (fun a' w' => ∃ m', m' < m ∧ J m' a' w') Q) a w) {m : Nat} {a : Act} {w : World} (h0 : J m a w) : (Code.loop c).wp P Q a w := by
  intro b k cs
  have key : ∀ m a w, J m a w → ∃ e a' w', Q e a' w' ∧ Arrives P (lone (b.at a (.code c :: .inLoop c :: k)) cs w) b k cs e a' w' := by
    intro m
    induction m using Nat.strongRecOn with
    | _ m ih =>
      intro a w hJ
      obtain ⟨e, a₁, w₁, hq, harr⟩ := round m a w hJ b (.inLoop c :: k) cs
      cases e with
      | normal =>
        obtain ⟨m', hlt, hJ'⟩ := hq
        obtain ⟨e₂, a₂, w₂, hq₂, harr₂⟩ := ih m' hlt a₁ w₁ hJ'
        exact ⟨e₂, a₂, w₂, hq₂, .of_steps (Steps.trans harr (.one step_inLoop)) harr₂⟩
      | exit id => exact ⟨_, a₁, w₁, hq, .pass (x := .inLoop c) rfl (fun _ _ => .inl (by simp)) harr⟩
      | goto l => exact ⟨_, a₁, w₁, hq, .pass (x := .inLoop c) rfl (fun _ _ => .inl (by simp)) harr⟩
      | ret => exact ⟨_, a₁, w₁, hq, .pass (x := .inLoop c) rfl (fun _ _ => .inl (by simp)) harr⟩
      | panic ch => exact ⟨_, a₁, w₁, hq, .pass (x := .inLoop c) rfl (fun _ _ => .inl (by simp)) harr⟩
      | outgrown => exact ⟨_, a₁, w₁, hq, .pass (x := .inLoop c) rfl (fun _ _ => .inl (by simp)) harr⟩
  obtain ⟨e, a', w', hq, harr⟩ := key m a w h0
  exact ⟨e, a', w', hq, .of_steps (.one step_loop) harr⟩

/-- What is asked of the small code is enough for the code. -/
theorem code_sound {P : Program} (hm : P.follows .mixedOrders = true) {mf : List Nat} {n : Nat} : ∀ (c : Code) (A A' : Anns) (x : X), convC P mf n c A = some (x, A') →
    ∀ (K : Ex → Env → World → Prop) (Q : Exit → Act → World → Prop) (e : Env) (a : Act) (w : World), RelG n [] e a → vc P x K e w → (∀ ex e a w, RelG n [] e a → K ex e w → Q (toExit ex) a w) → c.wp P Q a w := by
  intro c
  induction c with
  | skip =>
    intro A A' x hc K Q e a w hr hv hK
    simp only [convC, Option.some.injEq, Prod.mk.injEq] at hc
    obtain ⟨rfl, rfl⟩ := hc
    exact wp_skip (hK .nrm e a w hr hv)
  | region id ops draw =>
    intro A A' x hc K Q e a w hr hv hK
    cases A with
    | nil => cases draw <;> simp only [convC, reduceCtorEq] at hc
    | cons pa A =>
    obtain ⟨ps, _⟩ := pa
    cases draw with
    | false =>
      simp only [convC] at hc
      split at hc
      case h_2 => simp only [Option.some.injEq, Prod.mk.injEq] at hc; obtain ⟨rfl, rfl⟩ := hc; exact hv.elim
      rename_i xs G hx
      split at hc
      case isFalse => simp only [Option.some.injEq, Prod.mk.injEq] at hc; obtain ⟨rfl, rfl⟩ := hc; exact hv.elim
      simp only [Option.some.injEq, Prod.mk.injEq] at hc
      obtain ⟨rfl, rfl⟩ := hc
      rename_i hps
      refine wp_region ?_
      have := seq_sound (Q := Q) ops.toList 0 [] G xs e a w (by simp) hx hr hv fun e a w hr hk => hK .nrm _ a w (lk_pick hr hps) (hk _)
      simpa [List.range_eq_range'] using this
    | true =>
      simp only [convC] at hc
      split at hc
      case isFalse => simp only [Option.some.injEq, Prod.mk.injEq] at hc; obtain ⟨rfl, rfl⟩ := hc; exact hv.elim
      rename_i hsel
      split at hc
      case h_2 => simp only [Option.some.injEq, Prod.mk.injEq] at hc; obtain ⟨rfl, rfl⟩ := hc; exact hv.elim
      rename_i xs hx
      simp only [Option.some.injEq, Prod.mk.injEq] at hc
      obtain ⟨rfl, rfl⟩ := hc
      refine wp_region_noPanic (wp_region_L (S := fun L w1 => (∃ m ∈ muts P mf ops, L.getD m false = true) ∨ Ext w.drew w1) hm ?_)
      exact draw_sound (w0 := w.drew) (Q := NoPanic Q) rfl hsel (fun c a w h => h) ops.size _ [] xs e a w.drew hx (closed_start _ rfl) hr hv (Or.inr (Ext.refl _)) fun G e a w hps hr hk => NoPanic.normal (hK .nrm _ a w (lk_pick hr hps) (hk _))
  | seq c1 c2 ih1 ih2 =>
    intro A A' x hc K Q e a w hr hv hK
    simp only [convC] at hc
    split at hc <;> simp only [Option.map_eq_some_iff, reduceCtorEq] at hc
    rename_i x1 A1 h1
    obtain ⟨⟨x2, A2⟩, h2, he⟩ := hc
    simp only [Prod.mk.injEq] at he
    obtain ⟨rfl, rfl⟩ := he
    refine wp_seq (ih1 A A1 x1 h1 _ _ e a w hr hv fun ex e a w hr hk => ?_)
    cases ex with
    | nrm => exact ih2 A1 A2 x2 h2 K Q e a w hr hk hK
    | exit j => exact hK (.exit j) e a w hr hk
    | ret => exact hK .ret e a w hr hk
  | cond o c1 c2 ih1 ih2 =>
    intro A A' x hc K Q e a w hr hv hK
    simp only [convC] at hc
    split at hc <;> simp only [Option.map_eq_some_iff, reduceCtorEq] at hc
    rename_i x1 A1 h1
    obtain ⟨⟨x2, A2⟩, h2, he⟩ := hc
    simp only [Prod.mk.injEq] at he
    obtain ⟨rfl, rfl⟩ := he
    obtain ⟨hb, ht, hf⟩ := hv
    have hev : a.eval o = ev e (cvO o) := ev_cvO fun t _ => hr.yes t trivial
    cases hve : ev e (cvO o) <;> rw [hve] at hb ht hf <;> simp only [asBD] at hb
    rename_i b
    refine wp_cond (t := b) (hev.trans hve) ?_
    cases b with
    | true => exact ih1 A A1 x1 h1 K Q e a w hr (ht rfl) hK
    | false => exact ih2 A1 A2 x2 h2 K Q e a w hr (hf rfl) hK
  | block id c ih =>
    intro A A' x hc K Q e a w hr hv hK
    simp only [convC, Option.map_eq_some_iff] at hc
    obtain ⟨⟨x1, A1⟩, h1, he⟩ := hc
    simp only [Prod.mk.injEq] at he
    obtain ⟨rfl, rfl⟩ := he
    refine wp_block (ih A A1 x1 h1 _ _ e a w hr hv fun ex e a w hr hk => ?_)
    cases ex with
    | nrm => exact hK .nrm e a w hr hk
    | exit j =>
      simp only at hk
      show if j = id then _ else _
      split at hk
      · rename_i hj; rw [if_pos hj]; exact hK .nrm e a w hr hk
      · rename_i hj; rw [if_neg hj]; exact hK (.exit j) e a w hr hk
    | ret => exact hK .ret e a w hr hk
  | loop c ih =>
    intro A A' x hc K Q e a w hr hv hK
    cases A with
    | nil => simp only [convC, reduceCtorEq] at hc
    | cons ck A =>
      obtain ⟨chg, keep⟩ := ck
      simp only [convC, Option.map_eq_some_iff] at hc
      obtain ⟨⟨x1, A1⟩, h1, he⟩ := hc
      simp only [Prod.mk.injEq] at he
      obtain ⟨rfl, rfl⟩ := he
      obtain ⟨I, ⟨m0, h0⟩, step⟩ := hv
      have mk : ∀ (e' : Env) (a' : Act), RelG n [] e' a' → keep.map (lk e') = keep.map (lk e) → RelG n [] ⟨zipE chg (chg.map (lk e')) ++ zipE keep (keep.map (lk e)), fun t => a'.tmps.getD t undef⟩ a' := fun e' a' hr' hk' => by
        refine ⟨hr'.def_, hr'.size, fun t _ => ?_, fun t h => absurd trivial h⟩
        rw [← hk']
        have h2 := relG_zip hr' keep [] (fun _ => rfl)
        simp only [List.append_nil] at h2
        exact (relG_zip hr' chg _ h2 t).symm
      refine loop_rule (fun m a w => ∃ vs r, I m vs w ∧ RelG n [] ⟨zipE chg vs ++ zipE keep (keep.map (lk e)), r⟩ a) ?_ ⟨_, _, h0, mk e a hr rfl⟩
      rintro m a w ⟨vs, r, hI, hr⟩
      refine ih A A1 x1 h1 _ _ _ a w hr (step m vs r w hI) fun ex e' a' w' hr' hk => ?_
      cases ex with
      | nrm =>
        obtain ⟨hkeep, m', hlt, hI'⟩ := hk
        exact ⟨m', hlt, _, _, hI', mk e' a' hr' hkeep⟩
      | exit j => exact hK (.exit j) e' a' w' hr' hk
      | ret => exact hK .ret e' a' w' hr' hk
  | exit j =>
    intro A A' x hc K Q e a w hr hv hK
    simp only [convC, Option.some.injEq, Prod.mk.injEq] at hc
    obtain ⟨rfl, rfl⟩ := hc
    exact wp_exit (hK (.exit j) e a w hr hv)
  | ret =>
    intro A A' x hc K Q e a w hr hv hK
    simp only [convC, Option.some.injEq, Prod.mk.injEq] at hc
    obtain ⟨rfl, rfl⟩ := hc
    exact wp_ret (hK .ret e a w hr hv)
  | _ => intro A A' x hc; simp only [convC, reduceCtorEq] at hc

/-! ### whole functions -/
def convRes (P : Program) : ResultVar → Option XO
  | .tmp t => some (.mv (.t t))
  | .cell a T =>
    match isAggB P T with
    | some false => some (.ld (.t a))
    | some true => (P.info? T).map fun i => .lda i.size (.t a)
    | none => none
def convResL (P : Program) : List ResultVar → Option (List XO)
  | [] => some []
  | r :: l =>
    match convRes P r with
    | some x => (convResL P l).map fun xs => x :: xs
    | none => none
def convF (P : Program) (mf : List Nat) (fn : Func) (A : Anns) : Option (X × List XO) :=
  match fn.body with
  | some c =>
    match convC P mf fn.ntmps c A with
    | some (x, _) => (convResL P fn.results.toList).map fun r => (x, r)
    | none => none
  | none => none
def resV (e : Env) (w : World) : List XO → Value
  | [x] => qv e w x
  | xs => .tuple ⟨xs.map (qv e w)⟩
def resD (e : Env) (w : World) : List XO → Prop
  | [] => True
  | x :: xs => qd e w x ∧ resD e w xs
def argE : Nat → List Value → List (Nat × Value)
  | _, [] => []
  | i, v :: vs => (i, v) :: argE (i + 1) vs

def rget (a : Act) : ResultVar → Sem Value
  | .tmp t => pure (a.tmps.getD t undef)
  | .cell ad t => do loadVar t (← asAddr (a.tmps.getD ad undef))
theorem res_one {P : Program} {n : Nat} {e : Env} {a : Act} {w : World} (hr : RelG n [] e a) (r : ResultVar) (x : XO) (hx : convRes P r = some x) (hd : qd e w x) : (rget a r).run P w = .ok (qv e w x) w := by
  cases r with
  | tmp t =>
    simp only [convRes, Option.some.injEq] at hx; subst hx
    simp only [rget, Sem.run_pure, qv, ev]
    rw [hr.yes t trivial]
  | cell ad T =>
    have hl := hr.yes ad trivial
    simp only [convRes] at hx
    have hsure : ∀ v : Value, isP v → (do loadVar T (← asAddr v) : Sem Value).run P w = (Instr.loadAt T v).run P w := fun v hv => by
      cases v <;> simp only [isP] at hv
      rename_i p
      cases p <;> simp only [] at hv
      rfl
    split at hx <;> simp only [Option.some.injEq, Option.map_eq_some_iff, reduceCtorEq] at hx
    · subst hx
      rename_i hT
      simp only [qd, ev] at hd
      simp only [rget, hl, qv, ev]
      rw [hsure _ (by cases hv : lk e ad <;> rw [hv] at hd <;> simp only [ldD] at hd; rename_i p; cases p <;> simp only [] at hd; trivial)]
      exact ld_run hT hd
    · obtain ⟨i, hi, rfl⟩ := hx
      rename_i hT
      simp only [qd, ev] at hd
      simp only [rget, hl, qv, ev]
      rw [hsure _ (by cases hv : lk e ad <;> rw [hv] at hd <;> simp only [ldaD] at hd; rename_i p; cases p <;> simp only [] at hd; trivial)]
      exact lda_run hT hi hd
theorem res_run {P : Program} {n : Nat} {e : Env} {a : Act} {w : World} (hr : RelG n [] e a) : ∀ (l : List ResultVar) (xs : List XO), convResL P l = some xs → resD e w xs →
    (l.mapM (rget a)).run P w = .ok (xs.map (qv e w)) w
  | [], xs, hc, _ => by simp only [convResL, Option.some.injEq] at hc; subst hc; rfl
  | r :: l, xs, hc, hd => by
    simp only [convResL] at hc
    split at hc <;> simp only [Option.map_eq_some_iff, reduceCtorEq] at hc
    rename_i x hx
    obtain ⟨ys, hys, rfl⟩ := hc
    rw [List.mapM_cons, Sem.run_bind, res_one hr r x hx hd.1, Result.andThen_ok, Sem.run_bind, res_run hr l ys hys hd.2, Result.andThen_ok]
    rfl

/-- From what is asked of a function's small code to its call. -/
theorem callsV_vc {P : Program} (hm : P.follows .mixedOrders = true) {f : Nat} {mf : List Nat} {fn : Func} {A : Anns} {x : X} {res : List XO} {args : List Value} {w : World} {R : Value → World → Prop}
    (hf : P.funcs[f]? = some fn) (hc : convF P mf fn A = some (x, res))
    (h : vc P x (fun | .exit _, _, _ => False | .nrm, e, w => resD e w res ∧ R (resV e w res) w | .ret, e, w => resD e w res ∧ R (resV e w res) w) ⟨argE 0 args, fun _ => undef⟩ w) : CallsV P f args w R := by
  unfold convF at hc
  split at hc <;> try simp only [reduceCtorEq] at hc
  rename_i c hb
  split at hc <;> simp only [Option.map_eq_some_iff, reduceCtorEq] at hc
  rename_i x' A' hx
  obtain ⟨r, hres, he⟩ := hc
  simp only [Prod.mk.injEq] at he
  obtain ⟨hx1, hx2⟩ := he
  subst hx1; subst hx2
  have hr0 : RelG fn.ntmps [] ⟨argE 0 args, fun _ => undef⟩ { tmps := ⟨args⟩ ++ Array.replicate (fn.ntmps - (⟨args⟩ : Array Value).size) undef, defers := [] } := by
    have key : ∀ (l : List Value) (i t : Nat), i ≤ t → lkL (argE i l) (fun _ => undef) t = l.getD (t - i) undef := by
      intro l
      induction l with
      | nil => intro i t _; simp [argE, lkL]
      | cons v l ih =>
        intro i t hit
        simp only [argE, lkL]
        split
        · rename_i h; subst h; simp
        · rw [ih (i + 1) t (by omega), show t - i = (t - (i + 1)) + 1 from by omega]; simp
    refine ⟨rfl, by simp; omega, fun t _ => ?_, fun t h => absurd trivial h⟩
    have := key args 0 t (Nat.zero_le _)
    show _ = lkL (argE 0 args) (fun _ => undef) t
    rw [this]
    simp only [Nat.sub_zero]
    by_cases ht : t < args.length
    · simp [Array.getElem?_append, ht]
    · simp [Array.getElem?_append, ht]
      by_cases h2 : t - args.length < fn.ntmps - args.length
      · simp [h2]
      · simp [h2]
  have hfin : ∀ (e : Env) (a : Act) (w : World), RelG fn.ntmps [] e a → resD e w r → R (resV e w r) w → a.defers = [] ∧ ∃ v, (results fn a.tmps).run P w = .ok v w ∧ (∃ u, Ending.returned v = .returned u ∧ R u w) := fun e a w hr hd hR => by
    refine ⟨hr.def_, resV e w r, ?_, _, rfl, hR⟩
    have h1 := res_run (w := w) hr fn.results.toList r hres hd
    show (do let vs ← fn.results.mapM (rget a); pure (if h : vs.size = 1 then vs[0] else .tuple vs) : Sem Value).run P w = _
    rw [Sem.run_bind, Array.mapM_eq_mapM_toList, Sem.run_map, h1]
    simp only [Result.andThen_ok, Sem.run_pure]
    congr 1
    cases r with
    | nil => simp [resV]
    | cons y ys =>
      cases ys with
      | nil => simp [resV]
      | cons z zs => simp [resV]
  refine calls_of_wp hf hb (code_sound hm c A _ _ hx _ _ _ _ w hr0 h fun ex e a w hr hk => ?_)
  cases ex with
  | nrm => exact hfin e a w hr hk.1 hk.2
  | exit j => exact hk.elim
  | ret => exact hfin e a w hr hk.1 hk.2
end Go.Proofs.YtnbnofmnbopknaaDoor
