/-
  Small code: regions. What is asked of a region's operations one by one is enough in the model, whatever order a region draws.
  Conditions: none (laws over any program).
-/
import Derived.Test.YtnbnofmnbopknaaDoorVe
import Derived.Deep.RegionHeld3
set_option linter.unusedSimpArgs false
set_option linter.unusedVariables false
set_option linter.defProp false
namespace Go.Proofs.YtnbnofmnbopknaaDoor
open Go Go.RowKit

inductive XS where
  | q (d : Nat) (g : List (Nat × Bool)) (o : XO)
  | p (d : Nat) (g : List (Nat × Bool)) (o : XO)
  | e (d : Option Nat) (g : List (Nat × Bool)) (o : XE)

/-- Operations one behind the other; alt: either order may come. -/
inductive XT where
  | nil
  | c (x : XS) (r : XT)
  | alt (a b : XT)

/-- The guard says yes. -/
def gW (e : Env) : List (Nat × Bool) → Prop
  | [] => True
  | (s, b) :: r => lk e s = .bool b ∧ gW e r
def setO (e : Env) (d : Option Nat) (v : Value) : Env :=
  match d with
  | some d => e.set d v
  | none => e

def vops (P : Program) (K : Env → World → Prop) : XT → Env → World → Prop
  | .nil, e, w => K e w
  | .c (.q d g o) r, e, w => (gW e g → qd e w o) ∧ vops P K r (e.set d (qv e w o)) w
  | .c (.p d g o) r, e, w => (gW e g → qd e w o) ∧ vops P K r (e.set d (qv e w o)) w
  | .c (.e d g o) r, e, w => (gW e g → vE P e w (fun v w' => vops P K r (setO e d v) w') o) ∧ (¬ gW e g → vops P K r (setO e d (.bool false)) w)
  | .alt a b, e, w => vops P K a e w ∧ vops P K b e w

/-- The same in a region that draws: what reads, reads the world at its start. -/
def vopd (P : Program) (w0 : World) (K : Env → World → Prop) : XT → Env → World → Prop
  | .nil, e, w => K e w
  | .c (.q d g o) r, e, w => (gW e g → qd e w0 o) ∧ vopd P w0 K r (e.set d (qv e w0 o)) w
  | .c (.p d g o) r, e, w => (gW e g → qd e w o) ∧ vopd P w0 K r (e.set d (qv e w o)) w
  | .c (.e d g o) r, e, w => (gW e g → vE P e w (fun v w' => (o.mut = false → Ext w0 w → Ext w0 w') ∧ vopd P w0 K r (setO e d v) w') o) ∧ (¬ gW e g → vopd P w0 K r (setO e d (.bool false)) w)
  | .alt a b, e, w => vopd P w0 K a e w ∧ vopd P w0 K b e w
def altOf : List XT → XT
  | [] => .nil
  | [x] => x
  | x :: y :: l => .alt x (altOf (y :: l))
theorem vopd_alt {P : Program} {w0 : World} {K : Env → World → Prop} {e : Env} {w : World} : ∀ ts : List XT, vopd P w0 K (altOf ts) e w → ∀ t ∈ ts, vopd P w0 K t e w
  | [], _, t, ht => by cases ht
  | [x], h, t, ht => by rw [List.mem_singleton.1 ht]; exact h
  | x :: y :: l, h, t, ht => by
    rcases List.mem_cons.1 ht with rfl | ht
    · exact h.1
    · exact vopd_alt (y :: l) h.2 t ht

abbrev GT := List (Nat × List (Nat × Bool))
def look : GT → Nat → List (Nat × Bool)
  | [], _ => []
  | (k, g) :: r, t => if k = t then g else look r t
def keysNo (G : GT) (d : Nat) : Bool := G.all fun p => p.1 != d && p.2.all fun q => q.1 != d
def subG (a b : List (Nat × Bool)) : Bool := a.all fun x => b.contains x
def chain (ops : Array Oper) (G : GT) : Option (Nat × Bool) → Option (List (Nat × Bool))
  | none => some []
  | some (j, b) =>
    match (ops[j]?).bind (·.dst) with
    | some s => some ((s, b) :: look G s)
    | none => none
def okT (G : GT) (g : List (Nat × Bool)) (ts : List Nat) : Bool := ts.all fun t => subG (look G t) g
def okQ (G : GT) (g : List (Nat × Bool)) : XO → Bool
  | .pick (.t s) a b => okT G g [s] && okT G ((s, true) :: g) a.tmps && okT G ((s, false) :: g) b.tmps
  | .pick _ _ _ => false
  | x => okT G g x.tmps
def okD (n : Nat) (G : GT) (g : List (Nat × Bool)) (d : Nat) : Bool := decide (d < n) && keysNo G d && g.all fun q => q.1 != d
def addG (G : GT) (d : Nat) (g : List (Nat × Bool)) : GT := if g.isEmpty then G else (d, g) :: G

def convStep (P : Program) (mf : List Nat) (n : Nat) (ops : Array Oper) (G : GT) (o : Oper) : Option (XS × GT) :=
  match chain ops G o.guard with
  | none => none
  | some g =>
    match convQ P o.op with
    | some x =>
      match o.dst with
      | some d => if okQ G g x && okD n G g d then some (.q d g x, addG G d g) else none
      | none => none
    | none =>
      match convE P mf o.type o.op with
      | some x =>
        match o.dst with
        | some d => if okT G g x.tmps && okD n G g d then some (.e (some d) g x, addG G d g) else none
        | none => if okT G g x.tmps then some (.e none g x, G) else none
      | none => none

def convList (P : Program) (mf : List Nat) (n : Nat) (ops : Array Oper) : List Oper → GT → Option (XT × GT)
  | [], G => some (.nil, G)
  | o :: l, G =>
    match convStep P mf n ops G o with
    | some (x, G') => (convList P mf n ops l G').map fun r => (.c x r.1, r.2)
    | none => none

/-- The frame is as the environment says, where the guards say yes. -/
structure RelG (n : Nat) (G : GT) (e : Env) (a : Act) : Prop where
  def_ : a.defers = []
  size : n ≤ a.tmps.size
  yes : ∀ t, gW e (look G t) → a.tmps.getD t undef = lk e t
  no : ∀ t, ¬ gW e (look G t) → a.tmps.getD t undef = undef

theorem gW_mem {e : Env} {g : List (Nat × Bool)} : gW e g ↔ ∀ x ∈ g, lk e x.1 = .bool x.2 := by
  induction g with
  | nil => simp [gW]
  | cons x g ih => obtain ⟨s, b⟩ := x; simp [gW, ih]
theorem gW_sub {e : Env} {a b : List (Nat × Bool)} (h : subG a b = true) (hb : gW e b) : gW e a := by
  rw [gW_mem] at *
  intro x hx
  have := List.all_eq_true.1 h x hx
  exact hb x (by simpa using this)
theorem gW_set {e : Env} {g : List (Nat × Bool)} {d : Nat} {v : Value} (h : (g.all fun q => q.1 != d) = true) : gW (e.set d v) g ↔ gW e g := by
  rw [gW_mem, gW_mem]
  refine forall_congr' fun x => forall_congr' fun hx => ?_
  have := List.all_eq_true.1 h x hx
  have hne : d ≠ x.1 := by simp at this; omega
  rw [lk_set, if_neg hne]
theorem look_no {G : GT} {d t : Nat} (h : keysNo G d = true) : ((look G t).all fun q => q.1 != d) = true := by
  induction G with
  | nil => rfl
  | cons p G ih =>
    obtain ⟨k, g⟩ := p
    simp only [keysNo, List.all_cons, Bool.and_eq_true] at h
    simp only [look]
    split
    · exact h.1.2
    · exact ih h.2
theorem look_key {G : GT} {d : Nat} (h : keysNo G d = true) : look G d = [] := by
  induction G with
  | nil => rfl
  | cons p G ih =>
    obtain ⟨k, g⟩ := p
    simp only [keysNo, List.all_cons, Bool.and_eq_true] at h
    have hne : k ≠ d := by have := h.1.1; simpa using this
    simp only [look, if_neg hne]
    exact ih h.2

theorem RelG.wanted {n : Nat} {G : GT} {e : Env} {a : Act} {ops : Array Oper} {o : Oper} {g : List (Nat × Bool)} (hr : RelG n G e a) (hc : chain ops G o.guard = some g) :
    Region.wanted o (yielded ops a.tmps) = true ↔ gW e g := by
  unfold Region.wanted
  cases hg : o.guard with
  | none =>
    rw [hg] at hc
    simp only [chain, Option.some.injEq] at hc
    subst hc
    simp [gW]
  | some jb =>
    obtain ⟨j, b⟩ := jb
    rw [hg] at hc
    simp only [chain] at hc
    split at hc <;> simp only [Option.some.injEq, reduceCtorEq] at hc
    rename_i s hs
    subst hc
    simp only [yielded, hs, Option.bind_some, gW]
    have hget : ∀ u, a.tmps[s]? = some u → a.tmps.getD s undef = u := fun u hu => by simp [hu]
    constructor
    · intro h
      cases ht : a.tmps[s]? with
      | none => simp [ht] at h
      | some u =>
        rw [ht] at h
        cases u <;> simp at h
        subst h
        have h1 := hget _ ht
        have hw : gW e (look G s) := Classical.byContradiction fun hn => by
          have := hr.no s hn
          rw [h1] at this
          cases this
        exact ⟨by rw [← hr.yes s hw, h1], hw⟩
    · rintro ⟨h1, hw⟩
      have := hr.yes s hw
      rw [h1] at this
      cases ht : a.tmps[s]? with
      | none => simp [ht] at this; cases this
      | some u => simp [ht] at this; subst this; simp

theorem RelG.put {n : Nat} {G : GT} {e : Env} {a : Act} {d : Nat} {g : List (Nat × Bool)} {u v : Value} (hr : RelG n G e a) (hd : okD n G g d = true) (h1 : gW e g → u = v) (h2 : ¬ gW e g → u = undef) :
    RelG n (addG G d g) (e.set d v) (a.put (some d) u) := by
  simp only [okD, Bool.and_eq_true, decide_eq_true_eq] at hd
  obtain ⟨⟨hn, hk⟩, hg⟩ := hd
  have hsz := hr.size
  have hgd : ∀ t, (a.put (some d) u).tmps.getD t undef = if d = t then u else a.tmps.getD t undef := by
    intro t
    by_cases ht : d = t
    · subst ht; simp [Act.put, show d < a.tmps.size by omega]
    · simp [Act.put, ht, Array.getElem?_setIfInBounds_ne ht]
  have hlook : ∀ t, d ≠ t → look (addG G d g) t = look G t := by
    intro t ht
    unfold addG
    split
    · rfl
    · simp [look, ht]
  have hlookd : look (addG G d g) d = g := by
    unfold addG
    split
    · rename_i he
      rw [look_key hk]; simp at he; exact he.symm
    · simp [look]
  refine ⟨by simpa [Act.put] using hr.def_, by simpa [Act.put] using hsz, fun t ht => ?_, fun t ht => ?_⟩
  · rw [hgd, lk_set]
    by_cases hdt : d = t
    · subst hdt
      rw [hlookd, gW_set hg] at ht
      simp [h1 ht]
    · rw [hlook t hdt, gW_set (look_no hk)] at ht
      simp [hdt, hr.yes t ht]
  · rw [hgd]
    by_cases hdt : d = t
    · subst hdt
      rw [hlookd, gW_set hg] at ht
      simp [h2 ht]
    · rw [hlook t hdt, gW_set (look_no hk)] at ht
      simp [hdt, hr.no t ht]

theorem RelG.tmps {n : Nat} {G : GT} {e : Env} {a : Act} {g : List (Nat × Bool)} {ts : List Nat} (hr : RelG n G e a) (ho : okT G g ts = true) (hg : gW e g) : ∀ t ∈ ts, a.tmps.getD t undef = lk e t :=
  fun t ht => hr.yes t (gW_sub (List.all_eq_true.1 ho t ht) hg)

/-- A small operation that only reads, in a frame as the environment says. -/
theorem RelG.q_run {P : Program} {n : Nat} {G : GT} {e : Env} {a : Act} {g : List (Nat × Bool)} {o : Oper} {x : XO} {w : World} (hr : RelG n G e a) (hc : convQ P o.op = some x) (ho : okQ G g x = true) (hg : gW e g) (hd : qd e w x) :
    (execOp a.eval o).run P w = .ok (.value (qv e w x)) w := by
  by_cases hp : ∀ c a b, x ≠ .pick c a b
  · have ho' : okT G g x.tmps = true := by
      unfold okQ at ho
      split at ho
      · exact absurd rfl (hp _ _ _)
      · exact absurd rfl (hp _ _ _)
      · exact ho
    exact Go.Proofs.YtnbnofmnbopknaaDoor.q_run hc hp (hr.tmps ho' hg) hd
  · have : ∃ c a b, x = .pick c a b := Classical.byContradiction fun hn => hp fun c a b h => hn ⟨c, a, b, h⟩
    obtain ⟨c, y, z, rfl⟩ := this
    obtain ⟨dst, op, type, pos, after, guard⟩ := o
    cases op <;> simp only [convQ, Option.some.injEq, reduceCtorEq] at hc
    case pick co ao bo =>
      simp only [XO.pick.injEq] at hc
      obtain ⟨rfl, rfl, rfl⟩ := hc
      cases hco : cvO co <;> rw [hco] at ho <;> simp only [okQ, Bool.and_eq_true, reduceCtorEq] at ho
      rename_i s
      obtain ⟨⟨h1, h2⟩, h3⟩ := ho
      have hce : a.eval co = lk e s := by
        rw [ev_cvO (x := co) (e := e) (by rw [hco]; exact hr.tmps h1 hg), hco]; rfl
      simp only [qd, hco] at hd
      have hb : ∃ b, lk e s = .bool b := by
        cases hl : lk e s <;> simp only [ev, hl, asBD] at hd
        exact ⟨_, rfl⟩
      obtain ⟨b, hb⟩ := hb
      simp only [execOp, hce, hb, asBool, Sem.run_bind, Sem.run_pure, Result.andThen_ok, qv, ev, pickV, asB]
      cases b
      · rw [ev_cvO (x := bo) (e := e) (hr.tmps h3 ⟨hb, hg⟩)]; rfl
      · rw [ev_cvO (x := ao) (e := e) (hr.tmps h2 ⟨hb, hg⟩)]; rfl
    case call c =>
      exfalso
      unfold convCall at hc
      (repeat' (split at hc)) <;> simp_all
    all_goals
      exfalso
      (repeat' (split at hc)) <;> simp_all

theorem step_spec {P : Program} {mf : List Nat} {n : Nat} {ops : Array Oper} {G G' : GT} {o : Oper} {x : XS} (h : convStep P mf n ops G o = some (x, G')) :
    (∃ d g y, x = .q d g y ∧ chain ops G o.guard = some g ∧ convQ P o.op = some y ∧ o.dst = some d ∧ okQ G g y = true ∧ okD n G g d = true ∧ G' = addG G d g) ∨
    (∃ g y, x = .e o.dst g y ∧ chain ops G o.guard = some g ∧ convQ P o.op = none ∧ convE P mf o.type o.op = some y ∧ okT G g y.tmps = true ∧ ((∃ d, o.dst = some d ∧ okD n G g d = true ∧ G' = addG G d g) ∨ (o.dst = none ∧ G' = G))) := by
  unfold convStep at h
  split at h <;> try simp only [reduceCtorEq] at h
  rename_i g hg
  split at h
  · rename_i y hy
    split at h <;> try simp only [reduceCtorEq] at h
    rename_i d hd
    split at h <;> simp only [Option.some.injEq, Prod.mk.injEq, reduceCtorEq] at h
    rename_i hc
    simp only [Bool.and_eq_true] at hc
    obtain ⟨rfl, rfl⟩ := h
    exact Or.inl ⟨d, g, y, rfl, hg, hy, hd, hc.1, hc.2, rfl⟩
  · rename_i hq
    split at h <;> try simp only [reduceCtorEq] at h
    rename_i y hy
    split at h
    · rename_i d hd
      split at h <;> simp only [Option.some.injEq, Prod.mk.injEq, reduceCtorEq] at h
      rename_i hc
      simp only [Bool.and_eq_true] at hc
      obtain ⟨rfl, rfl⟩ := h
      exact Or.inr ⟨g, y, by rw [hd], hg, hq, hy, hc.1, Or.inl ⟨d, hd, hc.2, rfl⟩⟩
    · rename_i hd
      split at h <;> simp only [Option.some.injEq, Prod.mk.injEq, reduceCtorEq] at h
      rename_i hc
      obtain ⟨rfl, rfl⟩ := h
      exact Or.inr ⟨g, y, by rw [hd], hg, hq, hy, hc, Or.inr ⟨hd, rfl⟩⟩

/-- One step of a region in the order of the text. -/
theorem seq_step {P : Program} {mf : List Nat} {n : Nat} {ops : Array Oper} {G G' : GT} {o : Oper} {x : XS} {e : Env} {a : Act} {w : World} {r : XT} {K : Env → World → Prop} {Q : Exit → Act → World → Prop} {next : Act → World → Prop}
    (h : convStep P mf n ops G o = some (x, G')) (hr : RelG n G e a) (hv : vops P K (.c x r) e w) (hn : ∀ e a w, RelG n G' e a → vops P K r e w → next a w) :
    if Region.wanted o (yielded ops a.tmps) then o.wp P a w next Q ∨ (o.asks P a w ∧ LetsOut Q) else next (a.put o.dst undef) w := by
  rcases step_spec h with ⟨d, g, y, rfl, hg, hy, hd, hoq, hod, rfl⟩ | ⟨g, y, rfl, hg, hq, hy, hot, hdst⟩
  · simp only [vops] at hv
    have hw := hr.wanted (o := o) hg
    split
    · rename_i hwt
      have hgw := hw.1 hwt
      left
      unfold Oper.wp
      rw [hr.q_run hy hoq hgw (hv.1 hgw)]
      show next (a.put o.dst _) w
      rw [hd]
      exact hn _ _ _ (hr.put hod (fun _ => rfl) (fun hn => absurd hgw hn)) hv.2
    · rename_i hwt
      have hgw : ¬ gW e g := fun hg => hwt (hw.2 hg)
      rw [hd]
      exact hn _ _ _ (hr.put hod (fun hg => absurd hg hgw) (fun _ => rfl)) hv.2
  · simp only [vops] at hv
    have hw := hr.wanted (o := o) hg
    rcases hdst with ⟨d, hd, hod, rfl⟩ | ⟨hd, rfl⟩
    · split
      · rename_i hwt
        have hgw := hw.1 hwt
        left
        rw [hd] at hv
        exact e_run hy (hr.tmps hot hgw) (hv.1 hgw) fun v w' hk => by rw [hd]; exact hn _ _ _ (hr.put hod (fun _ => rfl) (fun hn => absurd hgw hn)) hk
      · rename_i hwt
        have hgw : ¬ gW e g := fun hg => hwt (hw.2 hg)
        rw [hd] at hv ⊢
        exact hn _ _ _ (hr.put hod (fun hg => absurd hg hgw) (fun _ => rfl)) (hv.2 hgw)
    · split
      · rename_i hwt
        have hgw := hw.1 hwt
        left
        rw [hd] at hv
        exact e_run hy (hr.tmps hot hgw) (hv.1 hgw) fun v w' hk => by rw [hd]; exact hn _ _ _ hr hk
      · rename_i hwt
        have hgw : ¬ gW e g := fun hg => hwt (hw.2 hg)
        rw [hd] at hv ⊢
        exact hn _ _ _ hr (hv.2 hgw)

theorem seq_sound {P : Program} {mf : List Nat} {n : Nat} {ops : Array Oper} {K : Env → World → Prop} {Q : Exit → Act → World → Prop} : ∀ (l : List Oper) (i : Nat) (G G' : GT) (xs : XT) (e : Env) (a : Act) (w : World), ops.toList.drop i = l →
    convList P mf n ops l G = some (xs, G') → RelG n G e a → vops P K xs e w → (∀ e a w, RelG n G' e a → K e w → Q .normal a w) → wpOps P ops Q (List.range' i l.length) a w
  | [], i, G, G', xs, e, a, w, _, hc, hr, hv, hK => by
    simp only [convList, Option.some.injEq, Prod.mk.injEq] at hc
    obtain ⟨rfl, rfl⟩ := hc
    exact hK e a w hr hv
  | o :: l, i, G, G', xs, e, a, w, hd, hc, hr, hv, hK => by
    simp only [convList] at hc
    split at hc <;> simp only [Option.map_eq_some_iff, reduceCtorEq] at hc
    rename_i x G1 hx
    obtain ⟨⟨r, G2⟩, hc, he⟩ := hc
    simp only [Prod.mk.injEq] at he
    obtain ⟨rfl, rfl⟩ := he
    have hi : ops[i]? = some o := by
      have := congrArg (fun l => l[0]?) hd
      simpa using this
    have hd' : ops.toList.drop (i + 1) = l := by
      have := congrArg List.tail hd
      simpa using this
    simp only [List.length_cons, List.range'_succ, wpOps, hi]
    exact seq_step hx hr hv fun e a w hr hv => seq_sound l (i + 1) G1 G2 r e a w hd' hc hr hv hK

/-! ### a region that draws its order -/
def preds (ops : Array Oper) (x : Nat) : List Nat :=
  match ops[x]? with
  | some o => (o.after.toList.filter (Region.binds .any)).map (·.on)
  | none => []
def bfs (ops : Array Oper) : Nat → List Nat → List Nat → List Nat
  | 0, _, seen => seen
  | _ + 1, [], seen => seen
  | f + 1, x :: fr, seen => if seen.contains x then bfs ops f fr seen else bfs ops f (preds ops x ++ fr) (x :: seen)
def isAnc (ops : Array Oper) (i m : Nat) : Bool := (bfs ops 600 (preds ops m) []).contains i
theorem preds_anc {ops : Array Oper} {x i m : Nat} (h : i ∈ preds ops x) (hx : x = m ∨ Anc .any ops x m) : Anc .any ops i m := by
  unfold preds at h
  split at h <;> simp only [List.mem_map, List.mem_filter, List.not_mem_nil] at h
  rename_i o ho
  obtain ⟨ed, ⟨hmem, hb⟩, rfl⟩ := h
  have h1 : Anc .any ops ed.on x := .one ho (by simpa using hmem) hb rfl
  rcases hx with rfl | hx
  · exact h1
  · induction hx with
    | one ho' he' hb' h' => exact .more ho' he' hb' (h' ▸ h1)
    | more ho' he' hb' _ ih => exact .more ho' he' hb' ih
theorem bfs_anc {ops : Array Oper} {m : Nat} : ∀ (f : Nat) (fr seen : List Nat), (∀ x ∈ fr, Anc .any ops x m) → (∀ x ∈ seen, Anc .any ops x m) → ∀ x ∈ bfs ops f fr seen, Anc .any ops x m
  | 0, _, _, _, hs => by simpa [bfs] using hs
  | f + 1, [], _, _, hs => by simpa [bfs] using hs
  | f + 1, x :: fr, seen, hf, hs => by
    simp only [bfs]
    split
    · exact bfs_anc f fr seen (fun y hy => hf y (by simp [hy])) hs
    · have hx := hf x (by simp)
      refine bfs_anc f _ _ (fun y hy => ?_) (fun y hy => ?_)
      · rcases List.mem_append.1 hy with hy | hy
        · exact preds_anc hy (Or.inr hx)
        · exact hf y (by simp [hy])
      · rcases List.mem_cons.1 hy with rfl | hy
        · exact hx
        · exact hs y hy
theorem isAnc_anc {ops : Array Oper} {i m : Nat} (h : isAnc ops i m = true) : Anc .any ops i m :=
  bfs_anc 600 _ [] (fun _ hx => preds_anc hx (Or.inl rfl)) (by simp) i (by simpa [isAnc] using h)

def mutAt (P : Program) (mf : List Nat) (ops : Array Oper) (j : Nat) : Bool :=
  match ops[j]? with
  | some o =>
    match convQ P o.op with
    | some _ => false
    | none =>
      match convE P mf o.type o.op with
      | some x => x.mut
      | none => true
  | none => false
def muts (P : Program) (mf : List Nat) (ops : Array Oper) : List Nat := (List.range ops.size).filter (mutAt P mf ops)

/-- May number i be taken first? -/
def takeable (P : Program) (ops : Array Oper) (ms : List Nat) (L : Array Bool) (i : Nat) : Bool :=
  match ops[i]? with
  | some o =>
    match convQ P o.op with
    | some x => Region.free .any ops L i && (!x.reads || ms.all fun m => isAnc ops i m)
    | none => false
  | none => false

def convAlts (g : Nat → Option XT) : List Nat → Option (List XT)
  | [] => some []
  | i :: l =>
    match g i with
    | some t => (convAlts g l).map fun ts => t :: ts
    | none => none
theorem convAlts_mem {g : Nat → Option XT} : ∀ (l : List Nat) (ts : List XT), convAlts g l = some ts → ∀ i ∈ l, ∃ t ∈ ts, g i = some t
  | [], _, _, i, hi => by cases hi
  | j :: l, ts, h, i, hi => by
    simp only [convAlts] at h
    split at h <;> simp only [Option.map_eq_some_iff, reduceCtorEq] at h
    rename_i t ht
    obtain ⟨us, hu, rfl⟩ := h
    rcases List.mem_cons.1 hi with rfl | hi
    · exact ⟨t, List.mem_cons_self, ht⟩
    · obtain ⟨t', h1, h2⟩ := convAlts_mem l us hu i hi
      exact ⟨t', List.mem_cons_of_mem _ h1, h2⟩
def freeAll (G : GT) (ps : List Nat) : Bool := ps.all fun s => (look G s).isEmpty
/-- A reading where it stands. -/
def nowX : XS → XS
  | .q d g o => .p d g o
  | x => x
def convDraw (P : Program) (mf : List Nat) (n : Nat) (ops : Array Oper) (ms ps : List Nat) : Nat → Array Bool → GT → Option XT
  | 0, L, G => if (Region.ready .any ops L).isEmpty && freeAll G ps then some .nil else none
  | f + 1, L, G =>
    match (Region.ready .any ops L).find? (takeable P ops ms L) with
    | some i =>
      match ops[i]? with
      | some o =>
        match convStep P mf n ops G o with
        | some (x, G') => (convDraw P mf n ops ms ps f (L.setIfInBounds i true) G').map fun r => .c x r
        | none => none
      | none => none
    | none =>
      match Region.ready .any ops L with
      | [] => if freeAll G ps then some .nil else none
      | i0 :: rs => (convAlts (fun i =>
        match ops[i]? with
        | some o =>
          match convStep P mf n ops G o with
          | some (x, G') => (convDraw P mf n ops ms ps f (L.setIfInBounds i true) G').map fun r => .c (nowX x) r
          | none => none
        | none => none) (i0 :: rs)).map altOf

theorem qd_ext {e : Env} {w0 w : World} {x : XO} (h : Ext w0 w ∨ x.reads = false) (hd : qd e w0 x) : qd e w x ∧ qv e w x = qv e w0 x := by
  cases x <;> first | exact ⟨hd, rfl⟩ | skip
  case ld x =>
    rcases h with h | h
    · simp only [qd, qv] at hd ⊢
      cases hv : ev e x <;> rw [hv] at hd <;> simp only [ldD] at hd
      rename_i p
      cases p <;> simp only [] at hd
      rename_i ad
      cases hc : w0.cell? ad with
      | none => exact absurd hc hd
      | some v =>
        have := h.cell hc
        simp [ldD, ldV, this, hc]
    · cases h
  case mlk co K z x i =>
    rcases h with h | h
    · simp only [qd, qv] at hd ⊢
      have key : mapAt w (ev e x) = mapAt w0 (ev e x) := by
        unfold mlkD at hd
        cases hv : ev e x <;> rw [hv] at hd <;> try (simp [mapAt] at hd; done)
        rename_i p
        cases p with
        | none => rfl
        | some r =>
          simp only [mapAt] at hd ⊢
          cases hb : w0.heap[r]? with
          | none => rw [hb] at hd; simp at hd
          | some o =>
            have hlt := (Array.getElem?_eq_some_iff.1 hb).1
            rw [h.block hlt, hb]
      exact ⟨by unfold mlkD at hd ⊢; rw [key]; exact hd, by unfold mlkV; rw [key]⟩
    · cases h
  case lda n x =>
    rcases h with h | h
    · simp only [qd, qv] at hd ⊢
      cases hv : ev e x <;> rw [hv] at hd <;> simp only [ldaD] at hd
      rename_i p
      cases p <;> simp only [] at hd
      rename_i ad
      have key : ∀ i, i < n → w.cell? (ad.add i) = w0.cell? (ad.add i) := fun i hi => by
        cases hc : w0.cell? (ad.add i) with
        | none => exact absurd hc (hd i hi)
        | some v => exact h.cell hc
      refine ⟨fun i hi => by rw [key i hi]; exact hd i hi, ?_⟩
      simp only [ldaV]
      congr 2
      exact List.map_congr_left fun i hi => by rw [key i (by simpa using hi)]
    · cases h

theorem draw_sound {P : Program} {mf : List Nat} {n : Nat} {ops : Array Oper} {ms ps : List Nat} {K : Env → World → Prop} {Q : Exit → Act → World → Prop} {w0 : World} (hms : ms = muts P mf ops) (hsel : Region.noSelect ops = true)
    (hQ : ∀ c a w, ¬ Q (.panic c) a w) : ∀ (f : Nat) (L : Array Bool) (G : GT) (xs : XT) (e : Env) (a : Act) (w : World),
    convDraw P mf n ops ms ps f L G = some xs → Closed .any ops L → RelG n G e a → vopd P w0 K xs e w → ((∃ m ∈ ms, L.getD m false = true) ∨ Ext w0 w) → (∀ G' e a w, freeAll G' ps = true → RelG n G' e a → K e w → Q .normal a w) →
    wpL P .any ops Q (fun L w => (∃ m ∈ ms, L.getD m false = true) ∨ Ext w0 w) f L a w
  | 0, L, G, xs, e, a, w, hc, _, hr, hv, _, hK => by
    simp only [convDraw] at hc
    split at hc <;> simp only [Option.some.injEq, reduceCtorEq] at hc
    subst hc
    rename_i hemp
    simp only [Bool.and_eq_true] at hemp
    exact ⟨by simpa using hemp.1, hK G e a w hemp.2 hr hv⟩
  | f + 1, L, G, xs, e, a, w, hc, hcl, hr, hv, hS, hK => by
    have memMs : ∀ m, m ∈ ms → mutAt P mf ops m = true := fun m hm => by
      rw [hms] at hm
      exact (List.mem_filter.1 hm).2
    simp only [convDraw] at hc
    split at hc
    · rename_i i hfind
      have hmem := List.mem_of_find?_eq_some hfind
      have htk := List.find?_some hfind
      have hsz := ready_size hmem
      split at hc <;> try simp only [reduceCtorEq] at hc
      rename_i o ho
      split at hc <;> simp only [Option.map_eq_some_iff, reduceCtorEq] at hc
      rename_i x G1 hx
      obtain ⟨r, hc, rfl⟩ := hc
      simp only [takeable, ho] at htk
      rcases step_spec hx with ⟨d, g, y, rfl, hg, hy, hd, hoq, hod, rfl⟩ | ⟨g, y, rfl, hg, hq, hy, hot, hdst⟩
      · rw [hy] at htk
        simp only [Bool.and_eq_true, Bool.or_eq_true, Bool.not_eq_true', List.all_eq_true] at htk
        obtain ⟨hfree, hread⟩ := htk
        simp only [vopd] at hv
        have hw := hr.wanted (o := o) hg
        have him : i ∉ ms := fun h => by
          have := memMs i h
          simp [mutAt, ho, hy] at this
        have hSL : ∀ (L : Array Bool) (w : World), ((∃ m ∈ ms, (L.setIfInBounds i true).getD m false = true) ∨ Ext w0 w) ↔ ((∃ m ∈ ms, L.getD m false = true) ∨ Ext w0 w) := fun L w => by
          refine or_congr (exists_congr fun m => and_congr_right fun hm => ?_) Iff.rfl
          have hne : i ≠ m := fun h => him (h ▸ hm)
          rw [getD_set_ne false hne]
        have hnext : ∀ u, (gW e g → u = qv e w0 y) → (¬ gW e g → u = undef) → wpL P .any ops Q (fun L w => (∃ m ∈ ms, L.getD m false = true) ∨ Ext w0 w) f (L.setIfInBounds i true) (a.put o.dst u) w := fun u h1 h2 => by
          rw [hd]
          exact draw_sound hms hsel hQ f _ _ r _ _ w hc (hcl.step hmem) (hr.put hod h1 h2) hv.2 ((hSL L w).2 hS) hK
        have hy' : YieldsIf P ops (fun w => Ext w0 w ∨ y.reads = false) o (if Region.wanted o (yielded ops a.tmps) = true then qv e w0 y else undef) a := by
          by_cases hwt : Region.wanted o (yielded ops a.tmps) = true
          · left
            refine ⟨hwt, fun w hw' => ?_⟩
            have hgw := hw.1 hwt
            have hq := qd_ext hw' (hv.1 hgw)
            rw [if_pos hwt, hr.q_run hy hoq hgw hq.1, hq.2]
          · right
            exact ⟨by simpa using hwt, if_neg hwt⟩
        refine wpL_first ho (Region.noSelect_spec hsel) (fun c a w h => absurd h (hQ c _ w)) ?_ hSL f L a w hcl (Region.free_spec ho hfree) hmem hy' hS (hnext _ ?_ ?_)
        · intro L w hcl hLi hS
          rcases hread with hread | hread
          · exact Or.inr hread
          · rcases hS with ⟨m, hm, hLm⟩ | hS
            · have := (isAnc_anc (hread m hm)).listed hcl hLm
              rw [hLi] at this; cases this
            · exact Or.inl hS
        · intro hgw; rw [if_pos (hw.2 hgw)]
        · intro hgw; rw [if_neg (fun h => hgw (hw.1 h))]
      · rw [hq] at htk
        cases htk
    · split at hc
      · rename_i hrd
        split at hc <;> simp only [Option.some.injEq, reduceCtorEq] at hc
        rename_i hfr
        subst hc
        exact wpL_done hrd (hK G e a w hfr hr hv) _
      · rename_i i0 rs hrd
        simp only [Option.map_eq_some_iff] at hc
        obtain ⟨ts, hts, rfl⟩ := hc
        refine ⟨fun h0 => (by rw [hrd] at h0; cases h0), fun i hmem => ?_⟩
        have hsz := ready_size hmem
        obtain ⟨t, ht, hc⟩ := convAlts_mem _ ts hts i (by rw [← hrd]; exact hmem)
        have hv := vopd_alt ts hv t ht
        split at hc <;> try simp only [reduceCtorEq] at hc
        rename_i o ho
        split at hc <;> simp only [Option.map_eq_some_iff, reduceCtorEq] at hc
        rename_i x G1 hx
        obtain ⟨r, hc, rfl⟩ := hc
        rcases step_spec hx with ⟨d, g, y, rfl, hg, hy, hd, hoq, hod, rfl⟩ | ⟨g, y, rfl, hg, hqn, hy, hot, hdst⟩
        · simp only [nowX, vopd] at hv
          have hw := hr.wanted (o := o) hg
          have him : i ∉ ms := fun h => by
            have := memMs i h
            simp [mutAt, ho, hy] at this
          have hS' : (∃ m ∈ ms, (L.setIfInBounds i true).getD m false = true) ∨ Ext w0 w := by
            rcases hS with ⟨m, hm, hLm⟩ | hS
            · exact Or.inl ⟨m, hm, getD_set_true hLm⟩
            · exact Or.inr hS
          have go : ∀ u, (gW e g → u = qv e w y) → (¬ gW e g → u = undef) → wpL P .any ops Q (fun L w => (∃ m ∈ ms, L.getD m false = true) ∨ Ext w0 w) f (L.setIfInBounds i true) (a.put o.dst u) w := fun u h1 h2 => by
            rw [hd]
            exact draw_sound hms hsel hQ f _ _ r _ _ w hc (hcl.step hmem) (hr.put hod h1 h2) hv.2 hS' hK
          unfold wpOp
          simp only [ho]
          split
          · rename_i hwt
            have hgw := hw.1 hwt
            left
            unfold Oper.wp
            rw [hr.q_run hy hoq hgw (hv.1 hgw)]
            exact ⟨hS', go _ (fun _ => rfl) (fun hn => absurd hgw hn)⟩
          · rename_i hwt
            have hgw : ¬ gW e g := fun hg => hwt (hw.2 hg)
            exact ⟨hS', go _ (fun hg => absurd hg hgw) (fun _ => rfl)⟩
        · simp only [nowX, vopd] at hv
          have hw := hr.wanted (o := o) hg
          have hSn : ∀ w', (y.mut = false → Ext w0 w → Ext w0 w') → ((∃ m ∈ ms, (L.setIfInBounds i true).getD m false = true) ∨ Ext w0 w') := fun w' hE => by
            rcases hS with ⟨m, hm, hLm⟩ | hS
            · exact Or.inl ⟨m, hm, getD_set_true hLm⟩
            · cases hmu : y.mut with
              | false => exact Or.inr (hE hmu hS)
              | true =>
                refine Or.inl ⟨i, ?_, by simp [hsz]⟩
                rw [hms]
                refine List.mem_filter.2 ⟨List.mem_range.2 (Array.getElem?_eq_some_iff.1 ho).1, ?_⟩
                simp [mutAt, ho, hqn, hy, hmu]
          have hrel : ∀ u v, (gW e g → u = v) → (¬ gW e g → u = undef) → RelG n G1 (setO e o.dst v) (a.put o.dst u) := fun u v h1 h2 => by
            rcases hdst with ⟨d, hd, hod, rfl⟩ | ⟨hd, rfl⟩
            · rw [hd]; exact hr.put hod h1 h2
            · rw [hd]; exact hr
          unfold wpOp
          simp only [ho]
          split
          · rename_i hwt
            have hgw := hw.1 hwt
            left
            exact e_run hy (hr.tmps hot hgw) (hv.1 hgw) fun v w' hk => ⟨hSn w' hk.1, draw_sound hms hsel hQ f _ _ r _ _ w' hc (hcl.step hmem) (hrel v v (fun _ => rfl) (fun hn => absurd hgw hn)) hk.2 (hSn w' hk.1) hK⟩
          · rename_i hwt
            have hgw : ¬ gW e g := fun hg => hwt (hw.2 hg)
            have hS' : (∃ m ∈ ms, (L.setIfInBounds i true).getD m false = true) ∨ Ext w0 w := by
              rcases hS with ⟨m, hm, hLm⟩ | hS
              · exact Or.inl ⟨m, hm, getD_set_true hLm⟩
              · exact Or.inr hS
            exact ⟨hS', draw_sound hms hsel hQ f _ _ r _ _ w hc (hcl.step hmem) (hrel undef _ (fun hg => absurd hg hgw) (fun _ => rfl)) (hv.2 hgw) hS' hK⟩
end Go.Proofs.YtnbnofmnbopknaaDoor
