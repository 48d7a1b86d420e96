/-
  Small code in use: what is left to do is kept as data (KT), so that a step of a proof looks at the next operation alone.
  Conditions: none (laws over any program).
-/
import Derived.Test.YtnbnofmnbopknaaDoorVc
set_option linter.unusedSimpArgs false
set_option linter.unusedVariables false
set_option linter.defProp false
namespace Go.Proofs.YtnbnofmnbopknaaDoor
open Go Go.RowKit

theorem aI {a b : Prop} (x : a) (y : b) : a ∧ b := ⟨x, y⟩
inductive KT where
  | done (res : List XO) (R : Value → World → Prop)
  | seq (b : X) (k : KT)
  | blk (id : Nat) (k : KT)
  | lp (I : Nat → List Value → World → Prop) (m : Nat) (chg keep : List Nat) (kv : List Value) (k : KT)

def kd (P : Program) : KT → Ex → Env → World → Prop
  | .done _ _, .exit _, _, _ => False
  | .done res R, .nrm, e, w | .done res R, .ret, e, w => resD e w res ∧ R (resV e w res) w
  | .seq b k, .nrm, e, w => vc P b (kd P k) e w
  | .seq _ k, .exit j, e, w => kd P k (.exit j) e w
  | .seq _ k, .ret, e, w => kd P k .ret e w
  | .blk _ k, .nrm, e, w => kd P k .nrm e w
  | .blk id k, .exit j, e, w => if j = id then kd P k .nrm e w else kd P k (.exit j) e w
  | .blk _ k, .ret, e, w => kd P k .ret e w
  | .lp I m chg keep kv _, .nrm, e, w => keep.map (lk e) = kv ∧ ∃ m', m' < m ∧ I m' (chg.map (lk e)) w
  | .lp _ _ _ _ _ k, .exit j, e, w => kd P k (.exit j) e w
  | .lp _ _ _ _ _ k, .ret, e, w => kd P k .ret e w

def apK (P : Program) (k : KT) (x : Ex) (e : Env) (w : World) : Prop := kd P k x e w
def vcK (P : Program) (x : X) (k : KT) (e : Env) (w : World) : Prop := vc P x (kd P k) e w
/-- A region's operations; m: the world at the start of a region that draws. -/
def ops (P : Program) (m : Option World) (ps : List Nat) (k : KT) (xs : XT) (e : Env) (w : World) : Prop :=
  match m with
  | none => vops P (fun e w => ∀ r, kd P k .nrm (pick ps e r) w) xs e w
  | some w0 => vopd P w0 (fun e w => ∀ r, kd P k .nrm (pick ps e r) w) xs e w
def rd (m : Option World) (w : World) : World := m.getD w
def eff (P : Program) (m : Option World) (ps : List Nat) (k : KT) (r : XT) (d : Option Nat) (e : Env) (w : World) (o : XE) : Prop :=
  vE P e w (fun v w' => (∀ w0, m = some w0 → o.mut = false → Ext w0 w → Ext w0 w') ∧ ops P m ps k r (setO e d v) w') o
/-- A loop: ini, kv: what the slots that change and those that stay hold ahead of it. -/
def loopE (P : Program) (chg keep : List Nat) (c : X) (k : KT) (ini kv : List Value) (w : World) : Prop :=
  ∃ I : Nat → List Value → World → Prop, (∃ m, I m ini w) ∧ ∀ m vs r w', I m vs w' → vcK P c (.lp I m chg keep kv k) ⟨zipE chg vs ++ zipE keep kv, r⟩ w'

theorem vE_mono {P : Program} {e : Env} {w : World} {K K' : Value → World → Prop} {o : XE} (hk : ∀ v w', K v w' → K' v w') (h : vE P e w K o) : vE P e w K' o := by
  cases o with
  | call => exact CallsV.mono h hk
  | callv => obtain ⟨n, first, cap, h1, h2, h3⟩ := h; exact ⟨n, first, cap, h1, h2, CallsV.mono h3 hk⟩
  | st => obtain ⟨b, off, cur, T, h1, h2, h3, h4, h5, h6⟩ := h; exact ⟨b, off, cur, T, h1, h2, h3, h4, h5, fun w' a b => hk _ _ (h6 w' a b)⟩
  | al => exact hk _ _ h
  | box => exact hk _ _ h
  | bsl => exact ⟨h.1, hk _ _ h.2⟩
  | msl => exact fun hs => let ⟨v, w', hr, hK⟩ := h hs; ⟨v, w', hr, hk _ _ hK⟩
  | app => exact fun hs => let ⟨v, w', hr, hK⟩ := h hs; ⟨v, w', hr, hk _ _ hK⟩
  | s2b => obtain ⟨s, h1, v, w', hr, hK⟩ := h; exact ⟨s, h1, v, w', hr, hk _ _ hK⟩
  | b2s => obtain ⟨v, w', hr, hK⟩ := h; exact ⟨v, w', hr, hk _ _ hK⟩
  | mkmap => exact hk _ _ h
  | mup => obtain ⟨r, es, ck, h1, h2, h3, h4⟩ := h; exact ⟨r, es, ck, h1, h2, h3, fun w' a b => hk _ _ (h4 w' a b)⟩
  | apf => exact fun hs => let ⟨v, w', hr, hK⟩ := h hs; ⟨v, w', hr, hk _ _ hK⟩
  | apz => exact fun hs ht => let ⟨v, w', hr, hK⟩ := h hs ht; ⟨v, w', hr, hk _ _ hK⟩
  | rng => obtain ⟨l, h1, h2⟩ := h; exact ⟨l, h1, hk _ _ h2⟩
  | nxt =>
    obtain ⟨r, l, pos, h1, h2, h3⟩ := h
    exact ⟨r, l, pos, h1, h2, h3.imp (fun ⟨a, b, c⟩ => ⟨a, b, fun w' x y => hk _ _ (c w' x y)⟩) fun ⟨a, b⟩ => ⟨a, hk _ _ b⟩⟩

section
variable {P : Program} {k : KT} {e : Env} {w : World} {m : Option World} {ps : List Nat}

theorem k_skip : vcK P .skip k e w = apK P k .nrm e w := rfl
theorem k_reg (xs : XT) : vcK P (.reg ps xs) k e w = ops P none ps k xs e w := rfl
theorem k_drw (xs : XT) : vcK P (.drw ps xs) k e w = ops P (some w.drew) ps k xs e w.drew := rfl
theorem k_seq (a b : X) : vcK P (.seq a b) k e w = vcK P a (.seq b k) e w := by
  unfold vcK
  simp only [vc]
  congr 1
  funext x e w
  cases x <;> rfl
theorem k_cond (c : VO) (a b : X) : vcK P (.cond c a b) k e w = (asBD (ev e c) ∧ (asB (ev e c) = true → vcK P a k e w) ∧ (¬ asB (ev e c) = true → vcK P b k e w)) := by
  rw [Bool.not_eq_true]; rfl
theorem k_blk (id : Nat) (c : X) : vcK P (.blk id c) k e w = vcK P c (.blk id k) e w := by
  unfold vcK
  simp only [vc]
  congr 1
  funext x e w
  cases x <;> rfl
theorem k_loop (chg keep : List Nat) (c : X) : vcK P (.loop chg keep c) k e w = loopE P chg keep c k (chg.map (lk e)) (keep.map (lk e)) w := by
  unfold vcK loopE
  simp only [vc, vcK]
  refine congrArg Exists (funext fun I => congrArg (And _) (forall_congr fun m => forall_congr fun vs => forall_congr fun r => forall_congr fun w' => forall_congr fun hI => ?_))
  congr 1
  funext x e w
  cases x <;> rfl
theorem k_exit (j : Nat) : vcK P (.exit j) k e w = apK P k (.exit j) e w := rfl
theorem k_dead : vcK P .dead k e w = False := rfl
theorem k_ret : vcK P .ret k e w = apK P k .ret e w := rfl

theorem a_seq (b : X) : apK P (.seq b k) .nrm e w = vcK P b k e w := rfl
theorem a_seqx (b : X) (j : Nat) : apK P (.seq b k) (.exit j) e w = apK P k (.exit j) e w := rfl
theorem a_seqr (b : X) : apK P (.seq b k) .ret e w = apK P k .ret e w := rfl
theorem a_blk (id : Nat) : apK P (.blk id k) .nrm e w = apK P k .nrm e w := rfl
theorem a_blkx (id j : Nat) : apK P (.blk id k) (.exit j) e w = if j = id then apK P k .nrm e w else apK P k (.exit j) e w := rfl
theorem a_blkr (id : Nat) : apK P (.blk id k) .ret e w = apK P k .ret e w := rfl
theorem a_lp (I : Nat → List Value → World → Prop) (n : Nat) (chg keep : List Nat) (kv : List Value) : apK P (.lp I n chg keep kv k) .nrm e w = (keep.map (lk e) = kv ∧ ∃ m', m' < n ∧ I m' (chg.map (lk e)) w) := rfl
theorem a_lpx (I : Nat → List Value → World → Prop) (n : Nat) (chg keep : List Nat) (kv : List Value) (j : Nat) : apK P (.lp I n chg keep kv k) (.exit j) e w = apK P k (.exit j) e w := rfl
theorem a_lpr (I : Nat → List Value → World → Prop) (n : Nat) (chg keep : List Nat) (kv : List Value) : apK P (.lp I n chg keep kv k) .ret e w = apK P k .ret e w := rfl
theorem a_done (res : List XO) (R : Value → World → Prop) : apK P (.done res R) .ret e w = (resD e w res ∧ R (resV e w res) w) := rfl
theorem a_donen (res : List XO) (R : Value → World → Prop) : apK P (.done res R) .nrm e w = (resD e w res ∧ R (resV e w res) w) := rfl

theorem rd_none : rd none w = w := rfl
theorem rd_some (w0 : World) : rd (some w0) w = w0 := rfl
theorem o_nil : ops P m ps k .nil e w = ∀ r, apK P k .nrm (pick ps e r) w := by cases m <;> rfl
theorem o_alt (a b : XT) : ops P m ps k (.alt a b) e w = (ops P m ps k a e w ∧ ops P m ps k b e w) := by cases m <;> rfl
theorem o_q0 (d : Nat) (o : XO) (r : XT) : ops P m ps k (.c (.q d [] o) r) e w = (qd e (rd m w) o ∧ ops P m ps k r (e.set d (qv e (rd m w) o)) w) := by
  cases m <;> simp only [ops, vops, vopd, gW, forall_const, rd_none, rd_some]
theorem o_q1 (d : Nat) (s : Nat) (b : Bool) (g : List (Nat × Bool)) (o : XO) (r : XT) : ops P m ps k (.c (.q d ((s, b) :: g) o) r) e w = ((gW e ((s, b) :: g) → qd e (rd m w) o) ∧ ops P m ps k r (e.set d (qv e (rd m w) o)) w) := by
  cases m <;> rfl
theorem o_p0 (d : Nat) (o : XO) (r : XT) : ops P m ps k (.c (.p d [] o) r) e w = (qd e w o ∧ ops P m ps k r (e.set d (qv e w o)) w) := by
  cases m <;> simp only [ops, vops, vopd, gW, forall_const]
theorem o_p1 (d : Nat) (s : Nat) (b : Bool) (g : List (Nat × Bool)) (o : XO) (r : XT) : ops P m ps k (.c (.p d ((s, b) :: g) o) r) e w = ((gW e ((s, b) :: g) → qd e w o) ∧ ops P m ps k r (e.set d (qv e w o)) w) := by
  cases m <;> rfl
theorem o_e0 (d : Option Nat) (o : XE) (r : XT) : ops P m ps k (.c (.e d [] o) r) e w = eff P m ps k r d e w o := by
  refine propext ⟨fun h => ?_, fun h => ?_⟩
  · cases m with
    | none => exact vE_mono (fun v w' hk => ⟨fun _ h => (by cases h), hk⟩) (h.1 trivial)
    | some w0 => exact vE_mono (fun v w' hk => ⟨fun _ e hm => by cases e; exact hk.1 hm, hk.2⟩) (h.1 trivial)
  · cases m with
    | none => exact ⟨fun _ => vE_mono (fun v w' hk => hk.2) h, fun hn => absurd trivial hn⟩
    | some w0 => exact ⟨fun _ => vE_mono (fun v w' hk => ⟨fun hm => hk.1 _ rfl hm, hk.2⟩) h, fun hn => absurd trivial hn⟩
theorem o_e1 (d : Option Nat) (s : Nat) (b : Bool) (g : List (Nat × Bool)) (o : XE) (r : XT) : ops P m ps k (.c (.e d ((s, b) :: g) o) r) e w =
    ((gW e ((s, b) :: g) → eff P m ps k r d e w o) ∧ (¬ gW e ((s, b) :: g) → ops P m ps k r (setO e d (.bool false)) w)) := by
  refine propext ⟨fun h => ?_, fun h => ?_⟩
  · cases m with
    | none => exact ⟨fun hg => vE_mono (fun v w' hk => ⟨fun _ h => (by cases h), hk⟩) (h.1 hg), h.2⟩
    | some w0 => exact ⟨fun hg => vE_mono (fun v w' hk => ⟨fun _ e hm => by cases e; exact hk.1 hm, hk.2⟩) (h.1 hg), h.2⟩
  · cases m with
    | none => exact ⟨fun hg => vE_mono (fun v w' hk => hk.2) (h.1 hg), h.2⟩
    | some w0 => exact ⟨fun hg => vE_mono (fun v w' hk => ⟨fun hm => hk.1 _ rfl hm, hk.2⟩) (h.1 hg), h.2⟩

/-! ### locked: over every rest of the frame -/
abbrev EL := List (Nat × Value)
theorem fa_imp (p : Prop) (A : (Nat → Value) → Prop) : (∀ r : Nat → Value, p → A r) = (p → ∀ r, A r) := propext ⟨fun h hp r => h r hp, fun h r hp => h hp r⟩
theorem fa_and (A B : (Nat → Value) → Prop) : (∀ r : Nat → Value, A r ∧ B r) = ((∀ r, A r) ∧ ∀ r, B r) := propext forall_and
/-- A loop: what holds at each round's head, with a number that goes down. -/
theorem m_loop {chg keep : List Nat} {c : X} {ini kv : List Value} (I : Nat → List Value → World → Prop) (n : Nat) (h0 : I n ini w)
    (step : ∀ n vs w', I n vs w' → ∀ r, vcK P c (.lp I n chg keep kv k) ⟨zipE chg vs ++ zipE keep kv, r⟩ w') : loopE P chg keep c k ini kv w :=
  ⟨I, ⟨n, h0⟩, fun n vs r w' hI => step n vs w' hI r⟩

/-! ### the operations that change memory, one by one -/
def callK (P : Program) (m : Option World) (ps : List Nat) (k : KT) (r : XT) (d : Option Nat) (e : Env) (w : World) (mt : Bool) (f : Nat) (args : List Value) : Prop :=
  CallsV P f args w fun v w' => (∀ w0, m = some w0 → mt = false → Ext w0 w → Ext w0 w') ∧ ops P m ps k r (setO e d v) w'
def callL (P : Program) (m : Option World) (ps : List Nat) (k : KT) (r : XT) (d : Option Nat) (l : EL) (w : World) (mt : Bool) (f : Nat) (args : List Value) : Prop := ∀ s, callK P m ps k r d ⟨l, s⟩ w mt f args
theorem e_call (r : XT) (d : Option Nat) (mt : Bool) (f : Nat) (args : List VO) : eff P m ps k r d e w (.call mt f args) = callK P m ps k r d e w mt f (args.map (ev e)) := rfl
theorem fa_call (r : XT) (d : Option Nat) (l : EL) (mt : Bool) (f : Nat) (args : List Value) : (∀ s, callK P m ps k r d ⟨l, s⟩ w mt f args) = callL P m ps k r d l w mt f args := rfl
/-- A call by its contract, which leaves what was there as it was. -/
theorem m_call {r : XT} {d : Option Nat} {l : EL} {mt : Bool} {f : Nat} {args : List Value} {R : Value → World → Prop} (h : CallsV P f args w fun v w' => Ext w w' ∧ R v w')
    (hR : ∀ v w', Ext w w' → R v w' → ∀ s, ops P m ps k r (setO ⟨l, s⟩ d v) w') : callL P m ps k r d l w mt f args := fun s =>
  CallsV.mono h fun v w' ⟨he, hr⟩ => ⟨fun _ _ _ hx => hx.trans he, hR v w' he hr s⟩
/-- A call by its contract, whatever it leaves (in a region that does not draw, or marked as writing). -/
theorem m_callw {r : XT} {d : Option Nat} {l : EL} {mt : Bool} {f : Nat} {args : List Value} {R : Value → World → Prop} (hm : m = none ∨ mt = true) (h : CallsV P f args w R)
    (hR : ∀ v w', R v w' → ∀ s, ops P m ps k r (setO ⟨l, s⟩ d v) w') : callL P m ps k r d l w mt f args := fun s =>
  CallsV.mono h fun v w' hr => ⟨fun _ h1 h2 => (by rcases hm with rfl | rfl; cases h1; cases h2), hR v w' hr s⟩

def mupK (P : Program) (m : Option World) (ps : List Nat) (k : KT) (r : XT) (d : Option Nat) (e : Env) (w : World) (so : Bool) (K : TypeDesc) (x i v : Value) : Prop :=
  ∃ b es ck, x = .map (some b) ∧ w.heap[b]? = some (.map es ck) ∧ (lkE K i (entriesOf es)).isSome = true ∧ ∀ w', mapAt w' (.map (some b)) = some (putE K i v (entriesOf es)) → Upd w w' b → (∀ w0, m = some w0 → so = true → Ext w0 w → Ext w0 w') ∧ ops P m ps k r (setO e d undef) w'
def mupL (P : Program) (m : Option World) (ps : List Nat) (k : KT) (r : XT) (d : Option Nat) (l : EL) (w : World) (so : Bool) (K : TypeDesc) (x i v : Value) : Prop := ∀ s, mupK P m ps k r d ⟨l, s⟩ w so K x i v
theorem e_mup (r : XT) (d : Option Nat) (so : Bool) (K : TypeDesc) (x i v : VO) : eff P m ps k r d e w (.mup so K x i v) = mupK P m ps k r d e w so K (ev e x) (ev e i) (ev e v) := by
  simp only [eff, vE, mupK, XE.mut, Bool.not_eq_false']
theorem fa_mup (r : XT) (d : Option Nat) (l : EL) (so : Bool) (K : TypeDesc) (x i v : Value) : (∀ s, mupK P m ps k r d ⟨l, s⟩ w so K x i v) = mupL P m ps k r d l w so K x i v := rfl
/-- An entry put into a map. -/
theorem m_mup {r : XT} {d : Option Nat} {l : EL} {b : Nat} {K : TypeDesc} {i v : Value} {en : List (Value × Value)} (hm : mapAt w (.map (some b)) = some en) (hd : (lkE K i en).isSome = true)
    (h : ∀ w', mapAt w' (.map (some b)) = some (putE K i v en) → Upd w w' b → ∀ s, ops P m ps k r (setO ⟨l, s⟩ d undef) w') : mupL P m ps k r d l w false K (.map (some b)) i v := fun s => by
  cases hb : w.heap[b]? with
  | none => simp [mapAt, hb] at hm
  | some o =>
    cases o with
    | map es ck =>
      have he : entriesOf es = en := by simpa [mapAt, hb] using hm
      exact ⟨b, es, ck, rfl, hb, by rw [he]; exact hd, fun w' h1 h2 => ⟨fun _ _ h => (by cases h), h w' (by rw [← he]; exact h1) h2 s⟩⟩
    | _ => simp [mapAt, hb] at hm
/-- An entry put into a map that the region made itself. -/
theorem m_mups {r : XT} {d : Option Nat} {l : EL} {b : Nat} {K : TypeDesc} {i v : Value} {en : List (Value × Value)} (hm : mapAt w (.map (some b)) = some en) (hd : (lkE K i en).isSome = true) (hb : ∀ w0, m = some w0 → w0.heap.size ≤ b)
    (h : ∀ w', mapAt w' (.map (some b)) = some (putE K i v en) → Upd w w' b → ∀ s, ops P m ps k r (setO ⟨l, s⟩ d undef) w') : mupL P m ps k r d l w true K (.map (some b)) i v := fun s => by
  cases hw : w.heap[b]? with
  | none => simp [mapAt, hw] at hm
  | some o =>
    cases o with
    | map es ck =>
      have he : entriesOf es = en := by simpa [mapAt, hw] using hm
      exact ⟨b, es, ck, rfl, hw, by rw [he]; exact hd, fun w' h1 h2 => ⟨fun w0 e _ hx => h2.below hx (hb w0 e), h w' (by rw [← he]; exact h1) h2 s⟩⟩
    | _ => simp [mapAt, hw] at hm
def stK (P : Program) (m : Option World) (ps : List Nat) (k : KT) (r : XT) (d : Option Nat) (e : Env) (w : World) (n : Nat) (x v : Value) : Prop :=
  ∃ b off cur T, x = .pointer (some ⟨b, off, none⟩) ∧ Blk w b cur T ∧ v.cells.size = n ∧ off + n ≤ cur.length ∧ (∀ u ∈ v.cells.toList, u.oneCell' = true) ∧
      ∀ w', Blk w' b (spl cur off v.cells.toList) T → Upd w w' b → ops P m ps k r (setO e d undef) w'
def stL (P : Program) (m : Option World) (ps : List Nat) (k : KT) (r : XT) (d : Option Nat) (l : EL) (w : World) (n : Nat) (x v : Value) : Prop := ∀ s, stK P m ps k r d ⟨l, s⟩ w n x v
theorem e_st (r : XT) (d : Option Nat) (n : Nat) (x v : VO) : eff P m ps k r d e w (.st n x v) = stK P m ps k r d e w n (ev e x) (ev e v) := by
  simp only [eff, vE, stK, XE.mut, reduceCtorEq, false_implies, implies_true, true_and]
theorem fa_st (r : XT) (d : Option Nat) (l : EL) (n : Nat) (x v : Value) : (∀ s, stK P m ps k r d ⟨l, s⟩ w n x v) = stL P m ps k r d l w n x v := rfl
/-- A store into a block that is known whole. -/
theorem m_st {r : XT} {d : Option Nat} {l : EL} {n b off : Nat} {cur : List Value} {T : TypeId} {v : Value} (hb : Blk w b cur T) (hn : v.cells.size = n) (ho : off + n ≤ cur.length) (h1 : ∀ u ∈ v.cells.toList, u.oneCell' = true)
    (h : ∀ w', Blk w' b (spl cur off v.cells.toList) T → Upd w w' b → ∀ s, ops P m ps k r (setO ⟨l, s⟩ d undef) w') : stL P m ps k r d l w n (.pointer (some ⟨b, off, none⟩)) v := fun s =>
  ⟨b, off, cur, T, rfl, hb, hn, ho, h1, fun w' hb' hu => h w' hb' hu s⟩
def alK (P : Program) (m : Option World) (ps : List Nat) (k : KT) (r : XT) (d : Option Nat) (e : Env) (w : World) (T : TypeId) (cells : List Value) : Prop :=
  ops P m ps k r (setO e d (.pointer (some ⟨w.heap.size, 0, none⟩))) (w.alloc (.cells ⟨cells⟩ T))
def alL (P : Program) (m : Option World) (ps : List Nat) (k : KT) (r : XT) (d : Option Nat) (l : EL) (w : World) (T : TypeId) (cells : List Value) : Prop := ∀ s, alK P m ps k r d ⟨l, s⟩ w T cells
theorem e_al (r : XT) (d : Option Nat) (T : TypeId) (cells : List Value) : eff P m ps k r d e w (.al T cells) = alK P m ps k r d e w T cells := by
  exact propext ⟨fun h => h.2, fun h => ⟨fun _ _ _ hx => hx.trans (Ext.alloc _ _), h⟩⟩
theorem e_box (r : XT) (d : Option Nat) (T : TypeId) (x : VO) : eff P m ps k r d e w (.box T x) = alK P m ps k r d e w T (ev e x).cells.toList := by
  exact propext ⟨fun h => h.2, fun h => ⟨fun _ _ _ hx => hx.trans (Ext.alloc _ _), h⟩⟩
theorem fa_al (r : XT) (d : Option Nat) (l : EL) (T : TypeId) (cells : List Value) : (∀ s, alK P m ps k r d ⟨l, s⟩ w T cells) = alL P m ps k r d l w T cells := rfl
/-- A new block. -/
theorem m_al {r : XT} {d : Option Nat} {l : EL} {T : TypeId} {cells : List Value} (h : ∀ b w', b = w.heap.size → Blk w' b cells T → Ext w w' → w'.heap.size = b + 1 → ∀ s, ops P m ps k r (setO ⟨l, s⟩ d (.pointer (some ⟨b, 0, none⟩))) w') :
    alL P m ps k r d l w T cells := fun s => h _ _ rfl (Blk.new w cells T) (Ext.alloc w _) (by simp) s
def bslK (P : Program) (m : Option World) (ps : List Nat) (k : KT) (r : XT) (d : Option Nat) (e : Env) (w : World) (E z : Nat) (vs : List Value) : Prop :=
  (∀ p ∈ vs, p.cells.size = z) ∧ ops P m ps k r (setO e d (.slice (some ⟨w.heap.size, 0, none⟩) vs.length vs.length)) (w.alloc (.cells ⟨vs.flatMap fun p => p.cells.toList⟩ E))
def bslL (P : Program) (m : Option World) (ps : List Nat) (k : KT) (r : XT) (d : Option Nat) (l : EL) (w : World) (E z : Nat) (vs : List Value) : Prop := ∀ s, bslK P m ps k r d ⟨l, s⟩ w E z vs
theorem e_bsl (r : XT) (d : Option Nat) (E z : Nat) (parts : List VO) : eff P m ps k r d e w (.bsl E z parts) = bslK P m ps k r d e w E z (parts.map (ev e)) := by
  have e1 : (∀ w0, m = some w0 → (XE.bsl E z parts).mut = false → Ext w0 w → Ext w0 (w.alloc (.cells ⟨parts.flatMap fun p => (ev e p).cells.toList⟩ E))) = True := eq_true fun _ _ _ hx => hx.trans (Ext.alloc _ _)
  simp only [eff, vE, bslK, e1, true_and, List.mem_map, forall_exists_index, and_imp, forall_apply_eq_imp_iff₂, List.length_map, List.flatMap_map]
theorem fa_bsl (r : XT) (d : Option Nat) (l : EL) (E z : Nat) (vs : List Value) : (∀ s, bslK P m ps k r d ⟨l, s⟩ w E z vs) = bslL P m ps k r d l w E z vs := rfl
/-- A new slice of given elements. -/
theorem m_bsl {r : XT} {d : Option Nat} {l : EL} {E z : Nat} {vs : List Value} (hz : ∀ p ∈ vs, p.cells.size = z)
    (h : ∀ b w', b = w.heap.size → Blk w' b (vs.flatMap fun p => p.cells.toList) E → Ext w w' → w'.heap.size = b + 1 → ∀ s, ops P m ps k r (setO ⟨l, s⟩ d (.slice (some ⟨b, 0, none⟩) vs.length vs.length)) w') :
    bslL P m ps k r d l w E z vs := fun s => ⟨hz, h _ _ rfl (Blk.new w _ E) (Ext.alloc w _) (by simp) s⟩
def runK (P : Program) (m : Option World) (ps : List Nat) (k : KT) (r : XT) (d : Option Nat) (e : Env) (w : World) (mt : Bool) (s : Sem Value) : Prop :=
  ∃ v w', s.run P w = .ok v w' ∧ (∀ w0, m = some w0 → mt = false → Ext w0 w → Ext w0 w') ∧ ops P m ps k r (setO e d v) w'
def mslK (P : Program) (m : Option World) (ps : List Nat) (k : KT) (r : XT) (d : Option Nat) (e : Env) (w : World) (T E z bytes : Nat) (zero : List Value) (l c : Value) : Prop :=
  SlT P T E z bytes zero → runK P m ps k r d e w false (Instr.makeSlice T l c)
def mslL (P : Program) (m : Option World) (ps : List Nat) (k : KT) (r : XT) (d : Option Nat) (l : EL) (w : World) (T E z bytes : Nat) (zero : List Value) (n c : Value) : Prop := ∀ s, mslK P m ps k r d ⟨l, s⟩ w T E z bytes zero n c
theorem e_msl (r : XT) (d : Option Nat) (T E z bytes : Nat) (zero : List Value) (l c : VO) : eff P m ps k r d e w (.msl T E z bytes zero l c) = mslK P m ps k r d e w T E z bytes zero (ev e l) (ev e c) := rfl
theorem fa_msl (r : XT) (d : Option Nat) (l : EL) (T E z bytes : Nat) (zero : List Value) (n c : Value) : (∀ s, mslK P m ps k r d ⟨l, s⟩ w T E z bytes zero n c) = mslL P m ps k r d l w T E z bytes zero n c := rfl
def appK (P : Program) (m : Option World) (ps : List Nat) (k : KT) (r : XT) (d : Option Nat) (e : Env) (w : World) (T E z bytes : Nat) (zero : List Value) (ty : TypeId) (s x : Value) : Prop :=
  SlT P T E z bytes zero → runK P m ps k r d e w true (Builtin.append_ #[T, T] ty #[s, x])
def appL (P : Program) (m : Option World) (ps : List Nat) (k : KT) (r : XT) (d : Option Nat) (l : EL) (w : World) (T E z bytes : Nat) (zero : List Value) (ty : TypeId) (s x : Value) : Prop := ∀ q, appK P m ps k r d ⟨l, q⟩ w T E z bytes zero ty s x
theorem e_app (r : XT) (d : Option Nat) (T E z bytes : Nat) (zero : List Value) (ty : TypeId) (s x : VO) : eff P m ps k r d e w (.app T E z bytes zero ty s x) = appK P m ps k r d e w T E z bytes zero ty (ev e s) (ev e x) := rfl
theorem fa_app (r : XT) (d : Option Nat) (l : EL) (T E z bytes : Nat) (zero : List Value) (ty : TypeId) (s x : Value) : (∀ q, appK P m ps k r d ⟨l, q⟩ w T E z bytes zero ty s x) = appL P m ps k r d l w T E z bytes zero ty s x := rfl
def apfK (P : Program) (m : Option World) (ps : List Nat) (k : KT) (r : XT) (d : Option Nat) (e : Env) (w : World) (T E z bytes : Nat) (zero : List Value) (ty : TypeId) (s x : Value) : Prop :=
  SlT P T E z bytes zero → runK P m ps k r d e w false (Builtin.append_ #[T, T] ty #[s, x])
def apfL (P : Program) (m : Option World) (ps : List Nat) (k : KT) (r : XT) (d : Option Nat) (l : EL) (w : World) (T E z bytes : Nat) (zero : List Value) (ty : TypeId) (s x : Value) : Prop := ∀ q, apfK P m ps k r d ⟨l, q⟩ w T E z bytes zero ty s x
theorem e_apf (r : XT) (d : Option Nat) (T E z bytes : Nat) (zero : List Value) (ty : TypeId) (s x : VO) : eff P m ps k r d e w (.apf T E z bytes zero ty s x) = apfK P m ps k r d e w T E z bytes zero ty (ev e s) (ev e x) := rfl
theorem fa_apf (r : XT) (d : Option Nat) (l : EL) (T E z bytes : Nat) (zero : List Value) (ty : TypeId) (s x : Value) : (∀ q, apfK P m ps k r d ⟨l, q⟩ w T E z bytes zero ty s x) = apfL P m ps k r d l w T E z bytes zero ty s x := rfl
def apzK (P : Program) (m : Option World) (ps : List Nat) (k : KT) (r : XT) (d : Option Nat) (e : Env) (w : World) (T Ti E z bytes : Nat) (zero : List Value) (ty : TypeId) (s x : Value) : Prop :=
  SlT P T E z bytes zero → (∃ kn, P.underlying Ti = some (.int kn)) → runK P m ps k r d e w true (Builtin.append_ #[T, Ti] ty #[s, x])
def apzL (P : Program) (m : Option World) (ps : List Nat) (k : KT) (r : XT) (d : Option Nat) (l : EL) (w : World) (T Ti E z bytes : Nat) (zero : List Value) (ty : TypeId) (s x : Value) : Prop := ∀ q, apzK P m ps k r d ⟨l, q⟩ w T Ti E z bytes zero ty s x
theorem e_apz (r : XT) (d : Option Nat) (T Ti E z bytes : Nat) (zero : List Value) (ty : TypeId) (s x : VO) : eff P m ps k r d e w (.apz T Ti E z bytes zero ty s x) = apzK P m ps k r d e w T Ti E z bytes zero ty (ev e s) (ev e x) := rfl
theorem fa_apz (r : XT) (d : Option Nat) (l : EL) (T Ti E z bytes : Nat) (zero : List Value) (ty : TypeId) (s x : Value) : (∀ q, apzK P m ps k r d ⟨l, q⟩ w T Ti E z bytes zero ty s x) = apzL P m ps k r d l w T Ti E z bytes zero ty s x := rfl
def rngK (P : Program) (m : Option World) (ps : List Nat) (k : KT) (r : XT) (d : Option Nat) (e : Env) (w : World) (x : Value) : Prop :=
  ∃ l, x = S l ∧ ops P m ps k r (setO e d (.pointer (some ⟨w.heap.size, 0, none⟩))) (w.alloc (.stringIter ⟨⟨l⟩⟩ 0))
def rngL (P : Program) (m : Option World) (ps : List Nat) (k : KT) (r : XT) (d : Option Nat) (l : EL) (w : World) (x : Value) : Prop := ∀ s, rngK P m ps k r d ⟨l, s⟩ w x
theorem e_rng (r : XT) (d : Option Nat) (x : VO) : eff P m ps k r d e w (.rng x) = rngK P m ps k r d e w (ev e x) := by
  exact propext ⟨fun ⟨l, h1, h2⟩ => ⟨l, h1, h2.2⟩, fun ⟨l, h1, h2⟩ => ⟨l, h1, fun _ _ _ hx => hx.trans (Ext.alloc _ _), h2⟩⟩
theorem fa_rng (r : XT) (d : Option Nat) (l : EL) (x : Value) : (∀ s, rngK P m ps k r d ⟨l, s⟩ w x) = rngL P m ps k r d l w x := rfl
/-- A walk over a text begins. -/
theorem m_rng {r : XT} {d : Option Nat} {l : EL} {t : List UInt8} (h : ∀ b w', b = w.heap.size → Itr w' b t 0 → Ext w w' → w'.heap.size = b + 1 → ∀ s, ops P m ps k r (setO ⟨l, s⟩ d (.pointer (some ⟨b, 0, none⟩))) w') :
    rngL P m ps k r d l w (S t) := fun s => ⟨t, rfl, h _ _ rfl (heap_alloc_new w _) (Ext.alloc w _) (by simp) s⟩
def nxtK (P : Program) (m : Option World) (ps : List Nat) (k : KT) (r : XT) (d : Option Nat) (e : Env) (w : World) (x : Value) : Prop :=
  ∃ b l pos, x = .pointer (some ⟨b, 0, none⟩) ∧ Itr w b l pos ∧
      ((pos < l.length ∧ (l.getD pos 0).toNat < 128 ∧ ∀ w', Itr w' b l (pos + 1) → Upd w w' b → ops P m ps k r (setO e d (.tuple ⟨[.bool true, .int .i64 pos, .int .i32 (l.getD pos 0).toNat]⟩)) w') ∨ (l.length ≤ pos ∧ ops P m ps k r (setO e d (.tuple ⟨[.bool false]⟩)) w))
def nxtL (P : Program) (m : Option World) (ps : List Nat) (k : KT) (r : XT) (d : Option Nat) (l : EL) (w : World) (x : Value) : Prop := ∀ s, nxtK P m ps k r d ⟨l, s⟩ w x
theorem e_nxt (r : XT) (d : Option Nat) (x : VO) : eff P m ps k r d e w (.nxt x) = nxtK P m ps k r d e w (ev e x) := by
  simp only [eff, vE, nxtK, XE.mut, reduceCtorEq, false_implies, implies_true, true_and]
theorem fa_nxt (r : XT) (d : Option Nat) (l : EL) (x : Value) : (∀ s, nxtK P m ps k r d ⟨l, s⟩ w x) = nxtL P m ps k r d l w x := rfl
/-- A walk over a text goes on, or ends. -/
theorem m_nxt {r : XT} {d : Option Nat} {l : EL} {b pos : Nat} {t : List UInt8} (hb : Itr w b t pos) (h128 : ∀ c ∈ t, c.toNat < 128)
    (h1 : pos < t.length → ∀ w', Itr w' b t (pos + 1) → Upd w w' b → ∀ s, ops P m ps k r (setO ⟨l, s⟩ d (.tuple ⟨[.bool true, .int .i64 pos, .int .i32 (t.getD pos 0).toNat]⟩)) w')
    (h2 : t.length ≤ pos → ∀ s, ops P m ps k r (setO ⟨l, s⟩ d (.tuple ⟨[.bool false]⟩)) w) : nxtL P m ps k r d l w (.pointer (some ⟨b, 0, none⟩)) := fun s => by
  refine ⟨b, t, pos, rfl, hb, ?_⟩
  rcases Nat.lt_or_ge pos t.length with hl | hl
  · refine .inl ⟨hl, h128 _ ?_, fun w' a c => h1 hl w' a c s⟩
    rw [List.getD_eq_getElem?_getD, List.getElem?_eq_getElem hl]
    exact List.getElem_mem hl
  · exact .inr ⟨hl, h2 hl s⟩
def b2sK (P : Program) (m : Option World) (ps : List Nat) (k : KT) (r : XT) (d : Option Nat) (e : Env) (w : World) (x : Value) : Prop := runK P m ps k r d e w false (Conv.bytesToString x)
def b2sL (P : Program) (m : Option World) (ps : List Nat) (k : KT) (r : XT) (d : Option Nat) (l : EL) (w : World) (x : Value) : Prop := ∀ s, b2sK P m ps k r d ⟨l, s⟩ w x
theorem e_b2s (r : XT) (d : Option Nat) (x : VO) : eff P m ps k r d e w (.b2s x) = b2sK P m ps k r d e w (ev e x) := rfl
theorem fa_b2s (r : XT) (d : Option Nat) (l : EL) (x : Value) : (∀ s, b2sK P m ps k r d ⟨l, s⟩ w x) = b2sL P m ps k r d l w x := rfl
def s2bK (P : Program) (m : Option World) (ps : List Nat) (k : KT) (r : XT) (d : Option Nat) (e : Env) (w : World) (E : TypeId) (x : Value) : Prop := ∃ s, x = .string s ∧ runK P m ps k r d e w false (Conv.stringToBytes E s)
def s2bL (P : Program) (m : Option World) (ps : List Nat) (k : KT) (r : XT) (d : Option Nat) (l : EL) (w : World) (E : TypeId) (x : Value) : Prop := ∀ s, s2bK P m ps k r d ⟨l, s⟩ w E x
theorem e_s2b (r : XT) (d : Option Nat) (E : TypeId) (x : VO) : eff P m ps k r d e w (.s2b E x) = s2bK P m ps k r d e w E (ev e x) := rfl
theorem fa_s2b (r : XT) (d : Option Nat) (l : EL) (E : TypeId) (x : Value) : (∀ s, s2bK P m ps k r d ⟨l, s⟩ w E x) = s2bL P m ps k r d l w E x := rfl
def mkmapK (P : Program) (m : Option World) (ps : List Nat) (k : KT) (r : XT) (d : Option Nat) (e : Env) (w : World) : Prop :=
  ops P m ps k r (setO e d (.map (some w.heap.size))) (w.alloc (.map #[] 0))
def mkmapL (P : Program) (m : Option World) (ps : List Nat) (k : KT) (r : XT) (d : Option Nat) (l : EL) (w : World) : Prop := ∀ s, mkmapK P m ps k r d ⟨l, s⟩ w
theorem e_mkmap (r : XT) (d : Option Nat) : eff P m ps k r d e w .mkmap = mkmapK P m ps k r d e w := by
  exact propext ⟨fun h => h.2, fun h => ⟨fun _ _ _ hx => hx.trans (Ext.alloc _ _), h⟩⟩
theorem fa_mkmap (r : XT) (d : Option Nat) (l : EL) : (∀ s, mkmapK P m ps k r d ⟨l, s⟩ w) = mkmapL P m ps k r d l w := rfl
def callvK (P : Program) (m : Option World) (ps : List Nat) (k : KT) (r : XT) (d : Option Nat) (e : Env) (w : World) (f : Value) (args : List Value) : Prop :=
  ∃ n first cap, f = .func (.func n) ⟨first⟩ ⟨cap⟩ ∧ (∃ fn, P.funcs[n]? = some fn ∧ fn.body.isSome = true ∧ (fn.name == "runtime.NumGoroutine") = false) ∧ CallsV P n (first ++ args ++ cap) w fun v w' => ops P m ps k r (setO e d v) w'
def callvL (P : Program) (m : Option World) (ps : List Nat) (k : KT) (r : XT) (d : Option Nat) (l : EL) (w : World) (f : Value) (args : List Value) : Prop := ∀ s, callvK P m ps k r d ⟨l, s⟩ w f args
theorem e_callv (r : XT) (d : Option Nat) (f : VO) (args : List VO) : eff P m ps k r d e w (.callv f args) = callvK P m ps k r d e w (ev e f) (args.map (ev e)) := by
  simp only [eff, vE, callvK, XE.mut, reduceCtorEq, false_implies, implies_true, true_and]
theorem fa_callv (r : XT) (d : Option Nat) (l : EL) (f : Value) (args : List Value) : (∀ s, callvK P m ps k r d ⟨l, s⟩ w f args) = callvL P m ps k r d l w f args := rfl
end

/-- A function's call, by what is asked of its small code. -/
theorem callsV_of {P : Program} (hm : P.follows .mixedOrders = true) {f : Nat} {fn : Func} {mf : List Nat} {A : Anns} {x : X} {res : List XO} {args : List Value} {w : World} {R : Value → World → Prop}
    (hf : P.funcs[f]? = some fn) (hc : convF P mf fn A = some (x, res)) (h : ∀ r, vcK P x (.done res R) ⟨argE 0 args, r⟩ w) : CallsV P f args w R :=
  callsV_vc hm hf hc (cast (by
    unfold vcK
    congr 1
    funext x e w
    cases x <;> rfl) (h fun _ => undef))
attribute [irreducible] apzL apzK mupL mupK apfL apfK rngL rngK nxtL nxtK callL stL alL bslL mslL appL b2sL s2bL mkmapL callvL loopE callK stK alK bslK mslK appK b2sK s2bK mkmapK callvK runK eff ops vcK apK
end Go.Proofs.YtnbnofmnbopknaaDoor
