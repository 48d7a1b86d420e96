/-
  Small code in use: how the values read.
  Conditions: none.
-/
import Derived.Test.YtnbnofmnbopknaaDoorVk
set_option linter.unusedSimpArgs false
set_option linter.unusedVariables false
set_option linter.defProp false
namespace Go.Proofs.YtnbnofmnbopknaaDoor
open Go Go.RowKit

section
variable (k k' : IntKind) (a b : Int) (l l' : List UInt8) (x y : Bool)
theorem v_add : binV .add (.int k a) (.int k' b) = arV k (a + b) := rfl
theorem v_sub : binV .sub (.int k a) (.int k' b) = arV k (a - b) := rfl
theorem v_mul : binV .mul (.int k a) (.int k' b) = arV k (a * b) := rfl
theorem v_quo : binV .quo (.int k a) (.int k' b) = arV k (a.tdiv b) := rfl
theorem v_rem : binV .rem (.int k a) (.int k' b) = .int k (a.tmod b) := rfl
theorem v_and : binV .and (.int k a) (.int k' b) = .int k (bitV .and k a b) := rfl
theorem v_or : binV .or (.int k a) (.int k' b) = .int k (bitV .or k a b) := rfl
theorem v_xor : binV .xor (.int k a) (.int k' b) = .int k (bitV .xor k a b) := rfl
theorem v_shl : binV .shl (.int k a) (.int k' b) = .int k (k.wrap (a * 2 ^ (min b.toNat k.bits))) := rfl
theorem v_shr : binV .shr (.int k a) (.int k' b) = .int k (a.fdiv (2 ^ (min b.toNat k.bits))) := rfl
theorem v_eql : binV .eql (.int k a) (.int k' b) = .bool (decide (a = b)) := rfl
theorem v_neq : binV .neq (.int k a) (.int k' b) = .bool (decide (a ≠ b)) := rfl
theorem v_lss : binV .lss (.int k a) (.int k' b) = .bool (decide (a < b)) := rfl
theorem v_leq : binV .leq (.int k a) (.int k' b) = .bool (decide (a ≤ b)) := rfl
theorem v_gtr : binV .gtr (.int k a) (.int k' b) = .bool (decide (b < a)) := rfl
theorem v_geq : binV .geq (.int k a) (.int k' b) = .bool (decide (b ≤ a)) := rfl
theorem d_add : binD .add (.int k a) (.int k b) = inR k (a + b) := by simp [binD]
theorem d_sub : binD .sub (.int k a) (.int k b) = inR k (a - b) := by simp [binD]
theorem d_mul : binD .mul (.int k a) (.int k b) = inR k (a * b) := by simp [binD]
theorem d_quo : binD .quo (.int k a) (.int k b) = (b ≠ 0 ∧ inR k (a.tdiv b)) := by simp [binD]
theorem d_rem : binD .rem (.int k a) (.int k b) = (b ≠ 0) := by simp [binD]
theorem d_and : binD .and (.int k a) (.int k b) = True := by simp [binD]
theorem d_or : binD .or (.int k a) (.int k b) = True := by simp [binD]
theorem d_xor : binD .xor (.int k a) (.int k b) = True := by simp [binD]
theorem d_shl : binD .shl (.int k a) (.int k' b) = (0 ≤ b) := rfl
theorem d_shr : binD .shr (.int k a) (.int k' b) = (0 ≤ b) := rfl
theorem d_eql : binD .eql (.int k a) (.int k b) = True := by simp [binD]
theorem d_neq : binD .neq (.int k a) (.int k b) = True := by simp [binD]
theorem d_lss : binD .lss (.int k a) (.int k b) = True := by simp [binD]
theorem d_leq : binD .leq (.int k a) (.int k b) = True := by simp [binD]
theorem d_gtr : binD .gtr (.int k a) (.int k b) = True := by simp [binD]
theorem d_geq : binD .geq (.int k a) (.int k b) = True := by simp [binD]
theorem v_adds : binV .add (S l) (S l') = S (l ++ l') := rfl
theorem v_eqls : binV .eql (S l) (S l') = .bool (decide (l = l')) := rfl
theorem v_neqs : binV .neq (S l) (S l') = .bool (decide (l ≠ l')) := rfl
theorem v_lsss : binV .lss (S l) (S l') = .bool (Op.bytesLess l l') := rfl
theorem v_leqs : binV .leq (S l) (S l') = .bool (Op.bytesLess l l' || decide (l = l')) := rfl
theorem v_gtrs : binV .gtr (S l) (S l') = .bool (!(Op.bytesLess l l' || decide (l = l'))) := rfl
theorem v_geqs : binV .geq (S l) (S l') = .bool (!(Op.bytesLess l l')) := rfl
theorem d_adds : binD .add (S l) (S l') = (((l.length + l'.length : Nat) : Int) ≤ 9223372036854775807) := rfl
theorem d_eqls : binD .eql (S l) (S l') = True := rfl
theorem d_neqs : binD .neq (S l) (S l') = True := rfl
theorem d_lsss : binD .lss (S l) (S l') = True := rfl
theorem d_leqs : binD .leq (S l) (S l') = True := rfl
theorem d_gtrs : binD .gtr (S l) (S l') = True := rfl
theorem d_geqs : binD .geq (S l) (S l') = True := rfl
theorem ar_i64 : arV .i64 a = .int .i64 a := rfl
theorem ar_u8 : arV .u8 a = .int .u8 a := rfl
theorem ar_u64 : arV .u64 a = .int .u64 (a % 18446744073709551616) := rfl
theorem inR_u64 : inR .u64 a = True := rfl
theorem inR_byte (c : UInt8) : inR .i64 (c.toNat : Int) = True := by
  have := c.toNat_lt
  simp only [inR, eq_iff_iff, iff_true]; omega
theorem inR_i64 {a : Int} (h : -9223372036854775808 ≤ a ∧ a ≤ 9223372036854775807) : inR .i64 a := h
theorem inR_u8 {a : Int} (h : 0 ≤ a ∧ a ≤ 255) : inR .u8 a := h
theorem v_pickor : pickV (.bool x) (.bool true) (.bool y) = .bool (x || y) := by cases x <;> rfl
theorem v_pickand : pickV (.bool x) (.bool y) (.bool false) = .bool (x && y) := by cases x <;> rfl
theorem v_not : notV (.bool x) = .bool (!x) := rfl
theorem v_neg : negV (.int k a) = arV k (0 - a) := rfl
theorem d_neg : negD (.int k a) = inR k (0 - a) := rfl
theorem v_cvi : cviV k (.int k' a) = arV k a := rfl
theorem d_cvi : cviD k (.int k' a) = inR k a := rfl
theorem v_len : lenV (S l) = .int .i64 l.length := rfl
theorem d_len : lenD (S l) = True := rfl
theorem v_lens (ad : Option Addr) (n c : Nat) : lensV (.slice ad n c) = .int .i64 n := rfl
theorem v_caps (ad : Option Addr) (n c : Nat) : capsV (.slice ad n c) = .int .i64 c := rfl
theorem d_lens (ad : Option Addr) (n c : Nat) : lensD (.slice ad n c) = True := rfl
theorem v_idx : idxV (S l) (.int k a) = .int .u8 ((l.getD a.toNat 0).toNat : Nat) := rfl
theorem d_idx : idxD (S l) (.int k a) = (0 ≤ a ∧ a < l.length) := rfl
theorem v_sub0 : subV (S l) none none = S l := rfl
theorem v_sub1 : subV (S l) (some (.int k a)) none = S (l.drop a.toNat) := rfl
theorem v_sub2 : subV (S l) none (some (.int k a)) = S (l.take a.toNat) := rfl
theorem v_sub3 : subV (S l) (some (.int k a)) (some (.int k' b)) = S ((l.take b.toNat).drop a.toNat) := rfl
theorem d_sub0 : subD (S l) none none = True := rfl
theorem d_sub1 : subD (S l) (some (.int k a)) none = (0 ≤ a ∧ a ≤ l.length) := by simp [subD, S, isI, asI]
theorem d_sub2 : subD (S l) none (some (.int k a)) = (0 ≤ a ∧ a ≤ l.length) := by simp [subD, S, isI, asI]
theorem d_sub3 : subD (S l) (some (.int k a)) (some (.int k' b)) = (0 ≤ a ∧ a ≤ b ∧ b ≤ l.length) := by simp [subD, S, isI, asI]
theorem v_ssl0 (z : Nat) (ad : Option Addr) (n c : Nat) : sslV z (.slice ad n c) none none = .slice (cutA ad c 0 z) n c := rfl
theorem v_ssl1 (z : Nat) (ad : Option Addr) (n c : Nat) : sslV z (.slice ad n c) (some (.int k a)) none = .slice (cutA ad c a.toNat z) (n - a.toNat) (c - a.toNat) := rfl
theorem v_ssl2 (z : Nat) (ad : Option Addr) (n c : Nat) : sslV z (.slice ad n c) none (some (.int k a)) = .slice (cutA ad c 0 z) a.toNat c := rfl
theorem v_ssl3 (z : Nat) (ad : Option Addr) (n c : Nat) : sslV z (.slice ad n c) (some (.int k a)) (some (.int k' b)) = .slice (cutA ad c a.toNat z) (b.toNat - a.toNat) (c - a.toNat) := rfl
theorem d_ssl0 (ad : Option Addr) (n c : Nat) : sslD (.slice ad n c) none none = True := rfl
theorem d_ssl1 (ad : Option Addr) (n c : Nat) : sslD (.slice ad n c) (some (.int k a)) none = (0 ≤ a ∧ a ≤ n) := by simp [sslD, isI, asI]
theorem d_ssl2 (ad : Option Addr) (n c : Nat) : sslD (.slice ad n c) none (some (.int k a)) = (0 ≤ a ∧ a ≤ c) := by simp [sslD, isI, asI]
theorem d_ssl3 (ad : Option Addr) (n c : Nat) : sslD (.slice ad n c) (some (.int k a)) (some (.int k' b)) = (0 ≤ a ∧ a ≤ b ∧ b ≤ c) := by simp [sslD, isI, asI]
theorem v_fa (o b' f : Nat) : faV f (.pointer (some ⟨b', o, none⟩)) = .pointer (some ⟨b', o + f, none⟩) := by
  simp only [faV, Addr.add]; split <;> simp_all
theorem d_isP (ad : Addr) : isP (.pointer (some ad)) = True := rfl
theorem d_isN (ad : Addr) : isN (.pointer (some ad)) = True := rfl
theorem d_isNf (f : Nat) (x y : Array Value) : isN (.func (.func f) x y) = True := rfl
theorem v_e11 (u : Value) : extV 0 (.tuple ⟨[u]⟩) = u := rfl
theorem v_e31 (u v x : Value) : extV 0 (.tuple ⟨[u, v, x]⟩) = u := rfl
theorem v_e32 (u v x : Value) : extV 1 (.tuple ⟨[u, v, x]⟩) = v := rfl
theorem v_e33 (u v x : Value) : extV 2 (.tuple ⟨[u, v, x]⟩) = x := rfl
theorem d_e11 (u : Value) : extD 0 (.tuple ⟨[u]⟩) = True := by simp [extD]
theorem d_e31 (u v x : Value) : extD 0 (.tuple ⟨[u, v, x]⟩) = True := by simp [extD]
theorem d_e32 (u v x : Value) : extD 1 (.tuple ⟨[u, v, x]⟩) = True := by simp [extD]
theorem d_e33 (u v x : Value) : extD 2 (.tuple ⟨[u, v, x]⟩) = True := by simp [extD]
theorem v_ia (z o b' n c : Nat) : iaV z (.slice (some ⟨b', o, none⟩) n c) (.int k a) = .pointer (some ⟨b', o + a.toNat * z, none⟩) := by
  simp only [iaV, Addr.add]; split <;> simp_all
theorem d_ia (ad : Addr) (n c : Nat) : iaD (.slice (some ad) n c) (.int k a) = (0 ≤ a ∧ a < n) := rfl
theorem v_ext1 (u v : Value) : extV 0 (.tuple ⟨[u, v]⟩) = u := rfl
theorem v_ext2 (u v : Value) : extV 1 (.tuple ⟨[u, v]⟩) = v := rfl
theorem d_ext1 (u v : Value) : extD 0 (.tuple ⟨[u, v]⟩) = True := by simp [extD]
theorem d_ext2 (u v : Value) : extD 1 (.tuple ⟨[u, v]⟩) = True := by simp [extD]
theorem v_beqf : beqV false (.bool x) (.bool y) = .bool (decide (x = y)) := rfl
theorem v_beqt : beqV true (.bool x) (.bool y) = .bool (decide (x ≠ y)) := rfl
theorem d_beq : beqD (.bool x) (.bool y) = True := rfl
theorem v_snilf (ad : Option Addr) (n c n' c' : Nat) : snilV false (.slice ad n c) (.slice none n' c') = .bool ad.isNone := rfl
theorem v_snilt (ad : Option Addr) (n c n' c' : Nat) : snilV true (.slice ad n c) (.slice none n' c') = .bool ad.isSome := rfl
theorem d_snil (ad : Option Addr) (n c n' c' : Nat) : snilD (.slice ad n c) (.slice none n' c') = True := rfl
theorem v_mx : mxV (.int k a) (.int k' b) = .int k (if a < b then b else a) := rfl
theorem v_mn : mnV (.int k a) (.int k' b) = .int k (if b < a then b else a) := rfl
theorem v_mns : mnV (S l) (S l') = S (if Op.bytesLess l l' || decide (l = l') then l else l') := rfl
theorem d_mn : mnD (.int k a) (.int k b) = True := by simp [mnD]
theorem d_mns : mnD (S l) (S l') = True := rfl
theorem d_mx : mxD (.int k a) (.int k b) = True := by simp [mxD]
theorem asB_bool : asB (.bool x) = x := rfl
theorem asBD_bool : asBD (.bool x) = True := rfl
theorem bool_inj : (Value.bool x = Value.bool y) = (x = y) := by simp
theorem v_fld0 (off : Nat) (cs : List Value) : fldV off (.agg ⟨cs⟩) = cs.getD off undef := by simp [fldV]
theorem d_fld0 (off : Nat) (cs : List Value) : fldD off (.agg ⟨cs⟩) = (off < cs.length) := by simp [fldD]
theorem resD_nil (e : Env) (w : World) : resD e w [] = True := rfl
theorem drew_mlkV (w : World) (co : Bool) (K : TypeDesc) (z x k : Value) : mlkV w.drew co K z x k = mlkV w co K z x k := rfl
theorem drew_mlkD (w : World) (K : TypeDesc) (x k : Value) : mlkD w.drew K x k = mlkD w K x k := rfl
theorem v_pick_t (a b : Value) : pickV (.bool true) a b = a := rfl
theorem v_pick_f (a b : Value) : pickV (.bool false) a b = b := rfl
theorem oneC_int (k : IntKind) (n : Int) : oneC (.int k n) = True := eq_true rfl
theorem oneC_S (l : List UInt8) : oneC (S l) = True := eq_true rfl
theorem oneC_bool (b : Bool) : oneC (.bool b) = True := eq_true rfl
theorem oneC_slice (b : Option Addr) (n c : Nat) : oneC (.slice b n c) = True := eq_true rfl
theorem oneC_ptr (b : Option Addr) : oneC (.pointer b) = True := eq_true rfl
theorem oneC_map (b : Option Nat) : oneC (.map b) = True := eq_true rfl
theorem bldL_nil (cs : List Value) : bldL cs [] = cs := rfl
theorem bldL_one (cs : List Value) (o : Nat) (v : Value) (l : List (Nat × Nat × Value)) : bldL cs ((o, 0, v) :: l) = bldL (cs.set o v) l := rfl
theorem bldL_agg (cs : List Value) (o n : Nat) (v : Value) (l : List (Nat × Nat × Value)) : bldL cs ((o, n + 1, v) :: l) = bldL (spl cs o v.cells.toList) l := rfl
theorem bldP_nil : bldP [] = True := rfl
theorem bldP_one (o : Nat) (v : Value) (l : List (Nat × Nat × Value)) : bldP ((o, 0, v) :: l) = (oneC v ∧ bldP l) := rfl
theorem bldP_agg (o n : Nat) (v : Value) (l : List (Nat × Nat × Value)) : bldP ((o, n + 1, v) :: l) = (v.cells.size = n + 1 ∧ bldP l) := rfl
theorem resD_cons (e : Env) (w : World) (o : XO) (os : List XO) : resD e w (o :: os) = (qd e w o ∧ resD e w os) := rfl
theorem resV_one (e : Env) (w : World) (o : XO) : resV e w [o] = qv e w o := rfl
theorem resV_two (e : Env) (w : World) (o o' : XO) : resV e w [o, o'] = .tuple ⟨[qv e w o, qv e w o']⟩ := rfl
theorem resV_three (e : Env) (w : World) (o o' o'' : XO) : resV e w [o, o', o''] = .tuple ⟨[qv e w o, qv e w o', qv e w o'']⟩ := rfl
theorem resV_zero (e : Env) (w : World) : resV e w [] = .tuple ⟨[]⟩ := rfl
theorem setO_some (e : Env) (d : Nat) (v : Value) : setO e (some d) v = e.set d v := rfl
theorem setO_none (e : Env) (v : Value) : setO e none v = e := rfl
theorem ext_drew (a b : World) : Ext a b.drew = Ext a b := propext ⟨fun h => ⟨h.os, h.tape, h.output, h.size, fun _ hk => Ext.block h hk⟩, fun h => ⟨h.os, h.tape, h.output, h.size, fun _ hk => Ext.block h hk⟩⟩
theorem drew_ext (a b : World) : Ext a.drew b = Ext a b := propext ⟨fun h => ⟨h.os, h.tape, h.output, h.size, fun _ hk => Ext.block h hk⟩, fun h => ⟨h.os, h.tape, h.output, h.size, fun _ hk => Ext.block h hk⟩⟩
theorem drew_blk (w : World) (b : Nat) (cs : List Value) (T : TypeId) : Blk w.drew b cs T = Blk w b cs T := rfl
theorem drew_size (w : World) : w.drew.heap.size = w.heap.size := rfl
theorem drew_cell (w : World) (ad : Addr) : w.drew.cell? ad = w.cell? ad := rfl
theorem cells_int : (Value.int k a).cells.toList = [.int k a] := rfl
theorem cells_S : (S l).cells.toList = [S l] := rfl
theorem cells_bool : (Value.bool x).cells.toList = [.bool x] := rfl
theorem cells_slice (ad : Option Addr) (n c : Nat) : (Value.slice ad n c).cells.toList = [.slice ad n c] := rfl
theorem cells_agg (cs : List Value) : (Value.agg ⟨cs⟩).cells.toList = cs := rfl
end
/-! ### lists and options of plain types -/
section
variable {α β : Type}
theorem zmc (f : α → β) (a : α) (l : List α) : (a :: l).map f = f a :: l.map f := rfl
theorem zmn (f : α → β) : ([] : List α).map f = [] := rfl
theorem zos (f : α → β) (a : α) : (some a).map f = some (f a) := rfl
theorem zon (f : α → β) : (none : Option α).map f = none := rfl
theorem zca (a : α) (l m : List α) : (a :: l) ++ m = a :: (l ++ m) := rfl
theorem zna (l : List α) : [] ++ l = l := rfl
theorem zci (a b : α) (l m : List α) : (a :: l = b :: m) = (a = b ∧ l = m) := List.cons.injEq a l b m
theorem zln : ([] : List α).length = 0 := rfl
theorem zlc (a : α) (l : List α) : (a :: l).length = l.length + 1 := rfl
theorem zsz (a b : α) (l : List α) : (a :: l).set 0 b = b :: l := rfl
theorem zss (a b : α) (l : List α) (n : Nat) : (a :: l).set (n + 1) b = a :: l.set n b := rfl
end
theorem tn_add (a b : Nat) : ((a : Int) + (b : Int)).toNat = a + b := by omega
theorem tn_sub (a b : Nat) : ((a : Int) - (b : Int)).toNat = a - b := by omega
theorem tn_add1 (a : Nat) : ((a : Int) + 1).toNat = a + 1 := by omega
theorem tn_sub1 (a : Nat) : ((a : Int) - 1).toNat = a - 1 := by omega
theorem tmn (a b : Nat) : (a : Int).tmod (b : Int) = ((a % b : Nat) : Int) := rfl
theorem tdn (a b : Nat) : (a : Int).tdiv (b : Int) = ((a / b : Nat) : Int) := rfl
theorem tm2 (a : Nat) : (a : Int).tmod 2 = ((a % 2 : Nat) : Int) := rfl
theorem td2 (a : Nat) : (a : Int).tdiv 2 = ((a / 2 : Nat) : Int) := rfl
theorem tm10 (a : Nat) : (a : Int).tmod 10 = ((a % 10 : Nat) : Int) := rfl
theorem td10 (a : Nat) : (a : Int).tdiv 10 = ((a / 10 : Nat) : Int) := rfl
end Go.Proofs.YtnbnofmnbopknaaDoor
