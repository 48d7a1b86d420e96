/-
  Place notation: ReadNotation of the reference.
  Conditions: none.
-/
import Derived.Test.YtfklonhjgkahdaaA98
set_option linter.unusedSimpArgs false
set_option linter.unusedVariables false
set_option linter.defProp false
namespace Go.Proofs.Ytfklonhjgkahdaa
open Go Go.RowKit
def gN (L : List (List Bs)) (x : List Bs) : List Bs := if L.length = 1 then x else mirL x
theorem flatN_g (L : List (List Bs)) : flatN L = L.flatMap (gN L) := by
  unfold flatN
  split
  · rename_i h
    rw [show gN L = id from funext fun x => if_pos h]
    simp
  · rename_i h
    rw [show gN L = mirL from funext fun x => if_neg h]
theorem flatg_take {g : List Bs → List Bs} {l : List (List Bs)} {k : Nat} (hk : k < l.length) : (l.take (k + 1)).flatMap g = (l.take k).flatMap g ++ g (l.getD k []) := by
  rw [List.take_add_one, List.getElem?_eq_getElem hk, List.flatMap_append, List.getD_eq_getElem?_getD, List.getElem?_eq_getElem hk]
  simp
theorem gN_len (L : List (List Bs)) (x : List Bs) : (gN L x).length ≤ 2 * x.length := by
  unfold gN; split
  · omega
  · rw [mirL_len]; omega
theorem flatg_small {g : List Bs → List Bs} (hg : ∀ x, (g x).length ≤ 2 * x.length) {l : List (List Bs)} (h : ∀ x ∈ l, x.length ≤ 200) : ∀ {k}, k ≤ l.length → ((l.take k).flatMap g).length ≤ 400 * k
  | 0, _ => by simp
  | k + 1, hk => by
    have ih := flatg_small hg h (k := k) (by omega)
    have hc := h _ (getD_mem [] (show k < l.length by omega))
    have hc2 := hg (l.getD k [])
    rw [flatg_take (by omega), List.length_append]
    omega
theorem sReadNotation_ok (n : Int) (s : Bs) (hs : s.length ≤ 1000000) (w : World) : Fn 28 [.int .i64 n, S s] w (fun r w' => RdR n s w w' r) := by
  (refine callsV_of mix Try.func28 c_sReadNotation ?_; simp only [↓vsd, vsn, gW, qd, qv, ev, pick, argE, zipE, ne_eq, eq_self, forall_const, implies_true, if_true, if_false, reduceIte, reduceCtorEq, Nat.reduceEqDiff, Nat.reduceAdd, Nat.reduceLT, ↓us_sReadNotation, r_sReadNotation])
  refine m_call (sl1In_ok _ _ _ _) ?_
  rintro _ w0 hx0 rfl
  by_cases hn : 3 ≤ n ∧ n ≤ 8
  · obtain ⟨n, rfl⟩ : ∃ m : Nat, n = m := ⟨n.toNat, by omega⟩
    have h38 : 3 ≤ n ∧ n ≤ 8 := by omega
    have hnd : (decide ((3 : Int) ≤ (n : Int)) && decide ((n : Int) ≤ (8 : Int))) = true := by rw [Bool.and_eq_true, decide_eq_true_eq, decide_eq_true_eq]; omega
    by_cases hse : s = []
    · subst hse
      simp only [↓vsd, vsn, gW, qd, qv, ev, pick, argE, zipE, ne_eq, eq_self, forall_const, implies_true, if_true, if_false, reduceIte, reduceCtorEq, Nat.reduceEqDiff, Nat.reduceAdd, Nat.reduceLT, ↓us_sReadNotation, r_sReadNotation, hnd, resV_four]
      exact ⟨hx0, RdR.of (readN_len hn (.inl rfl)) (Own.nil fS_len)⟩
    · simp only [↓vsd, vsn, gW, qd, qv, ev, pick, argE, zipE, ne_eq, eq_self, forall_const, implies_true, if_true, if_false, reduceIte, reduceCtorEq, Nat.reduceEqDiff, Nat.reduceAdd, Nat.reduceLT, ↓us_sReadNotation, r_sReadNotation, hnd, hse, resV_four]
      refine ⟨fun hbig => ⟨hx0, RdR.of (readN_len hn (.inr (by omega))) (Own.nil fS_len)⟩, fun hsm => m_al ?_⟩
      rintro b w1 hbe hblk1 hx1 hs1
      have hok : ¬ (s = [] ∨ 200 < s.length) := fun hh => hh.elim hse (by omega)
      simp only [↓vsd, vsn, gW, qd, qv, ev, pick, argE, zipE, ne_eq, eq_self, forall_const, implies_true, if_true, if_false, reduceIte, reduceCtorEq, Nat.reduceEqDiff, Nat.reduceAdd, Nat.reduceLT, ↓us_sReadNotation, r_sReadNotation]
      have hb1 : Blk w1 b (fR3 n s (0 : Nat) (.slice none 0 0) (-1)) 82 := hblk1
      have hbw : b < w1.heap.size := hb1.lt
      have hx01 := hx0.trans hx1
      have hxb : w.heap.size ≤ b := by have := hx0.size; omega
      have hI : (-1 : Int) < 0 := by decide
      have hJ : ¬ (0 : Int) ≤ -1 := by decide
      refine m_loop (fun m vs w' => ∃ (q : Nat) (bs : List (List Bs)) (x o : Value), s.length < m + q ∧ q ≤ s.length ∧ bs.length ≤ q ∧ (∀ l ∈ bs, l.length ≤ 200) ∧ vs = [x] ∧ NestU fS 9 24 w1.heap.size w'.heap.size w' x bs ∧ Blk w' b (fR3 n s q o (-1)) 82 ∧ Ext w w' ∧ w1.heap.size ≤ w'.heap.size ∧ rdN n s m q bs = rdN n s (s.length + 1) 0 []) (s.length + 1) ⟨0, [], _, _, by omega, by omega, by simp, by simp, rfl, NestU.nil, hb1, hx01, Nat.le_refl _, rfl⟩ ?_
      rintro m vs w4 ⟨q, bs, x, o, hm, hqs, hbl, hsm4, rfl, hN4, hb4, hx4, hz4, hR⟩
      obtain ⟨m, rfl⟩ : ∃ g, m = g + 1 := ⟨m - 1, by omega⟩
      simp only [↓vsd, vsn, gW, qd, qv, ev, pick, argE, zipE, ne_eq, eq_self, forall_const, implies_true, if_true, if_false, reduceIte, reduceCtorEq, Nat.reduceEqDiff, Nat.reduceAdd, Nat.reduceLT, ↓us_sReadNotation, r_sReadNotation]
      refine m_st hb4 rfl (by decide : 3 + 1 ≤ 5) (fun u hu => by
        simp only [Value.cells, List.mem_cons, List.not_mem_nil, or_false] at hu
        subst hu; rfl) ?_
      rintro w5 hb5' hu5
      have hb5 : Blk w5 b (fR3 n s q (.slice none 0 0) (-1)) 82 := hb5'
      have hz5 := hu5.grown.size
      have hN5 := (hN4.off hu5.grown (fun c hc => by cases hc; exact .inl hbw)).mono (Nat.le_refl _) hz5
      have hx5 : Ext w w5 := ext_grow hx4 hu5.grown (fun c hc => by cases hc; omega)
      simp only [↓vsd, vsn, gW, qd, qv, ev, pick, argE, zipE, ne_eq, eq_self, forall_const, implies_true, if_true, if_false, reduceIte, reduceCtorEq, Nat.reduceEqDiff, Nat.reduceAdd, Nat.reduceLT, ↓us_sReadNotation, r_sReadNotation]
      refine m_callw (.inl rfl) (sl3R_block_ok n s q b h38 (by omega) hqs _ hb5) ?_
      rintro _ w6 ⟨hg6, hbad, hgood⟩
      have hN6 := hN5.off hg6 (fun c hc => by cases hc; exact .inl hbw)
      have hz6 := hg6.size
      have hx6 : Ext w w6 := ext_grow hx5 hg6 (fun c hc => by cases hc; omega)
      rcases hk : blkN n s (s.length + 1) q [] with p | ⟨l, e⟩
      · obtain ⟨xe, o', hb6⟩ := hbad p hk
        have hI : (0 : Int) ≤ (p : Nat) := by omega
        have hJ : ¬ ((p : Nat) : Int) < 0 := by omega
        simp only [↓vsd, vsn, gW, qd, qv, ev, pick, argE, zipE, ne_eq, eq_self, forall_const, implies_true, if_true, if_false, reduceIte, reduceCtorEq, Nat.reduceEqDiff, Nat.reduceAdd, Nat.reduceLT, ↓us_sReadNotation, r_sReadNotation, hb6.facts, fR3g, hI, hJ, resV_four]
        exact ⟨hx6, RdR.of (readN_inl h38 hok (hR.symm.trans (rdN_bad hk))) (Own.nil fS_len)⟩
      · obtain ⟨o', hb6, ho6⟩ := hgood l e hk
        obtain ⟨he1, he2, he3, he4, he5⟩ := blkN_end hqs hk
        have hl200 : l.length ≤ 200 := by simp at he4; omega
        have hLs : ∀ y ∈ bs ++ [l], y.length ≤ 200 := fun y hy => by
          rcases List.mem_append.1 hy with h | h
          · exact hsm4 y h
          · rw [List.mem_singleton] at h; rw [h]; exact hl200
        have hLl : (bs ++ [l]).length = bs.length + 1 := by rw [List.length_append, List.length_singleton]
        obtain ⟨sv, rfl⟩ := ho6.sq.sv
        simp only [↓vsd, vsn, gW, qd, qv, ev, pick, argE, zipE, ne_eq, eq_self, forall_const, implies_true, if_true, if_false, reduceIte, reduceCtorEq, Nat.reduceEqDiff, Nat.reduceAdd, Nat.reduceLT, ↓us_sReadNotation, r_sReadNotation, hb6.facts, fR3g, hI, hJ]
        refine m_bsl (one_el rfl) ?_
        rintro b7 w7 hb7e hblk7 hx7 hs7
        simp only [↓vsd, vsn, gW, qd, qv, ev, pick, argE, zipE, ne_eq, eq_self, forall_const, implies_true, if_true, if_false, reduceIte, reduceCtorEq, Nat.reduceEqDiff, Nat.reduceAdd, Nat.reduceLT, ↓us_sReadNotation, r_sReadNotation]
        refine m_pushU (hN6.ext hx7) (Sq.one fSV_len hblk7 rfl) ((ho6.ext hx7).mono (by omega)) (fun c hc => (ho6.bound c hc).1) (by have := hx7.size; omega) (by omega) rfl (by decide) (by have := hx7.size; omega) ?_
        rintro x8 w8 hN8 hg8
        have hob : ∀ c, x.ownBlock = some c → w1.heap.size ≤ c := fun c hc => (hN4.bound c hc).1
        have hb7 := hb6.ext hx7
        have hb8 := hb7.same (hg8.block b hb7.lt (fun e => by have := hob b e.symm; omega))
        have hx67 := hx6.trans hx7
        have hz8 := hg8.size
        have hz7 := hx7.size
        have hx8 : Ext w w8 := ext_grow hx67 hg8 (fun c hc => by have := hob c hc; omega)
        by_cases hfin : e = s.length
        · have hR := hR.symm.trans (rdN_fin (m := m) (bs := bs) hk (by omega))
          generalize bs ++ [l] = L at *
          have hfinI : (e : Int) = s.length := by omega
          have hrd := readN_inr h38 hok hR
          rw [flatN_g] at hrd
          obtain ⟨vs, h81, h82, h83, h84⟩ := hN8
          have hf8 := h81.sq.facts
          rw [h83] at hf8
          simp only [↓vsd, vsn, gW, qd, qv, ev, pick, argE, zipE, ne_eq, eq_self, forall_const, implies_true, if_true, if_false, reduceIte, reduceCtorEq, Nat.reduceEqDiff, Nat.reduceAdd, Nat.reduceLT, ↓us_sReadNotation, r_sReadNotation, hb8.facts, fR3g, hfinI, hf8]
          refine m_upto L.length (fun k vs' w' => ∃ y, vs' = [y, .int .i64 k] ∧ Own fS 1 9 w8.heap.size w' y ((L.take k).flatMap (gN L)) ∧ Ext w8 w') ⟨_, rfl, Own.nil fS_len, Ext.refl _⟩ ?_
          rintro k vs' w9 hkL ⟨y, rfl, hoy, hx9⟩
          have hfs := flatg_small (gN_len L) hLs hkL
          have hx09 := hx8.trans hx9
          have hf9 := (h81.ext hx9).sq.facts
          rw [h83] at hf9
          by_cases hlt : k < L.length
          · have hltI : (k : Int) < L.length := by omega
            have hltJ : ¬ (L.length : Int) ≤ k := by omega
            have hk9 := ((h84 k hlt).1.ext hx9)
            have hkl := hLs _ (getD_mem [] hlt)
            have hgl := gN_len L (L.getD k [])
            have ak : ∀ κ : IntKind, ldV w9 (iaV 1 x8 (.int κ k)) = (vs.getD k SV.nil).v ∧ ldD w9 (iaV 1 x8 (.int κ k)) = True := (h81.ext hx9).sq.at1 SV.nil (by omega)
            by_cases hone : L.length = 1
            · have hoI : ¬ (1 : Int) < L.length := by omega
              have hge : gN L (L.getD k []) = L.getD k [] := if_pos hone
              simp only [↓vsd, vsn, gW, qd, qv, ev, pick, argE, zipE, ne_eq, eq_self, forall_const, implies_true, if_true, if_false, reduceIte, reduceCtorEq, Nat.reduceEqDiff, Nat.reduceAdd, Nat.reduceLT, ↓us_sReadNotation, r_sReadNotation, hltI, hltJ, hf9, ak, hoI]
              refine ⟨by omega, ?_⟩
              refine m_app hoy hk9.sq fS_one (by decide) (by omega) (by decide) hx9.size ?_
              rintro y11 w11 ho11 hg11
              simp only [↓vsd, vsn, gW, qd, qv, ev, pick, argE, zipE, ne_eq, eq_self, forall_const, implies_true, if_true, if_false, reduceIte, reduceCtorEq, Nat.reduceEqDiff, Nat.reduceAdd, Nat.reduceLT, ↓us_sReadNotation, r_sReadNotation]
              exact ⟨inR_i64 (by omega), UpTo.next hlt ⟨y11, rfl, ho11.to (by rw [flatg_take hlt, hge]), hoy.grown hx9 (Nat.le_refl _) hg11⟩⟩
            · have hoI : (1 : Int) < L.length := by omega
              have hge : gN L (L.getD k []) = mirL (L.getD k []) := if_neg hone
              simp only [↓vsd, vsn, gW, qd, qv, ev, pick, argE, zipE, ne_eq, eq_self, forall_const, implies_true, if_true, if_false, reduceIte, reduceCtorEq, Nat.reduceEqDiff, Nat.reduceAdd, Nat.reduceLT, ↓us_sReadNotation, r_sReadNotation, hltI, hltJ, hf9, ak, hoI]
              refine ⟨by omega, m_call (sl3Mirror_ok _ _ (by omega) _ hk9.sq) ?_⟩
              rintro z w10 hx10 ho10
              simp only [↓vsd, vsn, gW, qd, qv, ev, pick, argE, zipE, ne_eq, eq_self, forall_const, implies_true, if_true, if_false, reduceIte, reduceCtorEq, Nat.reduceEqDiff, Nat.reduceAdd, Nat.reduceLT, ↓us_sReadNotation, r_sReadNotation]
              refine m_app (hoy.ext hx10) ho10.sq fS_one (by decide) (by rw [mirL_len]; omega) (by decide) ((hx9.trans hx10).size) ?_
              rintro y11 w11 ho11 hg11
              simp only [↓vsd, vsn, gW, qd, qv, ev, pick, argE, zipE, ne_eq, eq_self, forall_const, implies_true, if_true, if_false, reduceIte, reduceCtorEq, Nat.reduceEqDiff, Nat.reduceAdd, Nat.reduceLT, ↓us_sReadNotation, r_sReadNotation]
              exact ⟨inR_i64 (by omega), UpTo.next hlt ⟨y11, rfl, ho11.to (by rw [flatg_take hlt, hge]), (hoy.ext hx10).grown (hx9.trans hx10) (Nat.le_refl _) hg11⟩⟩
          · obtain rfl : k = L.length := by omega
            have hltI : ¬ (L.length : Int) < L.length := by omega
            rw [List.take_length] at hoy
            have hoz := hoy.sq.facts
            by_cases h4 : 4 < L.length
            · have h4I : (4 : Int) < L.length := by omega
              simp only [↓vsd, vsn, gW, qd, qv, ev, pick, argE, zipE, ne_eq, eq_self, forall_const, implies_true, if_true, if_false, reduceIte, reduceCtorEq, Nat.reduceEqDiff, Nat.reduceAdd, Nat.reduceLT, ↓us_sReadNotation, r_sReadNotation, hltI, hf9, h4I, resV_four]
              exact ⟨hx09, RdR.of (hrd.trans (if_pos (.inl h4))) (Own.nil fS_len)⟩
            · have h4I : ¬ (4 : Int) < L.length := by omega
              simp only [↓vsd, vsn, gW, qd, qv, ev, pick, argE, zipE, ne_eq, eq_self, forall_const, implies_true, if_true, if_false, reduceIte, reduceCtorEq, Nat.reduceEqDiff, Nat.reduceAdd, Nat.reduceLT, ↓us_sReadNotation, r_sReadNotation, hltI, hf9, h4I, hoz, resV_four]
              refine ⟨fun hbig => ⟨hx09, RdR.of (hrd.trans (if_pos (.inr (by omega)))) (Own.nil fS_len)⟩, fun hs4 => ⟨hx09, RdR.of (hrd.trans (if_neg fun hh => by omega)) (hoy.mono (by omega))⟩⟩
        · have hR' := (rdN_go (m := m) (bs := bs) hk (by omega)).symm.trans hR
          have hfinI : ¬ (e : Int) = s.length := by omega
          simp only [↓vsd, vsn, gW, qd, qv, ev, pick, argE, zipE, ne_eq, eq_self, forall_const, implies_true, if_true, if_false, reduceIte, reduceCtorEq, Nat.reduceEqDiff, Nat.reduceAdd, Nat.reduceLT, ↓us_sReadNotation, r_sReadNotation, hb8.facts, fR3g, hfinI]
          refine ⟨inR_i64 (by omega), m_st hb8 rfl (by decide : 2 + 1 ≤ 5) (fI_one _) ?_⟩
          rintro w9 hb9' hu9
          have hb9 : Blk w9 b (fR3 n s (e + 1 : Nat) sv.v (-1)) 82 := hb9'
          have hz9 := hu9.grown.size
          have hN9 := (hN8.off hu9.grown (fun c hc => by cases hc; exact .inl hbw)).mono (Nat.le_refl _) hz9
          have hx9 : Ext w w9 := ext_grow hx8 hu9.grown (fun c hc => by cases hc; omega)
          simp only [↓vsd, vsn, gW, qd, qv, ev, pick, argE, zipE, ne_eq, eq_self, forall_const, implies_true, if_true, if_false, reduceIte, reduceCtorEq, Nat.reduceEqDiff, Nat.reduceAdd, Nat.reduceLT, ↓us_sReadNotation, r_sReadNotation]
          exact ⟨m, by omega, e + 1, bs ++ [l], x8, sv.v, by omega, by omega, by omega, hLs, rfl, hN9, hb9, hx9, by omega, hR'⟩
  · have hnd : (decide ((3 : Int) ≤ n) && decide (n ≤ 8)) = false := by
      rw [Bool.and_eq_false_iff, decide_eq_false_iff_not, decide_eq_false_iff_not]; omega
    simp only [↓vsd, vsn, gW, qd, qv, ev, pick, argE, zipE, ne_eq, eq_self, forall_const, implies_true, if_true, if_false, reduceIte, reduceCtorEq, Nat.reduceEqDiff, Nat.reduceAdd, Nat.reduceLT, ↓us_sReadNotation, r_sReadNotation, hnd, resV_four]
    exact ⟨hx0, RdR.of (readN_stage hn) (Own.nil fS_len)⟩
theorem sCountChanges_ok (n : Int) (s : Bs) (hs : s.length ≤ 1000000) (w : World) : Fn 20 [.int .i64 n, S s] w (fun r _ => r = cntV n s) := by
  (refine callsV_of mix Try.func20 c_sCountChanges ?_; simp only [↓vsd, vsn, gW, qd, qv, ev, pick, argE, zipE, ne_eq, eq_self, forall_const, implies_true, if_true, if_false, reduceIte, reduceCtorEq, Nat.reduceEqDiff, Nat.reduceAdd, Nat.reduceLT, ↓us_sCountChanges, r_sCountChanges])
  refine m_call (sReadNotation_ok n s hs _) ?_
  rintro _ w1 hx1 ⟨x, rfl, ho⟩
  by_cases hok : (readN n s).2.2.2 = true
  · simp only [↓vsd, vsn, gW, qd, qv, ev, pick, argE, zipE, ne_eq, eq_self, forall_const, implies_true, if_true, if_false, reduceIte, reduceCtorEq, Nat.reduceEqDiff, Nat.reduceAdd, Nat.reduceLT, ↓us_sCountChanges, r_sCountChanges, v_e4, d_e4, ho.sq.facts, hok]
    exact ⟨hx1, by rw [cntV, hok]⟩
  · have hb := readN_bad hok
    have hokf : (readN n s).2.2.2 = false := by simpa using hok
    simp only [↓vsd, vsn, gW, qd, qv, ev, pick, argE, zipE, ne_eq, eq_self, forall_const, implies_true, if_true, if_false, reduceIte, reduceCtorEq, Nat.reduceEqDiff, Nat.reduceAdd, Nat.reduceLT, ↓us_sCountChanges, r_sCountChanges, v_e4, d_e4, hokf]
    exact ⟨hx1, by rw [cntV, hokf, hb]; rfl⟩
end Go.Proofs.Ytfklonhjgkahdaa
