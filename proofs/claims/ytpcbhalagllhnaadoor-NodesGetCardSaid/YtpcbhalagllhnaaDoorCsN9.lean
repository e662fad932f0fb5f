/- CsN9: what each function does, by its own code. No condition beyond those of each statement. -/
import Derived.Test.YtpcbhalagllhnaaDoorCsN7
import Derived.Test.YtpcbhalagllhnaaDoorCsNod3
namespace Go.Proofs.YtpcbhalagllhnaaDoor
open Go Go.RowKit Go.Cs
set_option maxRecDepth 100000
set_option linter.all false
set_option linter.unusedVariables false

theorem c_NodesGetBig {lo_b hi_b : Nat} {a_b : Option Addr} {n_b c_b : Nat} {b : List UInt8}  (w : World) (h_b : Bs lo_b hi_b w a_b n_b c_b b) (hp0 : 200 < n_b) (hg0 : Gl 0 [vI 45, vI 33] w) :
    Calls Tryd.prog 4 #[(.slice a_b n_b c_b)] w (Ret fun r w' => r = vT ∧ Ext w w') := by
  refine calls_of (n := 81) (σ := [(0, (.slice a_b n_b c_b))]) Tryd.func4 rfl ?_
  replace h_b := h_b.now; have hle_b := h_b.le
  have hgl0 := hg0.lt
  refine wpC_seq (wpC_region (wpF_run 1 [(2, vF)] (wpF_end (then_code (wpC_seq (wpC_seq (wpC_region (wpF_run 2 [(10, (vI n_b)), (9, (.slice a_b n_b c_b))] (wpF_step (op_b (some 11) (decide (((n_b : Nat) : Int) > ((200 : Nat) : Int))) true (cmpDT (by omega)) ?_))))))))))
  refine wpF_end (then_code (wpC_true (wpC_seq (wpC_region (wpF_step (op_call (some 12) (c_lives13 _ hg0) ?_))))))
  rintro _ w1 ⟨rfl, hEw1⟩
  have hzw1 := hEw1.size
  exact wpF_run 1 [(2, vT)] (wpF_end (then_code (wpC_ret (then_ret (body_rets vT (⟨rfl, hEw1⟩))))))

theorem c_NodesGetOk {lo_b hi_b : Nat} {a_b : Option Addr} {n_b c_b : Nat} {b : List UInt8}  (w : World) (h_b : Bs lo_b hi_b w a_b n_b c_b b) (hp0 : n_b ≤ 200) (hp1 : getNE b = 0) (hg0 : Gl 0 [vI 45, vI 33] w) :
    Calls Tryd.prog 4 #[(.slice a_b n_b c_b)] w (Ret fun r w' => r = vT ∧ Ext w w') := by
  refine calls_of (n := 81) (σ := [(0, (.slice a_b n_b c_b))]) Tryd.func4 rfl ?_
  replace h_b := h_b.now; have hle_b := h_b.le
  have hgl0 := hg0.lt
  refine wpC_seq (wpC_region (wpF_run 1 [(2, vF)] (wpF_end (then_code (wpC_seq (wpC_seq (wpC_region (wpF_run 2 [(10, (vI n_b)), (9, (.slice a_b n_b c_b))] (wpF_step (op_b (some 11) (decide (((n_b : Nat) : Int) > ((200 : Nat) : Int))) false (cmpDF (by omega)) ?_))))))))))
  refine wpF_end (then_code (wpC_false (wpC_skip (then_code (wpC_seq (wpC_region (wpF_run 1 [(14, (.slice a_b n_b c_b))] (wpF_step (op_call (some 15) (c_NGet _ h_b hg0) ?_)))))))))
  rintro _ w1 ⟨rfl, hEw1⟩
  have hzw1 := hEw1.size
  refine wpF_run 3 [(17, (vI (getNE b))), (16, (vA (nodC (getN b)))), (13, (.tuple #[(vA (nodC (getN b))), (vI (getNE b))]))] (wpF_step (op_new (some 3) (Instr.alloc 41 true (.tuple #[])) (vP w1.heap.size 0) (nodC Nod.zero) 41 ?_))
  intro w2 hBw2 hEw2
  have hzw2 := hEw2.size; have hlw2 := hBw2.lt
  refine wpF_step (op_store 41 w1.heap.size 0 41 (vA (nodC (getN b))) (nodC Nod.zero) (nodC (getN b)) hBw2 (by rw [nodC_len]; kernel_rfl) (by first | (simp; done) | (simp; omega)) (nodC_one _) ?_)
  intro w3 hBw3 hCw3
  have hzw3 := hCw3.size
  rw [setFrom_all _ _ (by simp)] at hBw3
  refine wpF_run 1 [(4, (vI (getNE b)))] (wpF_end (then_code (wpC_seq (wpC_seq (wpC_region (wpF_run 1 [(18, (vI (getNE b)))] (wpF_step (op_b (some 19) (((getNE b : Nat) : Int) == ((0 : Nat) : Int)) true (cmpEqT (by omega)) ?_))))))))
  refine wpF_end (then_code (wpC_true (wpC_seq (wpC_region (wpF_step (op_v (some 21) (Instr.loadAt 41 (vP w1.heap.size 0)) (vA (nodC (getN b))) (rn_lda (vs := nodC (getN b)) (hBw3.all) (by rw [nodC_len]; kernel_rfl)) ?_))))))
  have hK1 := (((((hg0.ext hEw1)).ext hEw2)).chg hCw3 (fun hs => by have h : _ = _ := hs; omega))
  refine wpF_step (op_call (some 22) (c_NPut (getN b) _ (chkN_of_get hp1) hK1) ?_)
  rintro _ w4 ⟨a1, rfl, hFz2_0, hFz2_1, hFz2_2, hFz2_3, hEw4⟩
  have hzw4 := hEw4.size
  have hla1 := hFz2_1.lt; have hna1 := hFz2_3
  have hSa1 : Bs a1 (a1 + 1) w4 (pA a1 0) (nodL (getN b)) (nodL (getN b)) (nodB (getN b)) := Bs.of_blk hFz2_1 rfl hFz2_2 (Nat.le_refl _) (le_maxLen hna1) (Nat.le_refl _) (Nat.lt_succ_self _)
  refine wpF_run 5 [(6, (vI 0)), (5, (.slice (pA a1 0) (nodL (getN b)) (nodL (getN b)))), (24, (vI 0)), (23, (.slice (pA a1 0) (nodL (getN b)) (nodL (getN b)))), (20, (.tuple #[(.slice (pA a1 0) (nodL (getN b)) (nodL (getN b))), (vI 0)]))] (wpF_end (then_code (wpC_seq (wpC_region (wpF_run 4 [(28, (.slice (pA a1 0) (nodL (getN b)) (nodL (getN b)))), (27, vT), (26, vT), (25, (vI 0))] (wpF_step (op_v (some 29) (convert 44 9 (.slice (pA a1 0) (nodL (getN b)) (nodL (getN b)))) (.string ⟨(nodB (getN b)).toArray⟩) (run_string 5 hSa1) ?_)))))))
  refine wpF_run 1 [(30, (.slice a_b n_b c_b))] ?_
  have hK2 := (((((((h_b.ext hEw1)).ext hEw2)).chg hCw3 (fun k h1 h2 hs => by have h : k = _ := hs; omega))).ext hEw4)
  refine wpF_step (op_v (some 31) (convert 44 9 (.slice a_b n_b c_b)) (.string ⟨(b).toArray⟩) (run_string 5 hK2) ?_)
  refine wpF_step (op_b (some 32) ((⟨(nodB (getN b)).toArray⟩ : ByteArray).toList == (⟨(b).toArray⟩ : ByteArray).toList) true (strT (nodB_of hp1)) ?_)
  refine wpF_run 2 [(34, vT), (33, vT)] (wpF_step (op_v (some 35) (Instr.loadAt 41 (vP w1.heap.size 0)) (vA (nodC (getN b))) (rn_lda (vs := nodC (getN b)) ((hBw3.ext hEw4).all) (by rw [nodC_len]; kernel_rfl)) ?_))
  refine wpF_step (op_call (some 36) (c_rNCheck (getN b) _) ?_)
  rintro _ w5 ⟨rfl, hEw5⟩
  have hzw5 := hEw5.size
  rw [show chkN (getN b) = 0 from chkN_of_get hp1]
  refine wpF_run 3 [(39, vT), (38, vT), (37, vT)] (wpF_step (op_call (some 40) (c_lives13 _ (((hK1.ext hEw4)).ext hEw5)) ?_))
  rintro _ w6 ⟨rfl, hEw6⟩
  have hzw6 := hEw6.size
  refine wpF_run 2 [(2, vT), (41, vT)] (wpF_end (then_code (wpC_ret (then_ret (body_rets vT ?_)))))
  have hX1 : Ext w w6 := ((((Ext.own (hEw1.trans hEw2) hCw3 (by omega)).trans hEw4).trans hEw5).trans hEw6)
  exact ⟨rfl, hX1⟩

theorem c_NodesGetNo {lo_b hi_b : Nat} {a_b : Option Addr} {n_b c_b : Nat} {b : List UInt8}  (w : World) (h_b : Bs lo_b hi_b w a_b n_b c_b b) (hp0 : n_b ≤ 200) (hp1 : ¬ getNE b = 0) (hg0 : Gl 0 [vI 45, vI 33] w) :
    Calls Tryd.prog 4 #[(.slice a_b n_b c_b)] w (Ret fun r w' => r = vT ∧ Ext w w') := by
  refine calls_of (n := 81) (σ := [(0, (.slice a_b n_b c_b))]) Tryd.func4 rfl ?_
  replace h_b := h_b.now; have hle_b := h_b.le
  have hgl0 := hg0.lt
  have hlen := h_b.len_eq
  obtain ⟨q1, q2, q3, q4, q5, q6, q7, q8⟩ := getNE_spec b
  refine wpC_seq (wpC_region (wpF_run 1 [(2, vF)] (wpF_end (then_code (wpC_seq (wpC_seq (wpC_region (wpF_run 2 [(10, (vI n_b)), (9, (.slice a_b n_b c_b))] (wpF_step (op_b (some 11) (decide (((n_b : Nat) : Int) > ((200 : Nat) : Int))) false (cmpDF (by omega)) ?_))))))))))
  refine wpF_end (then_code (wpC_false (wpC_skip (then_code (wpC_seq (wpC_region (wpF_run 1 [(14, (.slice a_b n_b c_b))] (wpF_step (op_call (some 15) (c_NGet _ h_b hg0) ?_)))))))))
  rintro _ w1 ⟨rfl, hEw1⟩
  have hzw1 := hEw1.size
  refine wpF_run 3 [(17, (vI (getNE b))), (16, (vA (nodC (getN b)))), (13, (.tuple #[(vA (nodC (getN b))), (vI (getNE b))]))] (wpF_step (op_new (some 3) (Instr.alloc 41 true (.tuple #[])) (vP w1.heap.size 0) (nodC Nod.zero) 41 ?_))
  intro w2 hBw2 hEw2
  have hzw2 := hEw2.size; have hlw2 := hBw2.lt
  refine wpF_step (op_store 41 w1.heap.size 0 41 (vA (nodC (getN b))) (nodC Nod.zero) (nodC (getN b)) hBw2 (by rw [nodC_len]; kernel_rfl) (by first | (simp; done) | (simp; omega)) (nodC_one _) ?_)
  intro w3 hBw3 hCw3
  have hzw3 := hCw3.size
  rw [setFrom_all _ _ (by simp)] at hBw3
  refine wpF_run 1 [(4, (vI (getNE b)))] (wpF_end (then_code (wpC_seq (wpC_seq (wpC_region (wpF_run 1 [(18, (vI (getNE b)))] (wpF_step (op_b (some 19) (((getNE b : Nat) : Int) == ((0 : Nat) : Int)) false (cmpEqF (by omega)) ?_))))))))
  refine wpF_end (then_code (wpC_false (wpC_skip (then_code (wpC_seq (wpC_region (wpF_run 1 [(7, (vI 1))] (wpF_end (then_code ?_)))))))))
  refine wpC_seq (wpC_seq (wpC_region (wpF_run 2 [(43, (vI n_b)), (42, (.slice a_b n_b c_b))] (wpF_step (op_split (some 44) ((((n_b : Nat) : Int) == ((0 : Nat) : Int))) (fun hc44 => ?_) (fun hc44 => ?_))))))
  · replace hc44 : n_b = 0 := by have := of_eq_t hc44; omega
    refine wpF_end (then_code (wpC_true (wpC_region (wpF_run 1 [(7, (vI 6))] (wpF_end (then_code (wpC_seq (wpC_region (wpF_run 2 [(71, (vI 6)), (70, (vI (getNE b)))] ?_)))))))))
    refine wpF_step (op_b (some 72) (((getNE b : Nat) : Int) == ((6 : Nat) : Int)) true (cmpEqT (by omega)) ?_)
    refine wpF_run 1 [(73, vT)] (wpF_step (op_v (some 74) (Instr.loadAt 41 (vP w1.heap.size 0)) (vA (nodC (getN b))) (rn_lda (vs := nodC (getN b)) (hBw3.all) (by rw [nodC_len]; kernel_rfl)) ?_))
    refine wpF_run 1 [(75, (vA (nodC Nod.zero)))] (wpF_step (op_v (some 76) (bo .eql 41 (.tmp 74) (.tmp 75) (vA (nodC (getN b))) (vA (nodC Nod.zero))) vT (run_eqlAgg (r := true) (T := 41) ((run_eq_nod (dd := 9995) (N := 41) (R := 36) (E := 39) (r := 35) (en := 38) (t8 := 5) (td := 33) (e := 5) (tn := 31) (t32 := 28) (t64 := 29) (getN b) Nod.zero).trans (congrArg (fun b => Result.ok b _) (show ((getN b).eqb Nod.zero) = true from (Nod.eqb_iff _ _).2 (if_neg hp1))))) ?_))
    refine wpF_run 2 [(78, vT), (77, vT)] ?_
    have hK1 := (((((hg0.ext hEw1)).ext hEw2)).chg hCw3 (fun hs => by have h : _ = _ := hs; omega))
    refine wpF_step (op_call (some 79) (c_lives13 _ hK1) ?_)
    rintro _ w4 ⟨rfl, hEw4⟩
    have hzw4 := hEw4.size
    refine wpF_run 2 [(2, vT), (80, vT)] (wpF_end (then_code (wpC_ret (body_rets vT ?_))))
    have hX1 : Ext w w4 := ((Ext.own (hEw1.trans hEw2) hCw3 (by omega)).trans hEw4)
    exact ⟨rfl, hX1⟩
  · replace hc44 : ¬ (n_b = 0) := by have := of_eq_f hc44; omega
    refine wpF_end (then_code (wpC_false (wpC_seq (wpC_region (wpF_run 1 [(45, (.slice a_b n_b c_b))] ?_)))))
    obtain ⟨b1, o1, rfl⟩ := h_b.addr (by omega)
    refine wpF_step (op_v (some 46) (Instr.indexAt 44 (.slice (pA b1 o1) n_b c_b) (vI 0)) (vP b1 (o1 + 0 * 1)) (rn_ixs (E := 5) (sz := 1) (by omega)) ?_)
    have hK2 := (((((h_b.ext hEw1)).ext hEw2)).chg hCw3 (fun k h1 h2 hs => by have h : k = _ := hs; omega))
    refine wpF_step (op_v (some 47) (Instr.loadAt 5 (vP b1 (o1 + 0 * 1))) (vB (byt b 0)) (rn_ld (hK2.cell1 (by omega))) ?_)
    refine wpF_step (op_split (some 48) (decide (((byt b 0 : Nat) : Int) < ((6 : Nat) : Int))) (fun hc48 => ?_) (fun hc48 => ?_))
    · replace hc48 : byt b 0 < 6 := by have := of_d_t hc48; omega
      refine wpF_end (then_code (wpC_true (wpC_seq (wpC_region (wpF_run 1 [(8, (vI 137))] (wpF_end (then_code (wpC_seq (wpC_seq ?_)))))))))
      refine wpC_region (wpF_run 1 [(49, (.slice (pA b1 o1) n_b c_b))] (wpF_step (op_v (some 50) (Instr.indexAt 44 (.slice (pA b1 o1) n_b c_b) (vI 0)) (vP b1 (o1 + 0 * 1)) (rn_ixs (E := 5) (sz := 1) (by omega)) ?_)))
      refine wpF_step (op_v (some 51) (Instr.loadAt 5 (vP b1 (o1 + 0 * 1))) (vB (byt b 0)) (rn_ld (hK2.cell1 (by omega))) ?_)
      refine wpF_step (op_split (some 52) ((((byt b 0 : Nat) : Int) == ((0 : Nat) : Int))) (fun hc52 => ?_) (fun hc52 => ?_))
      · replace hc52 : byt b 0 = 0 := by have := of_eq_t hc52; omega
        refine wpF_end (then_code (wpC_true (wpC_region (wpF_run 1 [(8, (vI 185))] (wpF_end (then_code (wpC_seq (wpC_seq (wpC_region ?_)))))))))
        refine wpF_run 3 [(55, (vI 185)), (54, (vI n_b)), (53, (.slice (pA b1 o1) n_b c_b))] (wpF_step (op_split (some 56) (decide (((n_b : Nat) : Int) < ((185 : Nat) : Int))) (fun hc56 => ?_) (fun hc56 => ?_)))
        · replace hc56 : n_b < 185 := by have := of_d_t hc56; omega
          refine wpF_end (then_code (wpC_true (wpC_region (wpF_run 1 [(7, (vI 6))] (wpF_end (then_code (wpC_seq (wpC_seq (wpC_region ?_)))))))))
          refine wpF_run 3 [(59, (vI 185)), (58, (vI n_b)), (57, (.slice (pA b1 o1) n_b c_b))] (wpF_step (op_b (some 60) (decide (((n_b : Nat) : Int) > ((185 : Nat) : Int))) false (cmpDF (by omega)) ?_))
          refine wpF_end (then_code (wpC_false (wpC_skip (then_code (wpC_seq (wpC_region (wpF_run 3 [(63, (vI 185)), (62, (vI n_b)), (61, (.slice (pA b1 o1) n_b c_b))] (wpF_step (op_b (some 64) (((n_b : Nat) : Int) == ((185 : Nat) : Int)) false (cmpEqF (by omega)) ?_)))))))))
          refine wpF_run 5 [(69, vF), (68, undef), (67, undef), (66, undef), (65, vF)] (wpF_end (then_code (wpC_false (wpC_skip (then_code (wpC_seq (wpC_region (wpF_run 2 [(71, (vI 6)), (70, (vI (getNE b)))] (wpF_step (op_b (some 72) (((getNE b : Nat) : Int) == ((6 : Nat) : Int)) true (cmpEqT (by omega)) ?_))))))))))
          refine wpF_run 1 [(73, vT)] (wpF_step (op_v (some 74) (Instr.loadAt 41 (vP w1.heap.size 0)) (vA (nodC (getN b))) (rn_lda (vs := nodC (getN b)) (hBw3.all) (by rw [nodC_len]; kernel_rfl)) ?_))
          refine wpF_run 1 [(75, (vA (nodC Nod.zero)))] (wpF_step (op_v (some 76) (bo .eql 41 (.tmp 74) (.tmp 75) (vA (nodC (getN b))) (vA (nodC Nod.zero))) vT (run_eqlAgg (r := true) (T := 41) ((run_eq_nod (dd := 9995) (N := 41) (R := 36) (E := 39) (r := 35) (en := 38) (t8 := 5) (td := 33) (e := 5) (tn := 31) (t32 := 28) (t64 := 29) (getN b) Nod.zero).trans (congrArg (fun b => Result.ok b _) (show ((getN b).eqb Nod.zero) = true from (Nod.eqb_iff _ _).2 (if_neg hp1))))) ?_))
          refine wpF_run 2 [(78, vT), (77, vT)] ?_
          have hK3 := (((((hg0.ext hEw1)).ext hEw2)).chg hCw3 (fun hs => by have h : _ = _ := hs; omega))
          refine wpF_step (op_call (some 79) (c_lives13 _ hK3) ?_)
          rintro _ w5 ⟨rfl, hEw5⟩
          have hzw5 := hEw5.size
          refine wpF_run 2 [(2, vT), (80, vT)] (wpF_end (then_code (wpC_ret (body_rets vT ?_))))
          have hX2 : Ext w w5 := ((Ext.own (hEw1.trans hEw2) hCw3 (by omega)).trans hEw5)
          exact ⟨rfl, hX2⟩
        · replace hc56 : ¬ (n_b < 185) := by have := of_d_f hc56; omega
          refine wpF_end (then_code (wpC_false (wpC_skip (then_code (wpC_seq (wpC_seq (wpC_region (wpF_run 3 [(59, (vI 185)), (58, (vI n_b)), (57, (.slice (pA b1 o1) n_b c_b))] (wpF_step (op_split (some 60) (decide (((n_b : Nat) : Int) > ((185 : Nat) : Int))) (fun hc60 => ?_) (fun hc60 => ?_)))))))))))
          · replace hc60 : n_b > 185 := by have := of_d_t hc60; omega
            refine wpF_end (then_code (wpC_true (wpC_region (wpF_run 1 [(7, (vI 5))] (wpF_end (then_code (wpC_seq (wpC_region (wpF_run 3 [(63, (vI 185)), (62, (vI n_b)), (61, (.slice (pA b1 o1) n_b c_b))] ?_)))))))))
            refine wpF_step (op_b (some 64) (((n_b : Nat) : Int) == ((185 : Nat) : Int)) false (cmpEqF (by omega)) ?_)
            refine wpF_run 5 [(69, vF), (68, undef), (67, undef), (66, undef), (65, vF)] (wpF_end (then_code (wpC_false (wpC_skip (then_code (wpC_seq (wpC_region (wpF_run 2 [(71, (vI 5)), (70, (vI (getNE b)))] (wpF_step (op_b (some 72) (((getNE b : Nat) : Int) == ((5 : Nat) : Int)) true (cmpEqT (by omega)) ?_))))))))))
            refine wpF_run 1 [(73, vT)] (wpF_step (op_v (some 74) (Instr.loadAt 41 (vP w1.heap.size 0)) (vA (nodC (getN b))) (rn_lda (vs := nodC (getN b)) (hBw3.all) (by rw [nodC_len]; kernel_rfl)) ?_))
            refine wpF_run 1 [(75, (vA (nodC Nod.zero)))] (wpF_step (op_v (some 76) (bo .eql 41 (.tmp 74) (.tmp 75) (vA (nodC (getN b))) (vA (nodC Nod.zero))) vT (run_eqlAgg (r := true) (T := 41) ((run_eq_nod (dd := 9995) (N := 41) (R := 36) (E := 39) (r := 35) (en := 38) (t8 := 5) (td := 33) (e := 5) (tn := 31) (t32 := 28) (t64 := 29) (getN b) Nod.zero).trans (congrArg (fun b => Result.ok b _) (show ((getN b).eqb Nod.zero) = true from (Nod.eqb_iff _ _).2 (if_neg hp1))))) ?_))
            refine wpF_run 2 [(78, vT), (77, vT)] ?_
            have hK4 := (((((hg0.ext hEw1)).ext hEw2)).chg hCw3 (fun hs => by have h : _ = _ := hs; omega))
            refine wpF_step (op_call (some 79) (c_lives13 _ hK4) ?_)
            rintro _ w6 ⟨rfl, hEw6⟩
            have hzw6 := hEw6.size
            refine wpF_run 2 [(2, vT), (80, vT)] (wpF_end (then_code (wpC_ret (body_rets vT ?_))))
            have hX3 : Ext w w6 := ((Ext.own (hEw1.trans hEw2) hCw3 (by omega)).trans hEw6)
            exact ⟨rfl, hX3⟩
          · replace hc60 : ¬ (n_b > 185) := by have := of_d_f hc60; omega
            refine wpF_end (then_code (wpC_false (wpC_skip (then_code (wpC_seq (wpC_region (wpF_run 3 [(63, (vI 185)), (62, (vI n_b)), (61, (.slice (pA b1 o1) n_b c_b))] (wpF_step (op_b (some 64) (((n_b : Nat) : Int) == ((185 : Nat) : Int)) true (cmpEqT (by omega)) ?_)))))))))
            refine wpF_run 2 [(66, (.slice (pA b1 o1) n_b c_b)), (65, vT)] (wpF_step (op_call (some 67) (c_whole _ hK2 (by first | omega | decide)) ?_))
            rintro _ _ ⟨rfl, rfl⟩
            refine wpF_step (op_b (some 68) (((1 - ckL b 4 : Nat) : Int) == ((1 : Nat) : Int)) false (cmpEqF (by omega)) ?_)
            refine wpF_run 1 [(69, vF)] (wpF_end (then_code (wpC_false (wpC_skip (then_code (wpC_seq (wpC_region (wpF_run 2 [(71, (vI 1)), (70, (vI (getNE b)))] (wpF_step (op_b (some 72) (((getNE b : Nat) : Int) == ((1 : Nat) : Int)) true (cmpEqT (by omega)) ?_))))))))))
            refine wpF_run 1 [(73, vT)] (wpF_step (op_v (some 74) (Instr.loadAt 41 (vP w1.heap.size 0)) (vA (nodC (getN b))) (rn_lda (vs := nodC (getN b)) (hBw3.all) (by rw [nodC_len]; kernel_rfl)) ?_))
            refine wpF_run 1 [(75, (vA (nodC Nod.zero)))] (wpF_step (op_v (some 76) (bo .eql 41 (.tmp 74) (.tmp 75) (vA (nodC (getN b))) (vA (nodC Nod.zero))) vT (run_eqlAgg (r := true) (T := 41) ((run_eq_nod (dd := 9995) (N := 41) (R := 36) (E := 39) (r := 35) (en := 38) (t8 := 5) (td := 33) (e := 5) (tn := 31) (t32 := 28) (t64 := 29) (getN b) Nod.zero).trans (congrArg (fun b => Result.ok b _) (show ((getN b).eqb Nod.zero) = true from (Nod.eqb_iff _ _).2 (if_neg hp1))))) ?_))
            refine wpF_run 2 [(78, vT), (77, vT)] ?_
            have hK5 := (((((hg0.ext hEw1)).ext hEw2)).chg hCw3 (fun hs => by have h : _ = _ := hs; omega))
            refine wpF_step (op_call (some 79) (c_lives13 _ hK5) ?_)
            rintro _ w7 ⟨rfl, hEw7⟩
            have hzw7 := hEw7.size
            refine wpF_run 2 [(2, vT), (80, vT)] (wpF_end (then_code (wpC_ret (body_rets vT ?_))))
            have hX4 : Ext w w7 := ((Ext.own (hEw1.trans hEw2) hCw3 (by omega)).trans hEw7)
            exact ⟨rfl, hX4⟩
      · replace hc52 : ¬ (byt b 0 = 0) := by have := of_eq_f hc52; omega
        refine wpF_end (then_code (wpC_false (wpC_skip (then_code (wpC_seq (wpC_seq (wpC_region (wpF_run 3 [(55, (vI 137)), (54, (vI n_b)), (53, (.slice (pA b1 o1) n_b c_b))] (wpF_step (op_split (some 56) (decide (((n_b : Nat) : Int) < ((137 : Nat) : Int))) (fun hc56 => ?_) (fun hc56 => ?_)))))))))))
        · replace hc56 : n_b < 137 := by have := of_d_t hc56; omega
          refine wpF_end (then_code (wpC_true (wpC_region (wpF_run 1 [(7, (vI 6))] (wpF_end (then_code (wpC_seq (wpC_seq (wpC_region ?_)))))))))
          refine wpF_run 3 [(59, (vI 137)), (58, (vI n_b)), (57, (.slice (pA b1 o1) n_b c_b))] (wpF_step (op_b (some 60) (decide (((n_b : Nat) : Int) > ((137 : Nat) : Int))) false (cmpDF (by omega)) ?_))
          refine wpF_end (then_code (wpC_false (wpC_skip (then_code (wpC_seq (wpC_region (wpF_run 3 [(63, (vI 137)), (62, (vI n_b)), (61, (.slice (pA b1 o1) n_b c_b))] (wpF_step (op_b (some 64) (((n_b : Nat) : Int) == ((137 : Nat) : Int)) false (cmpEqF (by omega)) ?_)))))))))
          refine wpF_run 5 [(69, vF), (68, undef), (67, undef), (66, undef), (65, vF)] (wpF_end (then_code (wpC_false (wpC_skip (then_code (wpC_seq (wpC_region (wpF_run 2 [(71, (vI 6)), (70, (vI (getNE b)))] (wpF_step (op_b (some 72) (((getNE b : Nat) : Int) == ((6 : Nat) : Int)) true (cmpEqT (by omega)) ?_))))))))))
          refine wpF_run 1 [(73, vT)] (wpF_step (op_v (some 74) (Instr.loadAt 41 (vP w1.heap.size 0)) (vA (nodC (getN b))) (rn_lda (vs := nodC (getN b)) (hBw3.all) (by rw [nodC_len]; kernel_rfl)) ?_))
          refine wpF_run 1 [(75, (vA (nodC Nod.zero)))] (wpF_step (op_v (some 76) (bo .eql 41 (.tmp 74) (.tmp 75) (vA (nodC (getN b))) (vA (nodC Nod.zero))) vT (run_eqlAgg (r := true) (T := 41) ((run_eq_nod (dd := 9995) (N := 41) (R := 36) (E := 39) (r := 35) (en := 38) (t8 := 5) (td := 33) (e := 5) (tn := 31) (t32 := 28) (t64 := 29) (getN b) Nod.zero).trans (congrArg (fun b => Result.ok b _) (show ((getN b).eqb Nod.zero) = true from (Nod.eqb_iff _ _).2 (if_neg hp1))))) ?_))
          refine wpF_run 2 [(78, vT), (77, vT)] ?_
          have hK6 := (((((hg0.ext hEw1)).ext hEw2)).chg hCw3 (fun hs => by have h : _ = _ := hs; omega))
          refine wpF_step (op_call (some 79) (c_lives13 _ hK6) ?_)
          rintro _ w8 ⟨rfl, hEw8⟩
          have hzw8 := hEw8.size
          refine wpF_run 2 [(2, vT), (80, vT)] (wpF_end (then_code (wpC_ret (body_rets vT ?_))))
          have hX5 : Ext w w8 := ((Ext.own (hEw1.trans hEw2) hCw3 (by omega)).trans hEw8)
          exact ⟨rfl, hX5⟩
        · replace hc56 : ¬ (n_b < 137) := by have := of_d_f hc56; omega
          refine wpF_end (then_code (wpC_false (wpC_skip (then_code (wpC_seq (wpC_seq (wpC_region (wpF_run 3 [(59, (vI 137)), (58, (vI n_b)), (57, (.slice (pA b1 o1) n_b c_b))] (wpF_step (op_split (some 60) (decide (((n_b : Nat) : Int) > ((137 : Nat) : Int))) (fun hc60 => ?_) (fun hc60 => ?_)))))))))))
          · replace hc60 : n_b > 137 := by have := of_d_t hc60; omega
            refine wpF_end (then_code (wpC_true (wpC_region (wpF_run 1 [(7, (vI 5))] (wpF_end (then_code (wpC_seq (wpC_region (wpF_run 3 [(63, (vI 137)), (62, (vI n_b)), (61, (.slice (pA b1 o1) n_b c_b))] ?_)))))))))
            refine wpF_step (op_b (some 64) (((n_b : Nat) : Int) == ((137 : Nat) : Int)) false (cmpEqF (by omega)) ?_)
            refine wpF_run 5 [(69, vF), (68, undef), (67, undef), (66, undef), (65, vF)] (wpF_end (then_code (wpC_false (wpC_skip (then_code (wpC_seq (wpC_region (wpF_run 2 [(71, (vI 5)), (70, (vI (getNE b)))] (wpF_step (op_b (some 72) (((getNE b : Nat) : Int) == ((5 : Nat) : Int)) true (cmpEqT (by omega)) ?_))))))))))
            refine wpF_run 1 [(73, vT)] (wpF_step (op_v (some 74) (Instr.loadAt 41 (vP w1.heap.size 0)) (vA (nodC (getN b))) (rn_lda (vs := nodC (getN b)) (hBw3.all) (by rw [nodC_len]; kernel_rfl)) ?_))
            refine wpF_run 1 [(75, (vA (nodC Nod.zero)))] (wpF_step (op_v (some 76) (bo .eql 41 (.tmp 74) (.tmp 75) (vA (nodC (getN b))) (vA (nodC Nod.zero))) vT (run_eqlAgg (r := true) (T := 41) ((run_eq_nod (dd := 9995) (N := 41) (R := 36) (E := 39) (r := 35) (en := 38) (t8 := 5) (td := 33) (e := 5) (tn := 31) (t32 := 28) (t64 := 29) (getN b) Nod.zero).trans (congrArg (fun b => Result.ok b _) (show ((getN b).eqb Nod.zero) = true from (Nod.eqb_iff _ _).2 (if_neg hp1))))) ?_))
            refine wpF_run 2 [(78, vT), (77, vT)] ?_
            have hK7 := (((((hg0.ext hEw1)).ext hEw2)).chg hCw3 (fun hs => by have h : _ = _ := hs; omega))
            refine wpF_step (op_call (some 79) (c_lives13 _ hK7) ?_)
            rintro _ w9 ⟨rfl, hEw9⟩
            have hzw9 := hEw9.size
            refine wpF_run 2 [(2, vT), (80, vT)] (wpF_end (then_code (wpC_ret (body_rets vT ?_))))
            have hX6 : Ext w w9 := ((Ext.own (hEw1.trans hEw2) hCw3 (by omega)).trans hEw9)
            exact ⟨rfl, hX6⟩
          · replace hc60 : ¬ (n_b > 137) := by have := of_d_f hc60; omega
            refine wpF_end (then_code (wpC_false (wpC_skip (then_code (wpC_seq (wpC_region (wpF_run 3 [(63, (vI 137)), (62, (vI n_b)), (61, (.slice (pA b1 o1) n_b c_b))] (wpF_step (op_b (some 64) (((n_b : Nat) : Int) == ((137 : Nat) : Int)) true (cmpEqT (by omega)) ?_)))))))))
            refine wpF_run 2 [(66, (.slice (pA b1 o1) n_b c_b)), (65, vT)] (wpF_step (op_call (some 67) (c_whole _ hK2 (by first | omega | decide)) ?_))
            rintro _ _ ⟨rfl, rfl⟩
            refine wpF_step (op_b (some 68) (((1 - ckL b 4 : Nat) : Int) == ((1 : Nat) : Int)) false (cmpEqF (by omega)) ?_)
            refine wpF_run 1 [(69, vF)] (wpF_end (then_code (wpC_false (wpC_skip (then_code (wpC_seq (wpC_region (wpF_run 2 [(71, (vI 1)), (70, (vI (getNE b)))] (wpF_step (op_b (some 72) (((getNE b : Nat) : Int) == ((1 : Nat) : Int)) true (cmpEqT (by omega)) ?_))))))))))
            refine wpF_run 1 [(73, vT)] (wpF_step (op_v (some 74) (Instr.loadAt 41 (vP w1.heap.size 0)) (vA (nodC (getN b))) (rn_lda (vs := nodC (getN b)) (hBw3.all) (by rw [nodC_len]; kernel_rfl)) ?_))
            refine wpF_run 1 [(75, (vA (nodC Nod.zero)))] (wpF_step (op_v (some 76) (bo .eql 41 (.tmp 74) (.tmp 75) (vA (nodC (getN b))) (vA (nodC Nod.zero))) vT (run_eqlAgg (r := true) (T := 41) ((run_eq_nod (dd := 9995) (N := 41) (R := 36) (E := 39) (r := 35) (en := 38) (t8 := 5) (td := 33) (e := 5) (tn := 31) (t32 := 28) (t64 := 29) (getN b) Nod.zero).trans (congrArg (fun b => Result.ok b _) (show ((getN b).eqb Nod.zero) = true from (Nod.eqb_iff _ _).2 (if_neg hp1))))) ?_))
            refine wpF_run 2 [(78, vT), (77, vT)] ?_
            have hK8 := (((((hg0.ext hEw1)).ext hEw2)).chg hCw3 (fun hs => by have h : _ = _ := hs; omega))
            refine wpF_step (op_call (some 79) (c_lives13 _ hK8) ?_)
            rintro _ w10 ⟨rfl, hEw10⟩
            have hzw10 := hEw10.size
            refine wpF_run 2 [(2, vT), (80, vT)] (wpF_end (then_code (wpC_ret (body_rets vT ?_))))
            have hX7 : Ext w w10 := ((Ext.own (hEw1.trans hEw2) hCw3 (by omega)).trans hEw10)
            exact ⟨rfl, hX7⟩
    · replace hc48 : ¬ (byt b 0 < 6) := by have := of_d_f hc48; omega
      refine wpF_end (then_code (wpC_false (wpC_skip (then_code (wpC_seq (wpC_region (wpF_run 2 [(71, (vI 1)), (70, (vI (getNE b)))] (wpF_step (op_b (some 72) (((getNE b : Nat) : Int) == ((1 : Nat) : Int)) true (cmpEqT (by omega)) ?_)))))))))
      refine wpF_run 1 [(73, vT)] (wpF_step (op_v (some 74) (Instr.loadAt 41 (vP w1.heap.size 0)) (vA (nodC (getN b))) (rn_lda (vs := nodC (getN b)) (hBw3.all) (by rw [nodC_len]; kernel_rfl)) ?_))
      refine wpF_run 1 [(75, (vA (nodC Nod.zero)))] (wpF_step (op_v (some 76) (bo .eql 41 (.tmp 74) (.tmp 75) (vA (nodC (getN b))) (vA (nodC Nod.zero))) vT (run_eqlAgg (r := true) (T := 41) ((run_eq_nod (dd := 9995) (N := 41) (R := 36) (E := 39) (r := 35) (en := 38) (t8 := 5) (td := 33) (e := 5) (tn := 31) (t32 := 28) (t64 := 29) (getN b) Nod.zero).trans (congrArg (fun b => Result.ok b _) (show ((getN b).eqb Nod.zero) = true from (Nod.eqb_iff _ _).2 (if_neg hp1))))) ?_))
      refine wpF_run 2 [(78, vT), (77, vT)] ?_
      have hK9 := (((((hg0.ext hEw1)).ext hEw2)).chg hCw3 (fun hs => by have h : _ = _ := hs; omega))
      refine wpF_step (op_call (some 79) (c_lives13 _ hK9) ?_)
      rintro _ w11 ⟨rfl, hEw11⟩
      have hzw11 := hEw11.size
      refine wpF_run 2 [(2, vT), (80, vT)] (wpF_end (then_code (wpC_ret (body_rets vT ?_))))
      have hX8 : Ext w w11 := ((Ext.own (hEw1.trans hEw2) hCw3 (by omega)).trans hEw11)
      exact ⟨rfl, hX8⟩

theorem c_NodesGet {lo_b hi_b : Nat} {a_b : Option Addr} {n_b c_b : Nat} {b : List UInt8}  (w : World) (h_b : Bs lo_b hi_b w a_b n_b c_b b) (hg0 : Gl 0 [vI 45, vI 33] w) :
    Calls Tryd.prog 4 #[(.slice a_b n_b c_b)] w (Ret fun r w' => r = vT ∧ Ext w w') := by
  by_cases h : 200 < n_b
  · exact c_NodesGetBig w h_b h hg0
  by_cases h2 : getNE b = 0
  · exact c_NodesGetOk w h_b (by omega) h2 hg0
  · exact c_NodesGetNo w h_b (by omega) h2 hg0

end Go.Proofs.YtpcbhalagllhnaaDoor
