/- CsC4: what each function does, by its own code. No condition beyond those of each statement. -/
import Derived.Test.YthjplefmfjkhfaaDoorCsC3
namespace Go.Proofs.YthjplefmfjkhfaaDoor
open Go Go.RowKit Go.Cs
set_option maxRecDepth 100000
set_option linter.all false
set_option linter.unusedVariables false

theorem c_LOf (k : Nat) {lo_st hi_st : Nat} {a_st : Option Addr} {n_st c_st : Nat} {st : List (UInt8 × UInt8)}  (w : World) (h_st : Ms b2C 2 lo_st hi_st w a_st n_st c_st st) (hp0 : k < 65536) :
    Calls Tryd.prog 19 #[(vA [(vH k), (.slice a_st n_st c_st)])] w (Ret fun r w' => ∃ a1 ca1, r = (.tuple #[(vI (nof k)), (.slice a1 (min n_st 40 + 1) ca1)]) ∧ Ms celC 34 w.heap.size w'.heap.size w' a1 (min n_st 40 + 1) ca1 (lof (nof k) st (min n_st 40)) ∧ Ext w w') := by
  refine calls_of (n := 73) (σ := [(0, (vA [(vH k), (.slice a_st n_st c_st)]))]) Tryd.func19 rfl ?_
  replace h_st := h_st.now; have hle_st := h_st.le
  have hn1 : 1 ≤ nof k ∧ nof k ≤ 4096 := by unfold nof; omega
  have hlen := h_st.len_eq
  refine wpC_seq (wpC_region (wpF_step (op_new (some 1) (Instr.box 49 (vA [(vH k), (.slice a_st n_st c_st)])) (vP w.heap.size 0) ([(vH k), (.slice a_st n_st c_st)]) 49 ?_)))
  intro w1 hBw1 hEw1
  have hzw1 := hEw1.size; have hlw1 := hBw1.lt
  refine wpF_run 2 [(3, (.slice none 0 0)), (2, (vI 0))] (wpF_end (then_code (wpC_seq (wpC_region (wpF_run 1 [(8, (vP w.heap.size 0))] (wpF_step (op_v (some 9) (Instr.loadAt 24 (vP w.heap.size 0)) (vA [(vH k)]) (rn_lda (vs := [(vH k)]) (hBw1.at 0 [(vH k)] rfl)) ?_)))))))
  refine wpF_step (op_call (some 10) (c_NOf k _ (by omega)) ?_)
  rintro _ w2 ⟨rfl, hEw2⟩
  have hzw2 := hEw2.size
  refine wpF_run 1 [(4, (vI (nof k)))] (wpF_end (then_code (wpC_seq (wpC_region (wpF_run 1 [(11, (vI (nof k)))] (wpF_step (op_call (some 12) (c_rFresh (nof k) _ (by omega) (by omega)) ?_)))))))
  rintro _ w3 ⟨rfl, hEw3⟩
  have hzw3 := hEw3.size
  refine wpF_step (op_new (some 5) (Instr.alloc 30 true (.tuple #[])) (vP w3.heap.size 0) (celC Cel.zero) 30 ?_)
  intro w4 hBw4 hEw4
  have hzw4 := hEw4.size; have hlw4 := hBw4.lt
  refine wpF_step (op_store 30 w3.heap.size 0 30 (vA (celC (freC (nof k)))) (celC Cel.zero) (celC (freC (nof k))) hBw4 (by rw [celC_len]; kernel_rfl) (by first | (simp; done) | (simp; omega)) (celC_one _) ?_)
  intro w5 hBw5 hCw5
  have hzw5 := hCw5.size
  rw [setFrom_all _ _ (by simp)] at hBw5
  refine wpF_end (then_code (wpC_seq (wpC_region (wpF_step (op_v (some 13) (Instr.loadAt 30 (vP w3.heap.size 0)) (vA (celC (freC (nof k)))) (rn_lda (vs := celC (freC (nof k))) (hBw5.all) (by rw [celC_len]; kernel_rfl)) ?_)))))
  refine wpF_step (op_new (some 14) (Instr.buildSlice 51 1 #[(0, (vA (celC (freC (nof k)))))]) (.slice (pA w5.heap.size 0) 1 1) (([(freC (nof k))] : List Cel).flatMap celC) 30 ?_ (hr := run_bsM (f := celC) (sz := 34) (z := (vA (celC Cel.zero))) [(freC (nof k))] celC_len (by decide) rfl (Nat.succ_pos _) (show 34 ≤ 2 ^ 24 from by decide) rfl))
  intro w6 hBw6 hEw6
  have hzw6 := hEw6.size; have hlw6 := hBw6.lt
  have hmw6 : Ms celC 34 w5.heap.size (w5.heap.size + 1) w6 (pA w5.heap.size 0) 1 1 [(freC (nof k))] := Ms.of_pre (r := []) (by rw [List.append_nil]; exact hBw6) celC_len rfl (Nat.le_refl _) (by decide) (Nat.le_refl _) (Nat.lt_succ_self _)
  refine wpF_run 1 [(6, (.slice (pA w5.heap.size 0) 1 1))] (wpF_end (then_code (wpC_seq (wpC_seq (wpC_region (wpF_run 1 [(7, (vI 0))] (wpF_end (then_code (wpC_block ?_)))))))))
  have hO1 : OwM celC 34 w5.heap.size (w5.heap.size + 1) w6 (pA w5.heap.size 0) 1 1 30 ([(freC (nof k))]) := OwM.of_full hBw6 celC_len rfl (by simp only [maxLen]; omega) (Nat.le_refl _) (Nat.lt_succ_self _)
  have hK1 := (((((((((hBw1.ext hEw2)).ext hEw3)).ext hEw4)).chg hCw5 (fun hs => by have h : _ = _ := hs; omega))).ext hEw6)
  have hK2 := (((((((((((h_st.ext hEw1)).ext hEw2)).ext hEw3)).ext hEw4)).chg hCw5 (fun k h1 h2 hs => by have h : k = _ := hs; omega))).ext hEw6)
  have hX1 : Ext w w6 := ((Ext.own (((hEw1.trans hEw2).trans hEw3).trans hEw4) hCw5 (by omega)).trans hEw6)
  refine wpC_loop (X := Nat × Option Addr × Nat) (fun ⟨t, ao, cp⟩ => [(6, (.slice ao (t + 1) cp)), (7, (vI t))]) [15, 16, 17, 18, 19, 20, 21, 22, 23, 24, 25, 26, 27, 28, 29, 30, 31, 32, 33, 34, 35, 36, 37, 38, 39, 40, 41, 42, 43, 44, 45, 46, 47, 48, 49, 50, 51, 52, 53, 54, 55, 56, 57, 58, 59, 60, 61, 62, 63, 64, 65, 66, 67, 68, 69, 70] (fun ⟨t, ao, cp⟩ w7 => w5.heap.size ≤ w7.heap.size ∧ t ≤ min n_st 40 ∧ Blk w7 w.heap.size [(vH k), (.slice a_st n_st c_st)] 49 ∧ Ms b2C 2 lo_st w.heap.size w7 a_st n_st c_st st ∧ Blk w7 w3.heap.size (celC (lok (nof k) st t)) 30 ∧ OwM celC 34 w5.heap.size w7.heap.size w7 ao (t + 1) cp 30 (lof (nof k) st t) ∧ Ext w w7) (fun ⟨t, ao, cp⟩ => 40 - t) (0, (pA w5.heap.size 0), 1) (by kernel_rfl) ⟨by omega, by omega, hK1, hK2, (hBw5.ext hEw6), (hO1).mono (by omega) (by omega), hX1⟩ ?_
  rintro ⟨t, ao, cp⟩ dw7 w7 ⟨hlo0, ht, hB1, hMs, hB5, hOw, hEw⟩
  have hzl := hEw.size; have hl1 := hB1.lt; have hl5 := hB5.lt
  have hlo := hOw.ms.le
  have hx1 := (st.getD t (0, 0)).1.toNat_lt; have hx2 := (st.getD t (0, 0)).2.toNat_lt
  refine wpC_seq (wpC_seq (wpC_region (wpF_run 2 [(16, (vP w.heap.size 1)), (15, (vI t))] (wpF_step (op_v (some 17) (Instr.loadAt 47 (vP w.heap.size 1)) (.slice a_st n_st c_st) (rn_ld (hB1.cell rfl)) ?_)))))
  refine wpF_run 1 [(18, (vI n_st))] (wpF_step (op_split (some 19) (decide (((t : Nat) : Int) < ((n_st : Nat) : Int))) (fun hc19 => ?_) (fun hc19 => ?_)))
  · replace hc19 : t < n_st := by have := of_d_t hc19; omega
    refine wpF_run 2 [(21, (vI t)), (20, vT)] (wpF_step (op_split (some 22) (decide (((t : Nat) : Int) < ((40 : Nat) : Int))) (fun hc22 => ?_) (fun hc22 => ?_)))
    · replace hc22 : t < 40 := by have := of_d_t hc22; omega
      refine wpF_run 1 [(23, vT)] (wpF_end (then_code (wpC_true (wpC_skip (then_code (wpC_seq (wpC_block (wpC_seq (wpC_seq ?_)))))))))
      refine wpC_region (wpF_run 1 [(26, (vP w.heap.size 1))] (wpF_step (op_v (some 27) (Instr.loadAt 47 (vP w.heap.size 1)) (.slice a_st n_st c_st) (rn_ld (hB1.cell rfl)) ?_)))
      refine wpF_run 1 [(28, (vI t))] ?_
      obtain ⟨b1, o1, rfl⟩ := hMs.addr (by omega) (by decide)
      refine wpF_step (op_v (some 29) (Instr.indexAt 47 (.slice (pA b1 o1) n_st c_st) (vI t)) (vP b1 (o1 + t * 2)) (rn_ixs (E := 50) (sz := 2) (by omega)) ?_)
      refine wpF_step (op_v (some 30) (Instr.indexAt 50 (vP b1 (o1 + t * 2)) (vI 0)) (vP b1 (o1 + t * 2)) (rn_ixa (E := 5) (sz := 1) (m := 2) (by omega)) ?_)
      refine wpF_step (op_v (some 31) (Instr.loadAt 5 (vP b1 (o1 + t * 2))) (vB ((st.getD t (0, 0)).1.toNat)) (rn_ld (hMs.cell (j := 0) (0, 0) (by omega) rfl)) ?_)
      refine wpF_step (op_in (some 32) .u8 ((((st.getD t (0, 0)).1.toNat : Nat) : Int).tmod ((2 : Nat) : Int)) (((st.getD t (0, 0)).1.toNat) % 2) (tmodN _ _) ?_)
      refine wpF_step (op_split (some 33) ((((((st.getD t (0, 0)).1.toNat) % 2 : Nat) : Int) == ((1 : Nat) : Int))) (fun hc33 => ?_) (fun hc33 => ?_))
      · replace hc33 : ((st.getD t (0, 0)).1.toNat) % 2 = 1 := by have := of_eq_t hc33; omega
        refine wpF_end (then_code (wpC_true (wpC_seq (wpC_region (wpF_run 1 [(34, (vP w3.heap.size 32))] (wpF_step (op_v (some 35) (Instr.loadAt 28 (vP w3.heap.size 32)) (vQ ((lok (nof k) st t).ep)) (rn_ld (hB5.cell (cel_ep _))) ?_)))))))
        refine wpF_step (op_in (some 36) .u64 (IntKind.u64.wrap ((((lok (nof k) st t).ep : Nat) : Int) + ((1 : Nat) : Int))) (((lok (nof k) st t).ep + 1) % 2 ^ 64) (wrapU rfl (by simp)) ?_)
        refine wpF_run 1 [(37, (vP w3.heap.size 32))] (wpF_step (op_store1 28 w3.heap.size 32 30 (vQ (((lok (nof k) st t).ep + 1) % 2 ^ 64)) (celC (lok (nof k) st t)) hB5 (by first | decide | (simp; done) | (simp; omega)) ?_))
        intro w8 hBw8 hCw8
        have hzw8 := hCw8.size
        rw [show ((celC (lok (nof k) st t)).set 32 (vQ (((lok (nof k) st t).ep + 1) % 2 ^ 64)) : List Value) = celC ((lok (nof k) st t).setEp (((lok (nof k) st t).ep + 1) % 2 ^ 64) (Nat.mod_lt _ (by decide))) from cel_setEp (Nat.mod_lt _ (by decide))] at hBw8
        refine wpF_end (then_code (wpC_region (wpF_run 1 [(38, (vP w.heap.size 1))] (wpF_step (op_v (some 39) (Instr.loadAt 47 (vP w.heap.size 1)) (.slice (pA b1 o1) n_st c_st) (rn_ld (((hB1).chg hCw8 (fun hs => by have h : _ = _ := hs; omega)).cell rfl)) ?_)))))
        refine wpF_run 1 [(40, (vI t))] (wpF_step (op_v (some 41) (Instr.indexAt 47 (.slice (pA b1 o1) n_st c_st) (vI t)) (vP b1 (o1 + t * 2)) (rn_ixs (E := 50) (sz := 2) (by omega)) ?_))
        refine wpF_step (op_v (some 42) (Instr.indexAt 50 (vP b1 (o1 + t * 2)) (vI 1)) (vP b1 (o1 + t * 2 + 1)) (rn_ixa (E := 5) (sz := 1) (m := 2) (by omega)) ?_)
        refine wpF_step (op_v (some 43) (Instr.loadAt 5 (vP b1 (o1 + t * 2 + 1))) (vB ((st.getD t (0, 0)).2.toNat)) (rn_ld (((hMs).chg hCw8 (fun k h1 h2 hs => by have h : k = _ := hs; omega)).cell (j := 1) (0, 0) (by omega) rfl)) ?_)
        refine wpF_step (op_call (some 44) (c_mkD ((st.getD t (0, 0)).2.toNat) _ (by omega)) ?_)
        rintro _ w9 ⟨rfl, hEw9⟩
        have hzw9 := hEw9.size
        refine wpF_run 1 [(45, (vP w3.heap.size 0))] (wpF_step (op_store 27 w3.heap.size 0 30 (vA (digC (mkD ((st.getD t (0, 0)).2.toNat)))) (celC ((lok (nof k) st t).setEp (((lok (nof k) st t).ep + 1) % 2 ^ 64) (Nat.mod_lt _ (by decide)))) (digC (mkD ((st.getD t (0, 0)).2.toNat))) (hBw8.ext hEw9) (by rw [digC_len]; kernel_rfl) (by first | (simp; done) | (simp; omega)) (digC_one _) ?_))
        intro w10 hBw10 hCw10
        have hzw10 := hCw10.size
        rw [show (setFrom (celC ((lok (nof k) st t).setEp (((lok (nof k) st t).ep + 1) % 2 ^ 64) (Nat.mod_lt _ (by decide)))) 0 (digC (mkD ((st.getD t (0, 0)).2.toNat))) : List Value) = celC (((lok (nof k) st t).setEp (((lok (nof k) st t).ep + 1) % 2 ^ 64) (Nat.mod_lt _ (by decide))).setRoot (mkD ((st.getD t (0, 0)).2.toNat))) from cel_setRoot] at hBw10
        refine wpF_end (then_code (wpC_region (wpF_run 1 [(67, (.slice ao (t + 1) cp))] (wpF_step (op_v (some 68) (Instr.loadAt 30 (vP w3.heap.size 0)) (vA (celC (((lok (nof k) st t).setEp (((lok (nof k) st t).ep + 1) % 2 ^ 64) (Nat.mod_lt _ (by decide))).setRoot (mkD ((st.getD t (0, 0)).2.toNat))))) (rn_lda (vs := celC (((lok (nof k) st t).setEp (((lok (nof k) st t).ep + 1) % 2 ^ 64) (Nat.mod_lt _ (by decide))).setRoot (mkD ((st.getD t (0, 0)).2.toNat)))) (hBw10.all) (by rw [celC_len]; kernel_rfl)) ?_)))))
        refine wpF_step (op_new (some 69) (Instr.buildSlice 51 1 #[(0, (vA (celC (((lok (nof k) st t).setEp (((lok (nof k) st t).ep + 1) % 2 ^ 64) (Nat.mod_lt _ (by decide))).setRoot (mkD ((st.getD t (0, 0)).2.toNat))))))]) (.slice (pA w10.heap.size 0) 1 1) (([(((lok (nof k) st t).setEp (((lok (nof k) st t).ep + 1) % 2 ^ 64) (Nat.mod_lt _ (by decide))).setRoot (mkD ((st.getD t (0, 0)).2.toNat)))] : List Cel).flatMap celC) 30 ?_ (hr := run_bsM (f := celC) (sz := 34) (z := (vA (celC Cel.zero))) [(((lok (nof k) st t).setEp (((lok (nof k) st t).ep + 1) % 2 ^ 64) (Nat.mod_lt _ (by decide))).setRoot (mkD ((st.getD t (0, 0)).2.toNat)))] celC_len (by decide) rfl (Nat.succ_pos _) (show 34 ≤ 2 ^ 24 from by decide) rfl))
        intro w11 hBw11 hEw11
        have hzw11 := hEw11.size; have hlw11 := hBw11.lt
        have hmw11 : Ms celC 34 w10.heap.size (w10.heap.size + 1) w11 (pA w10.heap.size 0) 1 1 [(((lok (nof k) st t).setEp (((lok (nof k) st t).ep + 1) % 2 ^ 64) (Nat.mod_lt _ (by decide))).setRoot (mkD ((st.getD t (0, 0)).2.toNat)))] := Ms.of_pre (r := []) (by rw [List.append_nil]; exact hBw11) celC_len rfl (Nat.le_refl _) (by decide) (Nat.le_refl _) (Nat.lt_succ_self _)
        have hK3 := ((((((((hOw).chg hCw8 (fun k h1 h2 hs => by have h : k = _ := hs; omega))).ext hEw9)).chg hCw10 (fun k h1 h2 hs => by have h : k = _ := hs; omega))).ext hEw11)
        refine wpF_step (op_appendM (some 70) 51 51 30 48 (vA (celC Cel.zero)) hK3 hmw11 celC_one ?_ (by rw [Value.cells, List.size_toArray, celC_len]) (by decide))
        intro a1 c1 w12 hOw12 hCw12
        have hzw12 := hCw12.size
        have hSw12 := hOw12.ms; have hlea1 := hSw12.le
        refine wpF_run 1 [(6, (.slice a1 (t + 1 + 1) c1))] (wpF_end (inBlock_normal (then_code (wpC_region (wpF_run 1 [(24, (vI t))] (wpF_step (op_in (some 25) .i64 (IntKind.i64.wrap (((t : Nat) : Int) + ((1 : Nat) : Int))) (t + 1) (wrapS (by omega) (by omega) (by omega)) ?_)))))))
        refine wpF_run 1 [(7, (vI (t + 1)))] (wpF_end (then_normal ?_))
        have hst : (((lok (nof k) st t).setEp (((lok (nof k) st t).ep + 1) % 2 ^ 64) (Nat.mod_lt _ (by decide))).setRoot (mkD ((st.getD t (0, 0)).2.toNat))) = lok (nof k) st (t + 1) := by rw [lok_succ (by omega)]; unfold lst; rw [if_pos (by omega)]; rfl
        have hK4 := ((((((((hOw).chg hCw8 (fun k h1 h2 hs => by have h : k = _ := hs; omega))).ext hEw9)).chg hCw10 (fun k h1 h2 hs => by have h : k = _ := hs; omega))).ext hEw11)
        have hK5 := ((((((((((hB1).chg hCw8 (fun hs => by have h : _ = _ := hs; omega))).ext hEw9)).chg hCw10 (fun hs => by have h : _ = _ := hs; omega))).ext hEw11)).chg hCw12 (fun hs => by have hn := hK4.ne hs; omega))
        have hK6 := ((((((((hOw).chg hCw8 (fun k h1 h2 hs => by have h : k = _ := hs; omega))).ext hEw9)).chg hCw10 (fun k h1 h2 hs => by have h : k = _ := hs; omega))).ext hEw11)
        have hK7 := ((((((((((hMs).chg hCw8 (fun k h1 h2 hs => by have h : k = _ := hs; omega))).ext hEw9)).chg hCw10 (fun k h1 h2 hs => by have h : k = _ := hs; omega))).ext hEw11)).chg hCw12 (fun k h1 h2 hs => by have hn := hK6.ne hs; omega))
        have hK8 := ((((((((hOw).chg hCw8 (fun k h1 h2 hs => by have h : k = _ := hs; omega))).ext hEw9)).chg hCw10 (fun k h1 h2 hs => by have h : k = _ := hs; omega))).ext hEw11)
        have hK9 := ((((((((hOw).chg hCw8 (fun k h1 h2 hs => by have h : k = _ := hs; omega))).ext hEw9)).chg hCw10 (fun k h1 h2 hs => by have h : k = _ := hs; omega))).ext hEw11)
        have hX2 : Ext w w12 := (Ext.ownS ((Ext.own ((Ext.own hEw hCw8 (by omega)).trans hEw9) hCw10 (by omega)).trans hEw11) hCw12 (fun k hs hk => by have hn := hK9.ne hs; omega))
        refine endR_mk (t + 1, a1, c1) ?_ ?_
        · exact ⟨by omega, by omega, hK5, hK7, hst ▸ (((hBw10.ext hEw11)).chg hCw12 (fun hs => by have hn := hK8.ne hs; omega)), by rw [lof_succ, ← hst]; exact (hOw12).now, hX2⟩
        · first | omega | (dsimp only; omega)
      · replace hc33 : ¬ (((st.getD t (0, 0)).1.toNat) % 2 = 1) := by have := of_eq_f hc33; omega
        refine wpF_end (then_code (wpC_false (wpC_drawM (Chg (fun k => k = w3.heap.size) w7.drew) 22 [(47, 32, 0), (48, 70368744177664, 1), (49, 2, 0), (50, 281474976710656, 4), (51, 128, 0), (52, 1688849860263936, 24), (53, 2251799813685248, 32), (54, 4503599627370496, 64), (55, 9007199254740992, 128), (56, 2, 0), (57, 36028797018963968, 512), (58, 128, 0), (59, 216172782113783808, 3072), (60, 288230376151711744, 4096), (61, 576460752303423488, 8192), (62, 1152921504606846976, 16384), (63, 2305843009213693952, 32768), (64, 4629700416936869888, 65792), (65, 9223372036854775808, 131072), (66, 18446884811197906944, 262146), (67, 32, 1048575), (0, 110680464442257309696, 2097151)] (fun hT166 => ?_))))
        have hEw13 : Ext w7 w7.drew := Ext.drew w7
        generalize w7.drew = w13 at hEw13 ⊢
        have hzw13 := hEw13.size
        refine anyM_run (hw := show Chg (fun k => k = w3.heap.size) w13 w13 from (Chg.refl (fun k => k = w3.heap.size) w13)) hT166 [(0, 46, (vP w3.heap.size 33)), (2, 48, (vP w.heap.size 1))] 2 5 (anyM_take (hw := show Chg (fun k => k = w3.heap.size) w13 w13 from (Chg.refl (fun k => k = w3.heap.size) w13)) hT166 3 13 (some 49) (.slice (pA b1 o1) n_st c_st) (yld_val (Instr.loadAt 47 (vP w.heap.size 1)) (fun w' hC => rn_ld (((hB1.ext hEw13).chg hC (fun hs => by have h : _ = _ := hs; omega)).cell rfl))) (anyM_run (hw := show Chg (fun k => k = w3.heap.size) w13 w13 from (Chg.refl (fun k => k = w3.heap.size) w13)) hT166 [(4, 50, (vI t))] 1 29 (anyM_take (hw := show Chg (fun k => k = w3.heap.size) w13 w13 from (Chg.refl (fun k => k = w3.heap.size) w13)) hT166 5 61 (some 51) (vP b1 (o1 + t * 2)) (yld_val (Instr.indexAt 47 (.slice (pA b1 o1) n_st c_st) (vI t)) (fun w' hC => rn_ixs (E := 50) (sz := 2) (by omega))) (anyM_take (hw := show Chg (fun k => k = w3.heap.size) w13 w13 from (Chg.refl (fun k => k = w3.heap.size) w13)) hT166 6 125 (some 52) (vP b1 (o1 + t * 2 + 1)) (yld_val (Instr.indexAt 50 (vP b1 (o1 + t * 2)) (vI 1)) (fun w' hC => rn_ixa (E := 5) (sz := 1) (m := 2) (by omega))) (anyM_take (hw := show Chg (fun k => k = w3.heap.size) w13 w13 from (Chg.refl (fun k => k = w3.heap.size) w13)) hT166 7 253 (some 53) (vB ((st.getD t (0, 0)).2.toNat)) (yld_val (Instr.loadAt 5 (vP b1 (o1 + t * 2 + 1))) (fun w' hC => rn_ld (((hMs.ext hEw13).chg hC (fun k h1 h2 hs => by have h : _ = _ := hs; omega)).cell (j := 1) (0, 0) (by omega) rfl))) ?_)))))
        refine anyM_take (hw := show Chg (fun k => k = w3.heap.size) w13 w13 from (Chg.refl (fun k => k = w3.heap.size) w13)) hT166 8 509 (some 54) (vQ ((st.getD t (0, 0)).2.toNat)) (yld_in .u64 (IntKind.u64.wrap (((st.getD t (0, 0)).2.toNat : Nat) : Int)) (wrapUx rfl rfl (by show _ < 2 ^ 64; omega))) (anyM_run (hw := show Chg (fun k => k = w3.heap.size) w13 w13 from (Chg.refl (fun k => k = w3.heap.size) w13)) hT166 [(9, 55, (vP w.heap.size 1))] 1 1021 (anyM_take (hw := show Chg (fun k => k = w3.heap.size) w13 w13 from (Chg.refl (fun k => k = w3.heap.size) w13)) hT166 10 2045 (some 56) (.slice (pA b1 o1) n_st c_st) (yld_val (Instr.loadAt 47 (vP w.heap.size 1)) (fun w' hC => rn_ld (((hB1.ext hEw13).chg hC (fun hs => by have h : _ = _ := hs; omega)).cell rfl))) (anyM_run (hw := show Chg (fun k => k = w3.heap.size) w13 w13 from (Chg.refl (fun k => k = w3.heap.size) w13)) hT166 [(11, 57, (vI t))] 1 4093 (anyM_take (hw := show Chg (fun k => k = w3.heap.size) w13 w13 from (Chg.refl (fun k => k = w3.heap.size) w13)) hT166 12 8189 (some 58) (vP b1 (o1 + t * 2)) (yld_val (Instr.indexAt 47 (.slice (pA b1 o1) n_st c_st) (vI t)) (fun w' hC => rn_ixs (E := 50) (sz := 2) (by omega))) (anyM_take (hw := show Chg (fun k => k = w3.heap.size) w13 w13 from (Chg.refl (fun k => k = w3.heap.size) w13)) hT166 13 16381 (some 59) (vP b1 (o1 + t * 2)) (yld_val (Instr.indexAt 50 (vP b1 (o1 + t * 2)) (vI 0)) (fun w' hC => rn_ixa (E := 5) (sz := 1) (m := 2) (by omega))) ?_)))))
        refine anyM_take (hw := show Chg (fun k => k = w3.heap.size) w13 w13 from (Chg.refl (fun k => k = w3.heap.size) w13)) hT166 14 32765 (some 60) (vB ((st.getD t (0, 0)).1.toNat)) (yld_val (Instr.loadAt 5 (vP b1 (o1 + t * 2))) (fun w' hC => rn_ld (((hMs.ext hEw13).chg hC (fun k h1 h2 hs => by have h : _ = _ := hs; omega)).cell (j := 0) (0, 0) (by omega) rfl))) (anyM_take (hw := show Chg (fun k => k = w3.heap.size) w13 w13 from (Chg.refl (fun k => k = w3.heap.size) w13)) hT166 15 65533 (some 61) (vB (((st.getD t (0, 0)).1.toNat) / 2)) (yld_in .u8 (IntKind.u8.wrap ((((st.getD t (0, 0)).1.toNat : Nat) : Int).tdiv ((2 : Nat) : Int))) (wrapUx rfl (tdivN _ _) (by show _ < 2 ^ 8; omega))) (anyM_take (hw := show Chg (fun k => k = w3.heap.size) w13 w13 from (Chg.refl (fun k => k = w3.heap.size) w13)) hT166 16 131069 (some 62) (vB ((((st.getD t (0, 0)).1.toNat) / 2) % 40)) (yld_in .u8 (((((st.getD t (0, 0)).1.toNat) / 2 : Nat) : Int).tmod ((40 : Nat) : Int)) (tmodN _ _)) (anyM_take (hw := show Chg (fun k => k = w3.heap.size) w13 w13 from (Chg.refl (fun k => k = w3.heap.size) w13)) hT166 17 262141 (some 63) (vQ (((st.getD t (0, 0)).2.toNat) * 2 ^ ((((st.getD t (0, 0)).1.toNat) / 2) % 40) % 2 ^ 64)) (yld_val (bo .shl 28 (.tmp 54) (.tmp 62) (vQ ((st.getD t (0, 0)).2.toNat)) (vB ((((st.getD t (0, 0)).1.toNat) / 2) % 40))) (fun w' hC => run_shl rfl (by show _ ≤ 64; omega))) ?_)))
        refine anyM_take (hw := show Chg (fun k => k = w3.heap.size) w13 w13 from (Chg.refl (fun k => k = w3.heap.size) w13)) hT166 18 524285 (some 64) (vQ ((1 + ((st.getD t (0, 0)).2.toNat) * 2 ^ ((((st.getD t (0, 0)).1.toNat) / 2) % 40) % 2 ^ 64) % 2 ^ 64)) (yld_in .u64 (IntKind.u64.wrap (((1 : Nat) : Int) + ((((st.getD t (0, 0)).2.toNat) * 2 ^ ((((st.getD t (0, 0)).1.toNat) / 2) % 40) % 2 ^ 64 : Nat) : Int))) (wrapU rfl (by simp))) (anyM_one 1 524287 (op_v (some 47) (Instr.loadAt 28 (vP w3.heap.size 33)) (vQ ((lok (nof k) st t).mark)) (rn_ld ((hB5.ext hEw13).cell (cel_mk _))) ?_))
        refine ⟨.inr (Chg.refl (fun k => k = w3.heap.size) w13), ?_⟩
        refine anyM_take (hw := show Chg (fun k => k = w3.heap.size) w13 w13 from (Chg.refl (fun k => k = w3.heap.size) w13)) hT166 19 1048575 (some 65) (vQ (((lok (nof k) st t).mark + (1 + ((st.getD t (0, 0)).2.toNat) * 2 ^ ((((st.getD t (0, 0)).1.toNat) / 2) % 40) % 2 ^ 64) % 2 ^ 64) % 2 ^ 64)) (yld_in .u64 (IntKind.u64.wrap ((((lok (nof k) st t).mark : Nat) : Int) + (((1 + ((st.getD t (0, 0)).2.toNat) * 2 ^ ((((st.getD t (0, 0)).1.toNat) / 2) % 40) % 2 ^ 64) % 2 ^ 64 : Nat) : Int))) (wrapU rfl (by simp))) (anyM_run (hw := show Chg (fun k => k = w3.heap.size) w13 w13 from (Chg.refl (fun k => k = w3.heap.size) w13)) hT166 [(20, 66, (vP w3.heap.size 33))] 1 2097151 (anyM_one 21 4194303 (op_store1 28 w3.heap.size 33 30 (vQ (((lok (nof k) st t).mark + (1 + ((st.getD t (0, 0)).2.toNat) * 2 ^ ((((st.getD t (0, 0)).1.toNat) / 2) % 40) % 2 ^ 64) % 2 ^ 64) % 2 ^ 64)) (celC (lok (nof k) st t)) (hB5.ext hEw13) (by first | decide | (simp; done) | (simp; omega)) ?_)))
        intro w14 hBw14 hCw14
        have hzw14 := hCw14.size
        rw [show ((celC (lok (nof k) st t)).set 33 (vQ (((lok (nof k) st t).mark + (1 + ((st.getD t (0, 0)).2.toNat) * 2 ^ ((((st.getD t (0, 0)).1.toNat) / 2) % 40) % 2 ^ 64) % 2 ^ 64) % 2 ^ 64)) : List Value) = celC ((lok (nof k) st t).setMark (((lok (nof k) st t).mark + (1 + ((st.getD t (0, 0)).2.toNat) * 2 ^ ((((st.getD t (0, 0)).1.toNat) / 2) % 40) % 2 ^ 64) % 2 ^ 64) % 2 ^ 64) (Nat.mod_lt _ (by decide))) from cel_setMark (Nat.mod_lt _ (by decide))] at hBw14
        refine ⟨.inl (by kernel_rfl), ?_⟩
        refine anyM_done (then_code (wpC_region (wpF_run 1 [(67, (.slice ao (t + 1) cp))] (wpF_step (op_v (some 68) (Instr.loadAt 30 (vP w3.heap.size 0)) (vA (celC ((lok (nof k) st t).setMark (((lok (nof k) st t).mark + (1 + ((st.getD t (0, 0)).2.toNat) * 2 ^ ((((st.getD t (0, 0)).1.toNat) / 2) % 40) % 2 ^ 64) % 2 ^ 64) % 2 ^ 64) (Nat.mod_lt _ (by decide))))) (rn_lda (vs := celC ((lok (nof k) st t).setMark (((lok (nof k) st t).mark + (1 + ((st.getD t (0, 0)).2.toNat) * 2 ^ ((((st.getD t (0, 0)).1.toNat) / 2) % 40) % 2 ^ 64) % 2 ^ 64) % 2 ^ 64) (Nat.mod_lt _ (by decide)))) (hBw14.all) (by rw [celC_len]; kernel_rfl)) ?_)))))
        refine wpF_step (op_new (some 69) (Instr.buildSlice 51 1 #[(0, (vA (celC ((lok (nof k) st t).setMark (((lok (nof k) st t).mark + (1 + ((st.getD t (0, 0)).2.toNat) * 2 ^ ((((st.getD t (0, 0)).1.toNat) / 2) % 40) % 2 ^ 64) % 2 ^ 64) % 2 ^ 64) (Nat.mod_lt _ (by decide))))))]) (.slice (pA w14.heap.size 0) 1 1) (([((lok (nof k) st t).setMark (((lok (nof k) st t).mark + (1 + ((st.getD t (0, 0)).2.toNat) * 2 ^ ((((st.getD t (0, 0)).1.toNat) / 2) % 40) % 2 ^ 64) % 2 ^ 64) % 2 ^ 64) (Nat.mod_lt _ (by decide)))] : List Cel).flatMap celC) 30 ?_ (hr := run_bsM (f := celC) (sz := 34) (z := (vA (celC Cel.zero))) [((lok (nof k) st t).setMark (((lok (nof k) st t).mark + (1 + ((st.getD t (0, 0)).2.toNat) * 2 ^ ((((st.getD t (0, 0)).1.toNat) / 2) % 40) % 2 ^ 64) % 2 ^ 64) % 2 ^ 64) (Nat.mod_lt _ (by decide)))] celC_len (by decide) rfl (Nat.succ_pos _) (show 34 ≤ 2 ^ 24 from by decide) rfl))
        intro w15 hBw15 hEw15
        have hzw15 := hEw15.size; have hlw15 := hBw15.lt
        have hmw15 : Ms celC 34 w14.heap.size (w14.heap.size + 1) w15 (pA w14.heap.size 0) 1 1 [((lok (nof k) st t).setMark (((lok (nof k) st t).mark + (1 + ((st.getD t (0, 0)).2.toNat) * 2 ^ ((((st.getD t (0, 0)).1.toNat) / 2) % 40) % 2 ^ 64) % 2 ^ 64) % 2 ^ 64) (Nat.mod_lt _ (by decide)))] := Ms.of_pre (r := []) (by rw [List.append_nil]; exact hBw15) celC_len rfl (Nat.le_refl _) (by decide) (Nat.le_refl _) (Nat.lt_succ_self _)
        have hK10 := (((((hOw.ext hEw13)).chg hCw14 (fun k h1 h2 hs => by have h : k = _ := hs; omega))).ext hEw15)
        refine wpF_step (op_appendM (some 70) 51 51 30 48 (vA (celC Cel.zero)) hK10 hmw15 celC_one ?_ (by rw [Value.cells, List.size_toArray, celC_len]) (by decide))
        intro a2 c2 w16 hOw16 hCw16
        have hzw16 := hCw16.size
        have hSw16 := hOw16.ms; have hlea2 := hSw16.le
        refine wpF_run 1 [(6, (.slice a2 (t + 1 + 1) c2))] (wpF_end (inBlock_normal (then_code (wpC_region (wpF_run 1 [(24, (vI t))] (wpF_step (op_in (some 25) .i64 (IntKind.i64.wrap (((t : Nat) : Int) + ((1 : Nat) : Int))) (t + 1) (wrapS (by omega) (by omega) (by omega)) ?_)))))))
        refine wpF_run 1 [(7, (vI (t + 1)))] (wpF_end (then_normal ?_))
        have hst : ((lok (nof k) st t).setMark (((lok (nof k) st t).mark + (1 + ((st.getD t (0, 0)).2.toNat) * 2 ^ ((((st.getD t (0, 0)).1.toNat) / 2) % 40) % 2 ^ 64) % 2 ^ 64) % 2 ^ 64) (Nat.mod_lt _ (by decide))) = lok (nof k) st (t + 1) := by rw [lok_succ (by omega)]; unfold lst; rw [if_neg (by omega)]; rfl
        have hK11 := (((((hOw.ext hEw13)).chg hCw14 (fun k h1 h2 hs => by have h : k = _ := hs; omega))).ext hEw15)
        have hK12 := (((((((hB1.ext hEw13)).chg hCw14 (fun hs => by have h : _ = _ := hs; omega))).ext hEw15)).chg hCw16 (fun hs => by have hn := hK11.ne hs; omega))
        have hK13 := (((((hOw.ext hEw13)).chg hCw14 (fun k h1 h2 hs => by have h : k = _ := hs; omega))).ext hEw15)
        have hK14 := (((((((hMs.ext hEw13)).chg hCw14 (fun k h1 h2 hs => by have h : k = _ := hs; omega))).ext hEw15)).chg hCw16 (fun k h1 h2 hs => by have hn := hK13.ne hs; omega))
        have hK15 := (((((hOw.ext hEw13)).chg hCw14 (fun k h1 h2 hs => by have h : k = _ := hs; omega))).ext hEw15)
        have hK16 := (((((hOw.ext hEw13)).chg hCw14 (fun k h1 h2 hs => by have h : k = _ := hs; omega))).ext hEw15)
        have hX3 : Ext w w16 := (Ext.ownS ((Ext.own (hEw.trans hEw13) hCw14 (by omega)).trans hEw15) hCw16 (fun k hs hk => by have hn := hK16.ne hs; omega))
        refine endR_mk (t + 1, a2, c2) ?_ ?_
        · exact ⟨by omega, by omega, hK12, hK14, hst ▸ (((hBw14.ext hEw15)).chg hCw16 (fun hs => by have hn := hK15.ne hs; omega)), by rw [lof_succ, ← hst]; exact (hOw16).now, hX3⟩
        · first | omega | (dsimp only; omega)
    · replace hc22 : ¬ (t < 40) := by have := of_d_f hc22; omega
      refine wpF_run 1 [(23, vF)] (wpF_end (then_code (wpC_false (wpC_exit (then_exit (then_exit (inBlock_exit (then_code (wpC_seq ?_)))))))))
      refine wpC_region (wpF_run 4 [(3, (.slice ao (t + 1) cp)), (2, (vI (nof k))), (72, (.slice ao (t + 1) cp)), (71, (vI (nof k)))] (wpF_end (then_code (wpC_ret (body_rets (.tuple #[(vI (nof k)), (.slice ao (t + 1) cp)]) ?_)))))
      obtain rfl : t = min n_st 40 := by omega
      exact ⟨_, _, rfl, (hOw).ms.mono (by omega) (by omega), hEw⟩
  · replace hc19 : ¬ (t < n_st) := by have := of_d_f hc19; omega
    refine wpF_run 4 [(23, vF), (22, undef), (21, undef), (20, vF)] (wpF_end (then_code (wpC_false (wpC_exit (then_exit (then_exit (inBlock_exit (then_code (wpC_seq ?_)))))))))
    refine wpC_region (wpF_run 4 [(3, (.slice ao (t + 1) cp)), (2, (vI (nof k))), (72, (.slice ao (t + 1) cp)), (71, (vI (nof k)))] (wpF_end (then_code (wpC_ret (body_rets (.tuple #[(vI (nof k)), (.slice ao (t + 1) cp)]) ?_)))))
    obtain rfl : t = min n_st 40 := by omega
    exact ⟨_, _, rfl, (hOw).ms.mono (by omega) (by omega), hEw⟩

theorem c_r15   (w : World)  :
    Calls Tryd.prog 24 #[] w (Ret fun r w' => r = (vA (digC (mkD 1))) ∧ Ext w w') := by
  refine calls_of (n := 2) (σ := []) Tryd.func24 rfl ?_
  refine wpC_seq (wpC_region (wpF_step (op_new (some 0) (Instr.alloc 27 true (.tuple #[])) (vP w.heap.size 0) (digC Dig.zero) 27 ?_)))
  intro w1 hBw1 hEw1
  have hzw1 := hEw1.size; have hlw1 := hBw1.lt
  refine wpF_end (then_code (wpC_seq (wpC_region (wpF_step (op_call (some 1) (c_mkD 1 _ (by decide)) ?_)))))
  rintro _ w2 ⟨rfl, hEw2⟩
  have hzw2 := hEw2.size
  refine wpF_step (op_store 27 w.heap.size 0 27 (vA (digC (mkD 1))) (digC Dig.zero) (digC (mkD 1)) (hBw1.ext hEw2) (by rw [digC_len]; kernel_rfl) (by first | (simp; done) | (simp; omega)) (digC_one _) ?_)
  intro w3 hBw3 hCw3
  have hzw3 := hCw3.size
  rw [setFrom_all _ _ (by simp)] at hBw3
  exact wpF_end (then_code (wpC_ret (body_ret1 (show resVal Tryd.prog 2 _ _ (.cell 0 27) (vA (digC (mkD 1))) from ⟨⟨w.heap.size, 0, none⟩, (by kernel_rfl), run_loadVar_agg (T := 27) (vs := digC (mkD 1)) (hBw3).all (by rw [digC_len]; kernel_rfl)⟩) (⟨rfl, (Ext.own (hEw1.trans hEw2) hCw3 (by omega))⟩))))

theorem c_s15   (w : World)  :
    Calls Tryd.prog 30 #[] w (Ret fun r w' => r = (vA (digC (mkD 2))) ∧ Ext w w') := by
  refine calls_of (n := 2) (σ := []) Tryd.func30 rfl ?_
  refine wpC_seq (wpC_region (wpF_step (op_new (some 0) (Instr.alloc 27 true (.tuple #[])) (vP w.heap.size 0) (digC Dig.zero) 27 ?_)))
  intro w1 hBw1 hEw1
  have hzw1 := hEw1.size; have hlw1 := hBw1.lt
  refine wpF_end (then_code (wpC_seq (wpC_region (wpF_step (op_call (some 1) (c_mkD 2 _ (by decide)) ?_)))))
  rintro _ w2 ⟨rfl, hEw2⟩
  have hzw2 := hEw2.size
  refine wpF_step (op_store 27 w.heap.size 0 27 (vA (digC (mkD 2))) (digC Dig.zero) (digC (mkD 2)) (hBw1.ext hEw2) (by rw [digC_len]; kernel_rfl) (by first | (simp; done) | (simp; omega)) (digC_one _) ?_)
  intro w3 hBw3 hCw3
  have hzw3 := hCw3.size
  rw [setFrom_all _ _ (by simp)] at hBw3
  exact wpF_end (then_code (wpC_ret (body_ret1 (show resVal Tryd.prog 2 _ _ (.cell 0 27) (vA (digC (mkD 2))) from ⟨⟨w.heap.size, 0, none⟩, (by kernel_rfl), run_loadVar_agg (T := 27) (vs := digC (mkD 2)) (hBw3).all (by rw [digC_len]; kernel_rfl)⟩) (⟨rfl, (Ext.own (hEw1.trans hEw2) hCw3 (by omega))⟩))))

theorem c_lives15   (w : World) (hg0 : Gl 0 [vI 45, vI 33] w) (hg1 : Gl 1 (w8C iniA) w) (hg2 : Gl 2 (w64C kA) w) :
    Calls Tryd.prog 14 #[] w (Ret fun r w' => r = vT ∧ Ext w w') := by
  refine calls_of (n := 103) (σ := []) Tryd.func14 rfl ?_
  have hgl0 := hg0.lt
  have hgl1 := hg1.lt
  have hgl2 := hg2.lt
  refine wpC_seq (wpC_region (wpF_run 1 [(0, vF)] (wpF_end (then_code (wpC_seq (wpC_region (wpF_step (op_call (some 14) (c_r15 _) ?_))))))))
  rintro _ w1 ⟨rfl, hEw1⟩
  have hzw1 := hEw1.size
  refine wpF_step (op_v (some 15) (Instr.build 30 #[(0, (vA (digC (mkD 1)))), (1, (vQ 4)), (2, (vQ 7))]) (vA (celC (exC 1 4 7))) ((run_build_cel (mkD 1) 4 7 (by decide) (by decide)).trans (congrArg (fun z : Cel => Result.ok (Value.agg (celC z).toArray) _) (show (⟨(mkD 1), 4, 7, by decide, by decide⟩ : Cel) = exC 1 4 7 from rfl))) ?_)
  refine wpF_step (op_new (some 1) (Instr.alloc 30 true (.tuple #[])) (vP w1.heap.size 0) (celC Cel.zero) 30 ?_)
  intro w2 hBw2 hEw2
  have hzw2 := hEw2.size; have hlw2 := hBw2.lt
  refine wpF_step (op_store 30 w1.heap.size 0 30 (vA (celC (exC 1 4 7))) (celC Cel.zero) (celC (exC 1 4 7)) hBw2 (by rw [celC_len]; kernel_rfl) (by first | (simp; done) | (simp; omega)) (celC_one _) ?_)
  intro w3 hBw3 hCw3
  have hzw3 := hCw3.size
  rw [setFrom_all _ _ (by simp)] at hBw3
  refine wpF_end (then_code (wpC_seq (wpC_drawM (Ext w3.drew) 9 [(18, 2, 0), (19, 0, 0), (20, 393216, 3), (17, 524288, 4), (21, 65536, 8), (22, 65536, 8), (3, 0, 0), (0, 1048580, 95), (4, 2097152, 255)] (fun hT199 => ?_))))
  have hEw4 : Ext w3 w3.drew := Ext.drew w3
  generalize w3.drew = w4 at hEw4 ⊢
  have hzw4 := hEw4.size
  refine anyM_take hT199 0 1 (some 17) (vA (celC (exC 1 4 7))) (yld_val (Instr.loadAt 30 (vP w1.heap.size 0)) (fun w' hC => rn_lda (vs := celC (exC 1 4 7)) (((hBw3.ext hEw4).ext hC).all) (by rw [celC_len]; kernel_rfl))) (anyM_two 1 6 3 65 ?_ ?_)
  · refine op_call (some 18) (c_s15 _) ?_
    rintro _ w5 ⟨rfl, hEw5⟩
    have hzw5 := hEw5.size
    refine ⟨.inr hEw5, ?_⟩
    refine anyM_two 2 6 7 67 ?_ ?_
    · refine op_call (some 19) (c_CNext (exC 1 4 7) (mkD 2) _ (by decide)) ?_
      rintro _ w6 ⟨rfl, hEw6⟩
      have hzw6 := hEw6.size
      refine ⟨.inr (hEw5.trans hEw6), ?_⟩
      refine anyM_run (hw := show Ext w4 w6 from (hEw5.trans hEw6)) hT199 [(3, 16, (.tuple #[(vA (celC ((exC 1 4 7).nxt (mkD 2)))), (vI 0)])), (4, 20, (vA (celC ((exC 1 4 7).nxt (mkD 2))))), (5, 21, (vI 0))] 3 63 (anyM_one 6 127 (op_new (some 2) (Instr.alloc 30 true (.tuple #[])) (vP w6.heap.size 0) (celC Cel.zero) 30 ?_))
      intro w7 hBw7 hEw7
      have hzw7 := hEw7.size; have hlw7 := hBw7.lt
      refine ⟨.inr ((hEw5.trans hEw6).trans hEw7), ?_⟩
      refine anyM_one 7 255 (op_store 30 w6.heap.size 0 30 (vA (celC ((exC 1 4 7).nxt (mkD 2)))) (celC Cel.zero) (celC ((exC 1 4 7).nxt (mkD 2))) hBw7 (by rw [celC_len]; kernel_rfl) (by first | (simp; done) | (simp; omega)) (celC_one _) ?_)
      intro w8 hBw8 hCw8
      have hzw8 := hCw8.size
      rw [setFrom_all _ _ (by simp)] at hBw8
      have hX1 : Ext w4 w8 := (Ext.own ((hEw5.trans hEw6).trans hEw7) hCw8 (by omega))
      refine ⟨.inr hX1, ?_⟩
      refine anyM_run (hw := show Ext w4 w8 from hX1) hT199 [(8, 3, (vI 0))] 1 511 (anyM_done (then_code (wpC_seq (wpC_region (wpF_run 1 [(23, (vA (celC (exZ 18446744073709551615 0))))] (wpF_step (op_call (some 24) (c_s15 _) ?_)))))))
      rintro _ w9 ⟨rfl, hEw9⟩
      have hzw9 := hEw9.size
      refine wpF_step (op_call (some 25) (c_CNextBad (exZ 18446744073709551615 0) (mkD 2) _ (by decide)) ?_)
      rintro _ w10 ⟨rfl, hEw10⟩
      have hzw10 := hEw10.size
      refine wpF_run 3 [(27, (vI 3)), (26, (vA (celC Cel.zero))), (22, (.tuple #[(vA (celC Cel.zero)), (vI 3)]))] (wpF_step (op_new (some 4) (Instr.alloc 30 true (.tuple #[])) (vP w10.heap.size 0) (celC Cel.zero) 30 ?_))
      intro w11 hBw11 hEw11
      have hzw11 := hEw11.size; have hlw11 := hBw11.lt
      refine wpF_step (op_store 30 w10.heap.size 0 30 (vA (celC Cel.zero)) (celC Cel.zero) (celC Cel.zero) hBw11 (by rw [celC_len]; kernel_rfl) (by first | (simp; done) | (simp; omega)) (celC_one _) ?_)
      intro w12 hBw12 hCw12
      have hzw12 := hCw12.size
      rw [setFrom_all _ _ (by simp)] at hBw12
      refine wpF_run 1 [(5, (vI 3))] (wpF_end (then_code (wpC_seq (wpC_region ?_))))
      have hK1 := (((((((((((hBw3.ext hEw4)).ext hX1)).ext hEw9)).ext hEw10)).ext hEw11)).chg hCw12 (fun hs => by have h : _ = _ := hs; omega))
      refine wpF_step (op_v (some 29) (Instr.loadAt 30 (vP w1.heap.size 0)) (vA (celC (exC 1 4 7))) (rn_lda (vs := celC (exC 1 4 7)) (hK1.all) (by rw [celC_len]; kernel_rfl)) ?_)
      refine wpF_step (op_call (some 30) (c_Rsv (exC 1 4 7) 3 10 _ (by decide) (by decide) (by decide)) ?_)
      rintro _ w13 ⟨rfl, hEw13⟩
      have hzw13 := hEw13.size
      refine wpF_run 3 [(32, (vI 0)), (31, (vA (celC ((exC 1 4 7).rsv 3)))), (28, (.tuple #[(vA (celC ((exC 1 4 7).rsv 3))), (vI 0)]))] (wpF_step (op_new (some 6) (Instr.alloc 30 true (.tuple #[])) (vP w13.heap.size 0) (celC Cel.zero) 30 ?_))
      intro w14 hBw14 hEw14
      have hzw14 := hEw14.size; have hlw14 := hBw14.lt
      refine wpF_step (op_store 30 w13.heap.size 0 30 (vA (celC ((exC 1 4 7).rsv 3))) (celC Cel.zero) (celC ((exC 1 4 7).rsv 3)) hBw14 (by rw [celC_len]; kernel_rfl) (by first | (simp; done) | (simp; omega)) (celC_one _) ?_)
      intro w15 hBw15 hCw15
      have hzw15 := hCw15.size
      rw [setFrom_all _ _ (by simp)] at hBw15
      refine wpF_run 1 [(7, (vI 0))] (wpF_end (then_code (wpC_seq (wpC_region ?_))))
      have hK2 := (((((hK1.ext hEw13)).ext hEw14)).chg hCw15 (fun hs => by have h : _ = _ := hs; omega))
      refine wpF_step (op_v (some 34) (Instr.loadAt 30 (vP w1.heap.size 0)) (vA (celC (exC 1 4 7))) (rn_lda (vs := celC (exC 1 4 7)) (hK2.all) (by rw [celC_len]; kernel_rfl)) ?_)
      refine wpF_step (op_call (some 35) (c_RsvBad (exC 1 4 7) 4 10 _ (by decide) (by decide) (by decide)) ?_)
      rintro _ w16 ⟨rfl, hEw16⟩
      have hzw16 := hEw16.size
      refine wpF_run 3 [(37, (vI 8)), (36, (vA (celC Cel.zero))), (33, (.tuple #[(vA (celC Cel.zero)), (vI 8)]))] (wpF_step (op_new (some 8) (Instr.alloc 30 true (.tuple #[])) (vP w16.heap.size 0) (celC Cel.zero) 30 ?_))
      intro w17 hBw17 hEw17
      have hzw17 := hEw17.size; have hlw17 := hBw17.lt
      refine wpF_step (op_store 30 w16.heap.size 0 30 (vA (celC Cel.zero)) (celC Cel.zero) (celC Cel.zero) hBw17 (by rw [celC_len]; kernel_rfl) (by first | (simp; done) | (simp; omega)) (celC_one _) ?_)
      intro w18 hBw18 hCw18
      have hzw18 := hCw18.size
      rw [setFrom_all _ _ (by simp)] at hBw18
      refine wpF_run 1 [(9, (vI 8))] (wpF_end (then_code (wpC_seq (wpC_region ?_))))
      have hK3 := (((((hK2.ext hEw16)).ext hEw17)).chg hCw18 (fun hs => by have h : _ = _ := hs; omega))
      refine wpF_step (op_v (some 39) (Instr.loadAt 30 (vP w1.heap.size 0)) (vA (celC (exC 1 4 7))) (rn_lda (vs := celC (exC 1 4 7)) (hK3.all) (by rw [celC_len]; kernel_rfl)) ?_)
      refine wpF_step (op_call (some 40) (c_RsvArg (exC 1 4 7) 0 10 _ (by first | omega | decide)) ?_)
      rintro _ w19 ⟨rfl, hEw19⟩
      have hzw19 := hEw19.size
      refine wpF_run 3 [(42, (vI 1)), (41, (vA (celC Cel.zero))), (38, (.tuple #[(vA (celC Cel.zero)), (vI 1)]))] (wpF_step (op_new (some 10) (Instr.alloc 30 true (.tuple #[])) (vP w19.heap.size 0) (celC Cel.zero) 30 ?_))
      intro w20 hBw20 hEw20
      have hzw20 := hEw20.size; have hlw20 := hBw20.lt
      refine wpF_step (op_store 30 w19.heap.size 0 30 (vA (celC Cel.zero)) (celC Cel.zero) (celC Cel.zero) hBw20 (by rw [celC_len]; kernel_rfl) (by first | (simp; done) | (simp; omega)) (celC_one _) ?_)
      intro w21 hBw21 hCw21
      have hzw21 := hCw21.size
      rw [setFrom_all _ _ (by simp)] at hBw21
      refine wpF_run 1 [(11, (vI 1))] (wpF_end (then_code (wpC_seq (wpC_seq (wpC_drawM (Ext w21.drew) 28 [(44, 4, 0), (45, 0, 0), (46, 17592186044416, 2), (47, 43980465111040, 5), (48, 70368744177664, 10), (49, 140737488355392, 16), (50, 140737488355328, 16), (51, 703687441776640, 80), (52, 1548112371908608, 176), (53, 2392537302040576, 272), (54, 4503599627370496, 576), (55, 9007199254741000, 1024), (56, 9007199254741120, 1024), (57, 63050394783186944, 7168), (58, 81064793292668928, 9216), (59, 153122387330596864, 17408), (60, 288230376151711744, 33792), (61, 576460752303423520, 65536), (62, 1729382256910270464, 196608), (63, 2882303761517117440, 327680), (64, 4611686018427387904, 589824), (65, 9223372036854776320, 1048576), (66, 27670116110564327424, 3145728), (67, 46116860184273879040, 5242880), (68, 73786976294838206464, 9437184), (69, 147573952589676414976, 16777216), (70, 442721857769029238784, 50331648), (71, 737869762948382064640, 83886080)] (fun hT304 => ?_))))))
      have hEw22 : Ext w21 w21.drew := Ext.drew w21
      generalize w21.drew = w22 at hEw22 ⊢
      have hzw22 := hEw22.size
      have hK4 := (((((((((((((((((((((((((((hBw8.ext hEw9)).ext hEw10)).ext hEw11)).chg hCw12 (fun hs => by have h : _ = _ := hs; omega))).ext hEw13)).ext hEw14)).chg hCw15 (fun hs => by have h : _ = _ := hs; omega))).ext hEw16)).ext hEw17)).chg hCw18 (fun hs => by have h : _ = _ := hs; omega))).ext hEw19)).ext hEw20)).chg hCw21 (fun hs => by have h : _ = _ := hs; omega))).ext hEw22)
      refine anyM_take hT304 0 1 (some 43) (vA (celC ((exC 1 4 7).nxt (mkD 2)))) (yld_val (Instr.loadAt 30 (vP w6.heap.size 0)) (fun w' hC => rn_lda (vs := celC ((exC 1 4 7).nxt (mkD 2))) ((hK4.ext hC).all) (by rw [celC_len]; kernel_rfl))) (anyM_one 1 3 (op_call (some 44) (c_s15 _) ?_))
      rintro _ w23 ⟨rfl, hEw23⟩
      have hzw23 := hEw23.size
      refine ⟨.inr hEw23, ?_⟩
      refine anyM_take (hw := show Ext w22 w23 from hEw23) hT304 2 7 (some 45) (vA (celC (exC 2 5 7))) (yld_val (Instr.build 30 #[(0, (vA (digC (mkD 2)))), (1, (vQ 5)), (2, (vQ 7))]) (fun w' hC => (run_build_cel (mkD 2) 5 7 (by decide) (by decide)).trans (congrArg (fun z : Cel => Result.ok (Value.agg (celC z).toArray) _) (show (⟨(mkD 2), 5, 7, by decide, by decide⟩ : Cel) = exC 2 5 7 from rfl)))) (anyM_take (hw := show Ext w22 w23 from hEw23) hT304 3 15 (some 46) vF (yld_val (bo .neq 30 (.tmp 43) (.tmp 45) (vA (celC ((exC 1 4 7).nxt (mkD 2)))) (vA (celC (exC 2 5 7)))) (fun w' hC => run_neqAgg (r := true) (T := 30) ((run_eq_cel (dd := 9997) (t := 30) (td := 27) (e := 5) (t64 := 28) ((exC 1 4 7).nxt (mkD 2)) (exC 2 5 7)).trans (congrArg (fun b => Result.ok b _) (show (((exC 1 4 7).nxt (mkD 2)).eqb (exC 2 5 7)) = true from cel_eq rfl))))) (anyM_run (hw := show Ext w22 w23 from hEw23) hT304 [(4, 47, vF)] 1 31 ?_))
      have hK5 := (((((((((((((hBw15.ext hEw16)).ext hEw17)).chg hCw18 (fun hs => by have h : _ = _ := hs; omega))).ext hEw19)).ext hEw20)).chg hCw21 (fun hs => by have h : _ = _ := hs; omega))).ext hEw22)
      refine anyM_take (hw := show Ext w22 w23 from hEw23) hT304 5 63 (some 48) (vA (celC ((exC 1 4 7).rsv 3))) (yld_val (Instr.loadAt 30 (vP w13.heap.size 0)) (fun w' hC => rn_lda (vs := celC ((exC 1 4 7).rsv 3)) ((hK5.ext hC).all) (by rw [celC_len]; kernel_rfl))) (anyM_one 6 127 (op_call (some 49) (c_r15 _) ?_))
      rintro _ w24 ⟨rfl, hEw24⟩
      have hzw24 := hEw24.size
      refine ⟨.inr (hEw23.trans hEw24), ?_⟩
      refine anyM_take (hw := show Ext w22 w24 from (hEw23.trans hEw24)) hT304 7 255 (some 50) (vA (celC (exC 1 4 10))) (yld_val (Instr.build 30 #[(0, (vA (digC (mkD 1)))), (1, (vQ 4)), (2, (vQ 10))]) (fun w' hC => (run_build_cel (mkD 1) 4 10 (by decide) (by decide)).trans (congrArg (fun z : Cel => Result.ok (Value.agg (celC z).toArray) _) (show (⟨(mkD 1), 4, 10, by decide, by decide⟩ : Cel) = exC 1 4 10 from rfl)))) (anyM_take (hw := show Ext w22 w24 from (hEw23.trans hEw24)) hT304 8 511 (some 51) vF (yld_val (bo .neq 30 (.tmp 48) (.tmp 50) (vA (celC ((exC 1 4 7).rsv 3))) (vA (celC (exC 1 4 10)))) (fun w' hC => run_neqAgg (r := true) (T := 30) ((run_eq_cel (dd := 9997) (t := 30) (td := 27) (e := 5) (t64 := 28) ((exC 1 4 7).rsv 3) (exC 1 4 10)).trans (congrArg (fun b => Result.ok b _) (show (((exC 1 4 7).rsv 3).eqb (exC 1 4 10)) = true from cel_eq rfl))))) (anyM_run (hw := show Ext w22 w24 from (hEw23.trans hEw24)) hT304 [(9, 52, vF), (10, 53, vF), (11, 54, (vI 0)), (12, 55, (vI 0))] 4 8191 (anyM_take (hw := show Ext w22 w24 from (hEw23.trans hEw24)) hT304 13 16383 (some 56) (vI 0) (yld_in .i64 (IntKind.i64.wrap (((0 : Nat) : Int) + ((0 : Nat) : Int))) (wrapS (by omega) (by omega) (by omega))) (anyM_run (hw := show Ext w22 w24 from (hEw23.trans hEw24)) hT304 [(14, 57, vF), (15, 58, vF), (16, 59, vF), (17, 60, (vI 3)), (18, 61, vF), (19, 62, vF), (20, 63, vF), (21, 64, (vI 8)), (22, 65, vF), (23, 66, vF), (24, 67, vF), (25, 68, (vI 1)), (26, 69, vF), (27, 70, vF)] 14 268435455 (anyM_done (then_code (wpC_false (wpC_skip (then_code ?_)))))))))
      refine wpC_seq (wpC_region ?_)
      have hK6 := (((((((((((((((((((((((((((((((((((((((((hg0.ext hEw1)).ext hEw2)).chg hCw3 (fun hs => by have h : _ = _ := hs; omega))).ext hEw4)).ext hX1)).ext hEw9)).ext hEw10)).ext hEw11)).chg hCw12 (fun hs => by have h : _ = _ := hs; omega))).ext hEw13)).ext hEw14)).chg hCw15 (fun hs => by have h : _ = _ := hs; omega))).ext hEw16)).ext hEw17)).chg hCw18 (fun hs => by have h : _ = _ := hs; omega))).ext hEw19)).ext hEw20)).chg hCw21 (fun hs => by have h : _ = _ := hs; omega))).ext hEw22)).ext hEw23)).ext hEw24)
      have hK7 := (((((((((((((((((((((((((((((((((((((((((hg1.ext hEw1)).ext hEw2)).chg hCw3 (fun hs => by have h : _ = _ := hs; omega))).ext hEw4)).ext hX1)).ext hEw9)).ext hEw10)).ext hEw11)).chg hCw12 (fun hs => by have h : _ = _ := hs; omega))).ext hEw13)).ext hEw14)).chg hCw15 (fun hs => by have h : _ = _ := hs; omega))).ext hEw16)).ext hEw17)).chg hCw18 (fun hs => by have h : _ = _ := hs; omega))).ext hEw19)).ext hEw20)).chg hCw21 (fun hs => by have h : _ = _ := hs; omega))).ext hEw22)).ext hEw23)).ext hEw24)
      have hK8 := (((((((((((((((((((((((((((((((((((((((((hg2.ext hEw1)).ext hEw2)).chg hCw3 (fun hs => by have h : _ = _ := hs; omega))).ext hEw4)).ext hX1)).ext hEw9)).ext hEw10)).ext hEw11)).chg hCw12 (fun hs => by have h : _ = _ := hs; omega))).ext hEw13)).ext hEw14)).chg hCw15 (fun hs => by have h : _ = _ := hs; omega))).ext hEw16)).ext hEw17)).chg hCw18 (fun hs => by have h : _ = _ := hs; omega))).ext hEw19)).ext hEw20)).chg hCw21 (fun hs => by have h : _ = _ := hs; omega))).ext hEw22)).ext hEw23)).ext hEw24)
      refine wpF_step (op_call (some 72) (c_Snd 1 _ (Ms.nil celC 0 0 _ (by simp)) (by decide) (by decide) hK6 hK7 hK8) ?_)
      rintro _ w25 ⟨rfl, hEw25⟩
      have hzw25 := hEw25.size
      rw [show sndA 1 ([]) = 0 from rfl]
      rw [show sndE 1 ([]) = 16 from rfl]
      refine wpF_run 5 [(13, (vI 16)), (12, (vI 0)), (74, (vI 16)), (73, (vI 0)), (71, (.tuple #[(vI 0), (vI 16)]))] (wpF_end (then_code (wpC_seq (wpC_drawM (Ext w25.drew) 29 [(76, 2, 0), (77, 0, 0), (78, 75557863725914323419136, 2), (79, 188894659314785808547840, 7), (80, 302231454903657293676544, 8), (81, 604462909807314587353088, 24), (82, 1208925819614629174706178, 32), (83, 1208925819614629174706176, 32), (84, 6044629098073145873530880, 160), (85, 13298184015760920921767936, 480), (86, 20551738933448695970004992, 544), (87, 39894552047282762765303808, 1056), (88, 77371252455336267181195264, 2560), (89, 154742504910672534362390530, 4096), (90, 154742504910672534362390528, 4096), (91, 773712524553362671811952640, 20480), (92, 1702167554017397877986295808, 61440), (93, 2630622583481433084160638976, 69632), (94, 5106502662052193633958887424, 135168), (95, 9903520314283042199192993792, 327680), (96, 19807040628566084398385987584, 524288), (97, 59421121885698253195157962752, 1572864), (98, 99035203142830421991929937920, 2621440), (99, 178263365657094759585473888256, 4718592), (100, 316912650057057350374175801344, 10485760), (101, 633825300114114700748351610880, 16777216), (102, 1901475900342344102245054808064, 50331648), (103, 3169126500570573503741758013440, 83886080), (1, 5070602400912917605986812821504, 268435455)] (fun hT347 => ?_)))))
      have hEw26 : Ext w25 w25.drew := Ext.drew w25
      generalize w25.drew = w26 at hEw26 ⊢
      have hzw26 := hEw26.size
      have hK9 := (((((((((((((((hK3.ext hEw19)).ext hEw20)).chg hCw21 (fun hs => by have h : _ = _ := hs; omega))).ext hEw22)).ext hEw23)).ext hEw24)).ext hEw25)).ext hEw26)
      refine anyM_take hT347 0 1 (some 75) (vA (celC (exC 1 4 7))) (yld_val (Instr.loadAt 30 (vP w1.heap.size 0)) (fun w' hC => rn_lda (vs := celC (exC 1 4 7)) ((hK9.ext hC).all) (by rw [celC_len]; kernel_rfl))) (anyM_one 1 3 (op_call (some 76) (c_r15 _) ?_))
      rintro _ w27 ⟨rfl, hEw27⟩
      have hzw27 := hEw27.size
      refine ⟨.inr hEw27, ?_⟩
      refine anyM_take (hw := show Ext w26 w27 from hEw27) hT347 2 7 (some 77) (vA (celC (exC 1 5 7))) (yld_val (Instr.build 30 #[(0, (vA (digC (mkD 1)))), (1, (vQ 5)), (2, (vQ 7))]) (fun w' hC => (run_build_cel (mkD 1) 5 7 (by decide) (by decide)).trans (congrArg (fun z : Cel => Result.ok (Value.agg (celC z).toArray) _) (show (⟨(mkD 1), 5, 7, by decide, by decide⟩ : Cel) = exC 1 5 7 from rfl)))) (anyM_one 3 15 (op_call (some 78) (c_Fol (exC 1 4 7) (exC 1 5 7) _) ?_))
      rintro _ w28 ⟨rfl, hEw28⟩
      have hzw28 := hEw28.size
      rw [show fol (exC 1 4 7) (exC 1 5 7) = 1 from by decide]
      refine ⟨.inr (hEw27.trans hEw28), ?_⟩
      refine anyM_run (hw := show Ext w26 w28 from (hEw27.trans hEw28)) hT347 [(4, 79, vT), (5, 80, vT)] 2 63 (anyM_take (hw := show Ext w26 w28 from (hEw27.trans hEw28)) hT347 6 127 (some 81) (vA (celC (exC 1 4 7))) (yld_val (Instr.loadAt 30 (vP w1.heap.size 0)) (fun w' hC => rn_lda (vs := celC (exC 1 4 7)) ((hK9.ext hC).all) (by rw [celC_len]; kernel_rfl))) (anyM_one 7 255 (op_call (some 82) (c_r15 _) ?_)))
      rintro _ w29 ⟨rfl, hEw29⟩
      have hzw29 := hEw29.size
      refine ⟨.inr ((hEw27.trans hEw28).trans hEw29), ?_⟩
      refine anyM_take (hw := show Ext w26 w29 from ((hEw27.trans hEw28).trans hEw29)) hT347 8 511 (some 83) (vA (celC (exC 1 5 8))) (yld_val (Instr.build 30 #[(0, (vA (digC (mkD 1)))), (1, (vQ 5)), (2, (vQ 8))]) (fun w' hC => (run_build_cel (mkD 1) 5 8 (by decide) (by decide)).trans (congrArg (fun z : Cel => Result.ok (Value.agg (celC z).toArray) _) (show (⟨(mkD 1), 5, 8, by decide, by decide⟩ : Cel) = exC 1 5 8 from rfl)))) (anyM_one 9 1023 (op_call (some 84) (c_Fol (exC 1 4 7) (exC 1 5 8) _) ?_))
      rintro _ w30 ⟨rfl, hEw30⟩
      have hzw30 := hEw30.size
      rw [show fol (exC 1 4 7) (exC 1 5 8) = 0 from by decide]
      have hX2 : Ext w26 w30 := (((hEw27.trans hEw28).trans hEw29).trans hEw30)
      refine ⟨.inr hX2, ?_⟩
      refine anyM_run (hw := show Ext w26 w30 from hX2) hT347 [(10, 85, vT), (11, 86, vT), (12, 87, vT)] 3 8191 (anyM_take (hw := show Ext w26 w30 from hX2) hT347 13 16383 (some 88) (vA (celC (exC 1 4 7))) (yld_val (Instr.loadAt 30 (vP w1.heap.size 0)) (fun w' hC => rn_lda (vs := celC (exC 1 4 7)) ((hK9.ext hC).all) (by rw [celC_len]; kernel_rfl))) (anyM_one 14 32767 (op_call (some 89) (c_s15 _) ?_)))
      rintro _ w31 ⟨rfl, hEw31⟩
      have hzw31 := hEw31.size
      refine ⟨.inr (hX2.trans hEw31), ?_⟩
      refine anyM_take (hw := show Ext w26 w31 from (hX2.trans hEw31)) hT347 15 65535 (some 90) (vA (celC (exC 2 4 8))) (yld_val (Instr.build 30 #[(0, (vA (digC (mkD 2)))), (1, (vQ 4)), (2, (vQ 8))]) (fun w' hC => (run_build_cel (mkD 2) 4 8 (by decide) (by decide)).trans (congrArg (fun z : Cel => Result.ok (Value.agg (celC z).toArray) _) (show (⟨(mkD 2), 4, 8, by decide, by decide⟩ : Cel) = exC 2 4 8 from rfl)))) (anyM_one 16 131071 (op_call (some 91) (c_Fol (exC 1 4 7) (exC 2 4 8) _) ?_))
      rintro _ w32 ⟨rfl, hEw32⟩
      have hzw32 := hEw32.size
      rw [show fol (exC 1 4 7) (exC 2 4 8) = 0 from by decide]
      refine ⟨.inr ((hX2.trans hEw31).trans hEw32), ?_⟩
      refine anyM_run (hw := show Ext w26 w32 from ((hX2.trans hEw31).trans hEw32)) hT347 [(17, 92, vT), (18, 93, vT), (19, 94, vT), (20, 95, (vA (celC (exZ 5 0))))] 4 2097151 (anyM_one 21 4194303 (op_call (some 96) (c_CSlot (exZ 5 0) _) ?_))
      rintro _ w33 ⟨rfl, hEw33⟩
      have hzw33 := hEw33.size
      rw [show (exZ 5 0).ep % 2 = 1 from by decide]
      have hX3 : Ext w26 w33 := (((hX2.trans hEw31).trans hEw32).trans hEw33)
      refine ⟨.inr hX3, ?_⟩
      refine anyM_run (hw := show Ext w26 w33 from hX3) hT347 [(22, 97, vT), (23, 98, vT), (24, 99, vT), (25, 100, (vI 16)), (26, 101, vT), (27, 102, vT), (28, 0, vT)] 7 536870911 (anyM_done (then_code (wpC_ret (body_rets vT ?_))))
      have hX4 : Ext w w33 := (((((((Ext.own (((Ext.own (((Ext.own (((Ext.own ((((((Ext.own (hEw1.trans hEw2) hCw3 (by omega)).trans hEw4).trans hX1).trans hEw9).trans hEw10).trans hEw11) hCw12 (by omega)).trans hEw13).trans hEw14) hCw15 (by omega)).trans hEw16).trans hEw17) hCw18 (by omega)).trans hEw19).trans hEw20) hCw21 (by omega)).trans hEw22).trans hEw23).trans hEw24).trans hEw25).trans hEw26).trans hX3)
      exact ⟨rfl, hX4⟩
    · refine op_new (some 2) (Instr.alloc 30 true (.tuple #[])) (vP w5.heap.size 0) (celC Cel.zero) 30 ?_
      intro w34 hBw34 hEw34
      have hzw34 := hEw34.size; have hlw34 := hBw34.lt
      refine ⟨.inr (hEw5.trans hEw34), ?_⟩
      refine anyM_one 2 71 (op_call (some 19) (c_CNext (exC 1 4 7) (mkD 2) _ (by decide)) ?_)
      rintro _ w35 ⟨rfl, hEw35⟩
      have hzw35 := hEw35.size
      refine ⟨.inr ((hEw5.trans hEw34).trans hEw35), ?_⟩
      refine anyM_run (hw := show Ext w4 w35 from ((hEw5.trans hEw34).trans hEw35)) hT199 [(3, 16, (.tuple #[(vA (celC ((exC 1 4 7).nxt (mkD 2)))), (vI 0)])), (4, 20, (vA (celC ((exC 1 4 7).nxt (mkD 2))))), (5, 21, (vI 0))] 3 127 (anyM_one 7 255 (op_store 30 w5.heap.size 0 30 (vA (celC ((exC 1 4 7).nxt (mkD 2)))) (celC Cel.zero) (celC ((exC 1 4 7).nxt (mkD 2))) (hBw34.ext hEw35) (by rw [celC_len]; kernel_rfl) (by first | (simp; done) | (simp; omega)) (celC_one _) ?_))
      intro w36 hBw36 hCw36
      have hzw36 := hCw36.size
      rw [setFrom_all _ _ (by simp)] at hBw36
      have hX5 : Ext w4 w36 := (Ext.own ((hEw5.trans hEw34).trans hEw35) hCw36 (by omega))
      refine ⟨.inr hX5, ?_⟩
      refine anyM_run (hw := show Ext w4 w36 from hX5) hT199 [(8, 3, (vI 0))] 1 511 (anyM_done (then_code (wpC_seq (wpC_region (wpF_run 1 [(23, (vA (celC (exZ 18446744073709551615 0))))] (wpF_step (op_call (some 24) (c_s15 _) ?_)))))))
      rintro _ w37 ⟨rfl, hEw37⟩
      have hzw37 := hEw37.size
      refine wpF_step (op_call (some 25) (c_CNextBad (exZ 18446744073709551615 0) (mkD 2) _ (by decide)) ?_)
      rintro _ w38 ⟨rfl, hEw38⟩
      have hzw38 := hEw38.size
      refine wpF_run 3 [(27, (vI 3)), (26, (vA (celC Cel.zero))), (22, (.tuple #[(vA (celC Cel.zero)), (vI 3)]))] (wpF_step (op_new (some 4) (Instr.alloc 30 true (.tuple #[])) (vP w38.heap.size 0) (celC Cel.zero) 30 ?_))
      intro w39 hBw39 hEw39
      have hzw39 := hEw39.size; have hlw39 := hBw39.lt
      refine wpF_step (op_store 30 w38.heap.size 0 30 (vA (celC Cel.zero)) (celC Cel.zero) (celC Cel.zero) hBw39 (by rw [celC_len]; kernel_rfl) (by first | (simp; done) | (simp; omega)) (celC_one _) ?_)
      intro w40 hBw40 hCw40
      have hzw40 := hCw40.size
      rw [setFrom_all _ _ (by simp)] at hBw40
      refine wpF_run 1 [(5, (vI 3))] (wpF_end (then_code (wpC_seq (wpC_region ?_))))
      have hK10 := (((((((((((hBw3.ext hEw4)).ext hX5)).ext hEw37)).ext hEw38)).ext hEw39)).chg hCw40 (fun hs => by have h : _ = _ := hs; omega))
      refine wpF_step (op_v (some 29) (Instr.loadAt 30 (vP w1.heap.size 0)) (vA (celC (exC 1 4 7))) (rn_lda (vs := celC (exC 1 4 7)) (hK10.all) (by rw [celC_len]; kernel_rfl)) ?_)
      refine wpF_step (op_call (some 30) (c_Rsv (exC 1 4 7) 3 10 _ (by decide) (by decide) (by decide)) ?_)
      rintro _ w41 ⟨rfl, hEw41⟩
      have hzw41 := hEw41.size
      refine wpF_run 3 [(32, (vI 0)), (31, (vA (celC ((exC 1 4 7).rsv 3)))), (28, (.tuple #[(vA (celC ((exC 1 4 7).rsv 3))), (vI 0)]))] (wpF_step (op_new (some 6) (Instr.alloc 30 true (.tuple #[])) (vP w41.heap.size 0) (celC Cel.zero) 30 ?_))
      intro w42 hBw42 hEw42
      have hzw42 := hEw42.size; have hlw42 := hBw42.lt
      refine wpF_step (op_store 30 w41.heap.size 0 30 (vA (celC ((exC 1 4 7).rsv 3))) (celC Cel.zero) (celC ((exC 1 4 7).rsv 3)) hBw42 (by rw [celC_len]; kernel_rfl) (by first | (simp; done) | (simp; omega)) (celC_one _) ?_)
      intro w43 hBw43 hCw43
      have hzw43 := hCw43.size
      rw [setFrom_all _ _ (by simp)] at hBw43
      refine wpF_run 1 [(7, (vI 0))] (wpF_end (then_code (wpC_seq (wpC_region ?_))))
      have hK11 := (((((hK10.ext hEw41)).ext hEw42)).chg hCw43 (fun hs => by have h : _ = _ := hs; omega))
      refine wpF_step (op_v (some 34) (Instr.loadAt 30 (vP w1.heap.size 0)) (vA (celC (exC 1 4 7))) (rn_lda (vs := celC (exC 1 4 7)) (hK11.all) (by rw [celC_len]; kernel_rfl)) ?_)
      refine wpF_step (op_call (some 35) (c_RsvBad (exC 1 4 7) 4 10 _ (by decide) (by decide) (by decide)) ?_)
      rintro _ w44 ⟨rfl, hEw44⟩
      have hzw44 := hEw44.size
      refine wpF_run 3 [(37, (vI 8)), (36, (vA (celC Cel.zero))), (33, (.tuple #[(vA (celC Cel.zero)), (vI 8)]))] (wpF_step (op_new (some 8) (Instr.alloc 30 true (.tuple #[])) (vP w44.heap.size 0) (celC Cel.zero) 30 ?_))
      intro w45 hBw45 hEw45
      have hzw45 := hEw45.size; have hlw45 := hBw45.lt
      refine wpF_step (op_store 30 w44.heap.size 0 30 (vA (celC Cel.zero)) (celC Cel.zero) (celC Cel.zero) hBw45 (by rw [celC_len]; kernel_rfl) (by first | (simp; done) | (simp; omega)) (celC_one _) ?_)
      intro w46 hBw46 hCw46
      have hzw46 := hCw46.size
      rw [setFrom_all _ _ (by simp)] at hBw46
      refine wpF_run 1 [(9, (vI 8))] (wpF_end (then_code (wpC_seq (wpC_region ?_))))
      have hK12 := (((((hK11.ext hEw44)).ext hEw45)).chg hCw46 (fun hs => by have h : _ = _ := hs; omega))
      refine wpF_step (op_v (some 39) (Instr.loadAt 30 (vP w1.heap.size 0)) (vA (celC (exC 1 4 7))) (rn_lda (vs := celC (exC 1 4 7)) (hK12.all) (by rw [celC_len]; kernel_rfl)) ?_)
      refine wpF_step (op_call (some 40) (c_RsvArg (exC 1 4 7) 0 10 _ (by first | omega | decide)) ?_)
      rintro _ w47 ⟨rfl, hEw47⟩
      have hzw47 := hEw47.size
      refine wpF_run 3 [(42, (vI 1)), (41, (vA (celC Cel.zero))), (38, (.tuple #[(vA (celC Cel.zero)), (vI 1)]))] (wpF_step (op_new (some 10) (Instr.alloc 30 true (.tuple #[])) (vP w47.heap.size 0) (celC Cel.zero) 30 ?_))
      intro w48 hBw48 hEw48
      have hzw48 := hEw48.size; have hlw48 := hBw48.lt
      refine wpF_step (op_store 30 w47.heap.size 0 30 (vA (celC Cel.zero)) (celC Cel.zero) (celC Cel.zero) hBw48 (by rw [celC_len]; kernel_rfl) (by first | (simp; done) | (simp; omega)) (celC_one _) ?_)
      intro w49 hBw49 hCw49
      have hzw49 := hCw49.size
      rw [setFrom_all _ _ (by simp)] at hBw49
      refine wpF_run 1 [(11, (vI 1))] (wpF_end (then_code (wpC_seq (wpC_seq (wpC_drawM (Ext w49.drew) 28 [(44, 4, 0), (45, 0, 0), (46, 17592186044416, 2), (47, 43980465111040, 5), (48, 70368744177664, 10), (49, 140737488355392, 16), (50, 140737488355328, 16), (51, 703687441776640, 80), (52, 1548112371908608, 176), (53, 2392537302040576, 272), (54, 4503599627370496, 576), (55, 9007199254741000, 1024), (56, 9007199254741120, 1024), (57, 63050394783186944, 7168), (58, 81064793292668928, 9216), (59, 153122387330596864, 17408), (60, 288230376151711744, 33792), (61, 576460752303423520, 65536), (62, 1729382256910270464, 196608), (63, 2882303761517117440, 327680), (64, 4611686018427387904, 589824), (65, 9223372036854776320, 1048576), (66, 27670116110564327424, 3145728), (67, 46116860184273879040, 5242880), (68, 73786976294838206464, 9437184), (69, 147573952589676414976, 16777216), (70, 442721857769029238784, 50331648), (71, 737869762948382064640, 83886080)] (fun hT496 => ?_))))))
      have hEw50 : Ext w49 w49.drew := Ext.drew w49
      generalize w49.drew = w50 at hEw50 ⊢
      have hzw50 := hEw50.size
      have hK13 := (((((((((((((((((((((((((((hBw36.ext hEw37)).ext hEw38)).ext hEw39)).chg hCw40 (fun hs => by have h : _ = _ := hs; omega))).ext hEw41)).ext hEw42)).chg hCw43 (fun hs => by have h : _ = _ := hs; omega))).ext hEw44)).ext hEw45)).chg hCw46 (fun hs => by have h : _ = _ := hs; omega))).ext hEw47)).ext hEw48)).chg hCw49 (fun hs => by have h : _ = _ := hs; omega))).ext hEw50)
      refine anyM_take hT496 0 1 (some 43) (vA (celC ((exC 1 4 7).nxt (mkD 2)))) (yld_val (Instr.loadAt 30 (vP w5.heap.size 0)) (fun w' hC => rn_lda (vs := celC ((exC 1 4 7).nxt (mkD 2))) ((hK13.ext hC).all) (by rw [celC_len]; kernel_rfl))) (anyM_one 1 3 (op_call (some 44) (c_s15 _) ?_))
      rintro _ w51 ⟨rfl, hEw51⟩
      have hzw51 := hEw51.size
      refine ⟨.inr hEw51, ?_⟩
      refine anyM_take (hw := show Ext w50 w51 from hEw51) hT496 2 7 (some 45) (vA (celC (exC 2 5 7))) (yld_val (Instr.build 30 #[(0, (vA (digC (mkD 2)))), (1, (vQ 5)), (2, (vQ 7))]) (fun w' hC => (run_build_cel (mkD 2) 5 7 (by decide) (by decide)).trans (congrArg (fun z : Cel => Result.ok (Value.agg (celC z).toArray) _) (show (⟨(mkD 2), 5, 7, by decide, by decide⟩ : Cel) = exC 2 5 7 from rfl)))) (anyM_take (hw := show Ext w50 w51 from hEw51) hT496 3 15 (some 46) vF (yld_val (bo .neq 30 (.tmp 43) (.tmp 45) (vA (celC ((exC 1 4 7).nxt (mkD 2)))) (vA (celC (exC 2 5 7)))) (fun w' hC => run_neqAgg (r := true) (T := 30) ((run_eq_cel (dd := 9997) (t := 30) (td := 27) (e := 5) (t64 := 28) ((exC 1 4 7).nxt (mkD 2)) (exC 2 5 7)).trans (congrArg (fun b => Result.ok b _) (show (((exC 1 4 7).nxt (mkD 2)).eqb (exC 2 5 7)) = true from cel_eq rfl))))) (anyM_run (hw := show Ext w50 w51 from hEw51) hT496 [(4, 47, vF)] 1 31 ?_))
      have hK14 := (((((((((((((hBw43.ext hEw44)).ext hEw45)).chg hCw46 (fun hs => by have h : _ = _ := hs; omega))).ext hEw47)).ext hEw48)).chg hCw49 (fun hs => by have h : _ = _ := hs; omega))).ext hEw50)
      refine anyM_take (hw := show Ext w50 w51 from hEw51) hT496 5 63 (some 48) (vA (celC ((exC 1 4 7).rsv 3))) (yld_val (Instr.loadAt 30 (vP w41.heap.size 0)) (fun w' hC => rn_lda (vs := celC ((exC 1 4 7).rsv 3)) ((hK14.ext hC).all) (by rw [celC_len]; kernel_rfl))) (anyM_one 6 127 (op_call (some 49) (c_r15 _) ?_))
      rintro _ w52 ⟨rfl, hEw52⟩
      have hzw52 := hEw52.size
      refine ⟨.inr (hEw51.trans hEw52), ?_⟩
      refine anyM_take (hw := show Ext w50 w52 from (hEw51.trans hEw52)) hT496 7 255 (some 50) (vA (celC (exC 1 4 10))) (yld_val (Instr.build 30 #[(0, (vA (digC (mkD 1)))), (1, (vQ 4)), (2, (vQ 10))]) (fun w' hC => (run_build_cel (mkD 1) 4 10 (by decide) (by decide)).trans (congrArg (fun z : Cel => Result.ok (Value.agg (celC z).toArray) _) (show (⟨(mkD 1), 4, 10, by decide, by decide⟩ : Cel) = exC 1 4 10 from rfl)))) (anyM_take (hw := show Ext w50 w52 from (hEw51.trans hEw52)) hT496 8 511 (some 51) vF (yld_val (bo .neq 30 (.tmp 48) (.tmp 50) (vA (celC ((exC 1 4 7).rsv 3))) (vA (celC (exC 1 4 10)))) (fun w' hC => run_neqAgg (r := true) (T := 30) ((run_eq_cel (dd := 9997) (t := 30) (td := 27) (e := 5) (t64 := 28) ((exC 1 4 7).rsv 3) (exC 1 4 10)).trans (congrArg (fun b => Result.ok b _) (show (((exC 1 4 7).rsv 3).eqb (exC 1 4 10)) = true from cel_eq rfl))))) (anyM_run (hw := show Ext w50 w52 from (hEw51.trans hEw52)) hT496 [(9, 52, vF), (10, 53, vF), (11, 54, (vI 0)), (12, 55, (vI 0))] 4 8191 (anyM_take (hw := show Ext w50 w52 from (hEw51.trans hEw52)) hT496 13 16383 (some 56) (vI 0) (yld_in .i64 (IntKind.i64.wrap (((0 : Nat) : Int) + ((0 : Nat) : Int))) (wrapS (by omega) (by omega) (by omega))) (anyM_run (hw := show Ext w50 w52 from (hEw51.trans hEw52)) hT496 [(14, 57, vF), (15, 58, vF), (16, 59, vF), (17, 60, (vI 3)), (18, 61, vF), (19, 62, vF), (20, 63, vF), (21, 64, (vI 8)), (22, 65, vF), (23, 66, vF), (24, 67, vF), (25, 68, (vI 1)), (26, 69, vF), (27, 70, vF)] 14 268435455 (anyM_done (then_code (wpC_false (wpC_skip (then_code ?_)))))))))
      refine wpC_seq (wpC_region ?_)
      have hK15 := (((((((((((((((((((((((((((((((((((((((((hg0.ext hEw1)).ext hEw2)).chg hCw3 (fun hs => by have h : _ = _ := hs; omega))).ext hEw4)).ext hX5)).ext hEw37)).ext hEw38)).ext hEw39)).chg hCw40 (fun hs => by have h : _ = _ := hs; omega))).ext hEw41)).ext hEw42)).chg hCw43 (fun hs => by have h : _ = _ := hs; omega))).ext hEw44)).ext hEw45)).chg hCw46 (fun hs => by have h : _ = _ := hs; omega))).ext hEw47)).ext hEw48)).chg hCw49 (fun hs => by have h : _ = _ := hs; omega))).ext hEw50)).ext hEw51)).ext hEw52)
      have hK16 := (((((((((((((((((((((((((((((((((((((((((hg1.ext hEw1)).ext hEw2)).chg hCw3 (fun hs => by have h : _ = _ := hs; omega))).ext hEw4)).ext hX5)).ext hEw37)).ext hEw38)).ext hEw39)).chg hCw40 (fun hs => by have h : _ = _ := hs; omega))).ext hEw41)).ext hEw42)).chg hCw43 (fun hs => by have h : _ = _ := hs; omega))).ext hEw44)).ext hEw45)).chg hCw46 (fun hs => by have h : _ = _ := hs; omega))).ext hEw47)).ext hEw48)).chg hCw49 (fun hs => by have h : _ = _ := hs; omega))).ext hEw50)).ext hEw51)).ext hEw52)
      have hK17 := (((((((((((((((((((((((((((((((((((((((((hg2.ext hEw1)).ext hEw2)).chg hCw3 (fun hs => by have h : _ = _ := hs; omega))).ext hEw4)).ext hX5)).ext hEw37)).ext hEw38)).ext hEw39)).chg hCw40 (fun hs => by have h : _ = _ := hs; omega))).ext hEw41)).ext hEw42)).chg hCw43 (fun hs => by have h : _ = _ := hs; omega))).ext hEw44)).ext hEw45)).chg hCw46 (fun hs => by have h : _ = _ := hs; omega))).ext hEw47)).ext hEw48)).chg hCw49 (fun hs => by have h : _ = _ := hs; omega))).ext hEw50)).ext hEw51)).ext hEw52)
      refine wpF_step (op_call (some 72) (c_Snd 1 _ (Ms.nil celC 0 0 _ (by simp)) (by decide) (by decide) hK15 hK16 hK17) ?_)
      rintro _ w53 ⟨rfl, hEw53⟩
      have hzw53 := hEw53.size
      rw [show sndA 1 ([]) = 0 from rfl]
      rw [show sndE 1 ([]) = 16 from rfl]
      refine wpF_run 5 [(13, (vI 16)), (12, (vI 0)), (74, (vI 16)), (73, (vI 0)), (71, (.tuple #[(vI 0), (vI 16)]))] (wpF_end (then_code (wpC_seq (wpC_drawM (Ext w53.drew) 29 [(76, 2, 0), (77, 0, 0), (78, 75557863725914323419136, 2), (79, 188894659314785808547840, 7), (80, 302231454903657293676544, 8), (81, 604462909807314587353088, 24), (82, 1208925819614629174706178, 32), (83, 1208925819614629174706176, 32), (84, 6044629098073145873530880, 160), (85, 13298184015760920921767936, 480), (86, 20551738933448695970004992, 544), (87, 39894552047282762765303808, 1056), (88, 77371252455336267181195264, 2560), (89, 154742504910672534362390530, 4096), (90, 154742504910672534362390528, 4096), (91, 773712524553362671811952640, 20480), (92, 1702167554017397877986295808, 61440), (93, 2630622583481433084160638976, 69632), (94, 5106502662052193633958887424, 135168), (95, 9903520314283042199192993792, 327680), (96, 19807040628566084398385987584, 524288), (97, 59421121885698253195157962752, 1572864), (98, 99035203142830421991929937920, 2621440), (99, 178263365657094759585473888256, 4718592), (100, 316912650057057350374175801344, 10485760), (101, 633825300114114700748351610880, 16777216), (102, 1901475900342344102245054808064, 50331648), (103, 3169126500570573503741758013440, 83886080), (1, 5070602400912917605986812821504, 268435455)] (fun hT539 => ?_)))))
      have hEw54 : Ext w53 w53.drew := Ext.drew w53
      generalize w53.drew = w54 at hEw54 ⊢
      have hzw54 := hEw54.size
      have hK18 := (((((((((((((((hK12.ext hEw47)).ext hEw48)).chg hCw49 (fun hs => by have h : _ = _ := hs; omega))).ext hEw50)).ext hEw51)).ext hEw52)).ext hEw53)).ext hEw54)
      refine anyM_take hT539 0 1 (some 75) (vA (celC (exC 1 4 7))) (yld_val (Instr.loadAt 30 (vP w1.heap.size 0)) (fun w' hC => rn_lda (vs := celC (exC 1 4 7)) ((hK18.ext hC).all) (by rw [celC_len]; kernel_rfl))) (anyM_one 1 3 (op_call (some 76) (c_r15 _) ?_))
      rintro _ w55 ⟨rfl, hEw55⟩
      have hzw55 := hEw55.size
      refine ⟨.inr hEw55, ?_⟩
      refine anyM_take (hw := show Ext w54 w55 from hEw55) hT539 2 7 (some 77) (vA (celC (exC 1 5 7))) (yld_val (Instr.build 30 #[(0, (vA (digC (mkD 1)))), (1, (vQ 5)), (2, (vQ 7))]) (fun w' hC => (run_build_cel (mkD 1) 5 7 (by decide) (by decide)).trans (congrArg (fun z : Cel => Result.ok (Value.agg (celC z).toArray) _) (show (⟨(mkD 1), 5, 7, by decide, by decide⟩ : Cel) = exC 1 5 7 from rfl)))) (anyM_one 3 15 (op_call (some 78) (c_Fol (exC 1 4 7) (exC 1 5 7) _) ?_))
      rintro _ w56 ⟨rfl, hEw56⟩
      have hzw56 := hEw56.size
      rw [show fol (exC 1 4 7) (exC 1 5 7) = 1 from by decide]
      refine ⟨.inr (hEw55.trans hEw56), ?_⟩
      refine anyM_run (hw := show Ext w54 w56 from (hEw55.trans hEw56)) hT539 [(4, 79, vT), (5, 80, vT)] 2 63 (anyM_take (hw := show Ext w54 w56 from (hEw55.trans hEw56)) hT539 6 127 (some 81) (vA (celC (exC 1 4 7))) (yld_val (Instr.loadAt 30 (vP w1.heap.size 0)) (fun w' hC => rn_lda (vs := celC (exC 1 4 7)) ((hK18.ext hC).all) (by rw [celC_len]; kernel_rfl))) (anyM_one 7 255 (op_call (some 82) (c_r15 _) ?_)))
      rintro _ w57 ⟨rfl, hEw57⟩
      have hzw57 := hEw57.size
      refine ⟨.inr ((hEw55.trans hEw56).trans hEw57), ?_⟩
      refine anyM_take (hw := show Ext w54 w57 from ((hEw55.trans hEw56).trans hEw57)) hT539 8 511 (some 83) (vA (celC (exC 1 5 8))) (yld_val (Instr.build 30 #[(0, (vA (digC (mkD 1)))), (1, (vQ 5)), (2, (vQ 8))]) (fun w' hC => (run_build_cel (mkD 1) 5 8 (by decide) (by decide)).trans (congrArg (fun z : Cel => Result.ok (Value.agg (celC z).toArray) _) (show (⟨(mkD 1), 5, 8, by decide, by decide⟩ : Cel) = exC 1 5 8 from rfl)))) (anyM_one 9 1023 (op_call (some 84) (c_Fol (exC 1 4 7) (exC 1 5 8) _) ?_))
      rintro _ w58 ⟨rfl, hEw58⟩
      have hzw58 := hEw58.size
      rw [show fol (exC 1 4 7) (exC 1 5 8) = 0 from by decide]
      have hX6 : Ext w54 w58 := (((hEw55.trans hEw56).trans hEw57).trans hEw58)
      refine ⟨.inr hX6, ?_⟩
      refine anyM_run (hw := show Ext w54 w58 from hX6) hT539 [(10, 85, vT), (11, 86, vT), (12, 87, vT)] 3 8191 (anyM_take (hw := show Ext w54 w58 from hX6) hT539 13 16383 (some 88) (vA (celC (exC 1 4 7))) (yld_val (Instr.loadAt 30 (vP w1.heap.size 0)) (fun w' hC => rn_lda (vs := celC (exC 1 4 7)) ((hK18.ext hC).all) (by rw [celC_len]; kernel_rfl))) (anyM_one 14 32767 (op_call (some 89) (c_s15 _) ?_)))
      rintro _ w59 ⟨rfl, hEw59⟩
      have hzw59 := hEw59.size
      refine ⟨.inr (hX6.trans hEw59), ?_⟩
      refine anyM_take (hw := show Ext w54 w59 from (hX6.trans hEw59)) hT539 15 65535 (some 90) (vA (celC (exC 2 4 8))) (yld_val (Instr.build 30 #[(0, (vA (digC (mkD 2)))), (1, (vQ 4)), (2, (vQ 8))]) (fun w' hC => (run_build_cel (mkD 2) 4 8 (by decide) (by decide)).trans (congrArg (fun z : Cel => Result.ok (Value.agg (celC z).toArray) _) (show (⟨(mkD 2), 4, 8, by decide, by decide⟩ : Cel) = exC 2 4 8 from rfl)))) (anyM_one 16 131071 (op_call (some 91) (c_Fol (exC 1 4 7) (exC 2 4 8) _) ?_))
      rintro _ w60 ⟨rfl, hEw60⟩
      have hzw60 := hEw60.size
      rw [show fol (exC 1 4 7) (exC 2 4 8) = 0 from by decide]
      refine ⟨.inr ((hX6.trans hEw59).trans hEw60), ?_⟩
      refine anyM_run (hw := show Ext w54 w60 from ((hX6.trans hEw59).trans hEw60)) hT539 [(17, 92, vT), (18, 93, vT), (19, 94, vT), (20, 95, (vA (celC (exZ 5 0))))] 4 2097151 (anyM_one 21 4194303 (op_call (some 96) (c_CSlot (exZ 5 0) _) ?_))
      rintro _ w61 ⟨rfl, hEw61⟩
      have hzw61 := hEw61.size
      rw [show (exZ 5 0).ep % 2 = 1 from by decide]
      have hX7 : Ext w54 w61 := (((hX6.trans hEw59).trans hEw60).trans hEw61)
      refine ⟨.inr hX7, ?_⟩
      refine anyM_run (hw := show Ext w54 w61 from hX7) hT539 [(22, 97, vT), (23, 98, vT), (24, 99, vT), (25, 100, (vI 16)), (26, 101, vT), (27, 102, vT), (28, 0, vT)] 7 536870911 (anyM_done (then_code (wpC_ret (body_rets vT ?_))))
      have hX8 : Ext w w61 := (((((((Ext.own (((Ext.own (((Ext.own (((Ext.own ((((((Ext.own (hEw1.trans hEw2) hCw3 (by omega)).trans hEw4).trans hX5).trans hEw37).trans hEw38).trans hEw39) hCw40 (by omega)).trans hEw41).trans hEw42) hCw43 (by omega)).trans hEw44).trans hEw45) hCw46 (by omega)).trans hEw47).trans hEw48) hCw49 (by omega)).trans hEw50).trans hEw51).trans hEw52).trans hEw53).trans hEw54).trans hX7)
      exact ⟨rfl, hX8⟩
  · refine op_new (some 2) (Instr.alloc 30 true (.tuple #[])) (vP w4.heap.size 0) (celC Cel.zero) 30 ?_
    intro w62 hBw62 hEw62
    have hzw62 := hEw62.size; have hlw62 := hBw62.lt
    refine ⟨.inr hEw62, ?_⟩
    refine anyM_one 1 67 (op_call (some 18) (c_s15 _) ?_)
    rintro _ w63 ⟨rfl, hEw63⟩
    have hzw63 := hEw63.size
    refine ⟨.inr (hEw62.trans hEw63), ?_⟩
    refine anyM_one 2 71 (op_call (some 19) (c_CNext (exC 1 4 7) (mkD 2) _ (by decide)) ?_)
    rintro _ w64 ⟨rfl, hEw64⟩
    have hzw64 := hEw64.size
    refine ⟨.inr ((hEw62.trans hEw63).trans hEw64), ?_⟩
    refine anyM_run (hw := show Ext w4 w64 from ((hEw62.trans hEw63).trans hEw64)) hT199 [(3, 16, (.tuple #[(vA (celC ((exC 1 4 7).nxt (mkD 2)))), (vI 0)])), (4, 20, (vA (celC ((exC 1 4 7).nxt (mkD 2))))), (5, 21, (vI 0))] 3 127 (anyM_one 7 255 (op_store 30 w4.heap.size 0 30 (vA (celC ((exC 1 4 7).nxt (mkD 2)))) (celC Cel.zero) (celC ((exC 1 4 7).nxt (mkD 2))) (((hBw62.ext hEw63)).ext hEw64) (by rw [celC_len]; kernel_rfl) (by first | (simp; done) | (simp; omega)) (celC_one _) ?_))
    intro w65 hBw65 hCw65
    have hzw65 := hCw65.size
    rw [setFrom_all _ _ (by simp)] at hBw65
    have hX9 : Ext w4 w65 := (Ext.own ((hEw62.trans hEw63).trans hEw64) hCw65 (by omega))
    refine ⟨.inr hX9, ?_⟩
    refine anyM_run (hw := show Ext w4 w65 from hX9) hT199 [(8, 3, (vI 0))] 1 511 (anyM_done (then_code (wpC_seq (wpC_region (wpF_run 1 [(23, (vA (celC (exZ 18446744073709551615 0))))] (wpF_step (op_call (some 24) (c_s15 _) ?_)))))))
    rintro _ w66 ⟨rfl, hEw66⟩
    have hzw66 := hEw66.size
    refine wpF_step (op_call (some 25) (c_CNextBad (exZ 18446744073709551615 0) (mkD 2) _ (by decide)) ?_)
    rintro _ w67 ⟨rfl, hEw67⟩
    have hzw67 := hEw67.size
    refine wpF_run 3 [(27, (vI 3)), (26, (vA (celC Cel.zero))), (22, (.tuple #[(vA (celC Cel.zero)), (vI 3)]))] (wpF_step (op_new (some 4) (Instr.alloc 30 true (.tuple #[])) (vP w67.heap.size 0) (celC Cel.zero) 30 ?_))
    intro w68 hBw68 hEw68
    have hzw68 := hEw68.size; have hlw68 := hBw68.lt
    refine wpF_step (op_store 30 w67.heap.size 0 30 (vA (celC Cel.zero)) (celC Cel.zero) (celC Cel.zero) hBw68 (by rw [celC_len]; kernel_rfl) (by first | (simp; done) | (simp; omega)) (celC_one _) ?_)
    intro w69 hBw69 hCw69
    have hzw69 := hCw69.size
    rw [setFrom_all _ _ (by simp)] at hBw69
    refine wpF_run 1 [(5, (vI 3))] (wpF_end (then_code (wpC_seq (wpC_region ?_))))
    have hK19 := (((((((((((hBw3.ext hEw4)).ext hX9)).ext hEw66)).ext hEw67)).ext hEw68)).chg hCw69 (fun hs => by have h : _ = _ := hs; omega))
    refine wpF_step (op_v (some 29) (Instr.loadAt 30 (vP w1.heap.size 0)) (vA (celC (exC 1 4 7))) (rn_lda (vs := celC (exC 1 4 7)) (hK19.all) (by rw [celC_len]; kernel_rfl)) ?_)
    refine wpF_step (op_call (some 30) (c_Rsv (exC 1 4 7) 3 10 _ (by decide) (by decide) (by decide)) ?_)
    rintro _ w70 ⟨rfl, hEw70⟩
    have hzw70 := hEw70.size
    refine wpF_run 3 [(32, (vI 0)), (31, (vA (celC ((exC 1 4 7).rsv 3)))), (28, (.tuple #[(vA (celC ((exC 1 4 7).rsv 3))), (vI 0)]))] (wpF_step (op_new (some 6) (Instr.alloc 30 true (.tuple #[])) (vP w70.heap.size 0) (celC Cel.zero) 30 ?_))
    intro w71 hBw71 hEw71
    have hzw71 := hEw71.size; have hlw71 := hBw71.lt
    refine wpF_step (op_store 30 w70.heap.size 0 30 (vA (celC ((exC 1 4 7).rsv 3))) (celC Cel.zero) (celC ((exC 1 4 7).rsv 3)) hBw71 (by rw [celC_len]; kernel_rfl) (by first | (simp; done) | (simp; omega)) (celC_one _) ?_)
    intro w72 hBw72 hCw72
    have hzw72 := hCw72.size
    rw [setFrom_all _ _ (by simp)] at hBw72
    refine wpF_run 1 [(7, (vI 0))] (wpF_end (then_code (wpC_seq (wpC_region ?_))))
    have hK20 := (((((hK19.ext hEw70)).ext hEw71)).chg hCw72 (fun hs => by have h : _ = _ := hs; omega))
    refine wpF_step (op_v (some 34) (Instr.loadAt 30 (vP w1.heap.size 0)) (vA (celC (exC 1 4 7))) (rn_lda (vs := celC (exC 1 4 7)) (hK20.all) (by rw [celC_len]; kernel_rfl)) ?_)
    refine wpF_step (op_call (some 35) (c_RsvBad (exC 1 4 7) 4 10 _ (by decide) (by decide) (by decide)) ?_)
    rintro _ w73 ⟨rfl, hEw73⟩
    have hzw73 := hEw73.size
    refine wpF_run 3 [(37, (vI 8)), (36, (vA (celC Cel.zero))), (33, (.tuple #[(vA (celC Cel.zero)), (vI 8)]))] (wpF_step (op_new (some 8) (Instr.alloc 30 true (.tuple #[])) (vP w73.heap.size 0) (celC Cel.zero) 30 ?_))
    intro w74 hBw74 hEw74
    have hzw74 := hEw74.size; have hlw74 := hBw74.lt
    refine wpF_step (op_store 30 w73.heap.size 0 30 (vA (celC Cel.zero)) (celC Cel.zero) (celC Cel.zero) hBw74 (by rw [celC_len]; kernel_rfl) (by first | (simp; done) | (simp; omega)) (celC_one _) ?_)
    intro w75 hBw75 hCw75
    have hzw75 := hCw75.size
    rw [setFrom_all _ _ (by simp)] at hBw75
    refine wpF_run 1 [(9, (vI 8))] (wpF_end (then_code (wpC_seq (wpC_region ?_))))
    have hK21 := (((((hK20.ext hEw73)).ext hEw74)).chg hCw75 (fun hs => by have h : _ = _ := hs; omega))
    refine wpF_step (op_v (some 39) (Instr.loadAt 30 (vP w1.heap.size 0)) (vA (celC (exC 1 4 7))) (rn_lda (vs := celC (exC 1 4 7)) (hK21.all) (by rw [celC_len]; kernel_rfl)) ?_)
    refine wpF_step (op_call (some 40) (c_RsvArg (exC 1 4 7) 0 10 _ (by first | omega | decide)) ?_)
    rintro _ w76 ⟨rfl, hEw76⟩
    have hzw76 := hEw76.size
    refine wpF_run 3 [(42, (vI 1)), (41, (vA (celC Cel.zero))), (38, (.tuple #[(vA (celC Cel.zero)), (vI 1)]))] (wpF_step (op_new (some 10) (Instr.alloc 30 true (.tuple #[])) (vP w76.heap.size 0) (celC Cel.zero) 30 ?_))
    intro w77 hBw77 hEw77
    have hzw77 := hEw77.size; have hlw77 := hBw77.lt
    refine wpF_step (op_store 30 w76.heap.size 0 30 (vA (celC Cel.zero)) (celC Cel.zero) (celC Cel.zero) hBw77 (by rw [celC_len]; kernel_rfl) (by first | (simp; done) | (simp; omega)) (celC_one _) ?_)
    intro w78 hBw78 hCw78
    have hzw78 := hCw78.size
    rw [setFrom_all _ _ (by simp)] at hBw78
    refine wpF_run 1 [(11, (vI 1))] (wpF_end (then_code (wpC_seq (wpC_seq (wpC_drawM (Ext w78.drew) 28 [(44, 4, 0), (45, 0, 0), (46, 17592186044416, 2), (47, 43980465111040, 5), (48, 70368744177664, 10), (49, 140737488355392, 16), (50, 140737488355328, 16), (51, 703687441776640, 80), (52, 1548112371908608, 176), (53, 2392537302040576, 272), (54, 4503599627370496, 576), (55, 9007199254741000, 1024), (56, 9007199254741120, 1024), (57, 63050394783186944, 7168), (58, 81064793292668928, 9216), (59, 153122387330596864, 17408), (60, 288230376151711744, 33792), (61, 576460752303423520, 65536), (62, 1729382256910270464, 196608), (63, 2882303761517117440, 327680), (64, 4611686018427387904, 589824), (65, 9223372036854776320, 1048576), (66, 27670116110564327424, 3145728), (67, 46116860184273879040, 5242880), (68, 73786976294838206464, 9437184), (69, 147573952589676414976, 16777216), (70, 442721857769029238784, 50331648), (71, 737869762948382064640, 83886080)] (fun hT692 => ?_))))))
    have hEw79 : Ext w78 w78.drew := Ext.drew w78
    generalize w78.drew = w79 at hEw79 ⊢
    have hzw79 := hEw79.size
    have hK22 := (((((((((((((((((((((((((((hBw65.ext hEw66)).ext hEw67)).ext hEw68)).chg hCw69 (fun hs => by have h : _ = _ := hs; omega))).ext hEw70)).ext hEw71)).chg hCw72 (fun hs => by have h : _ = _ := hs; omega))).ext hEw73)).ext hEw74)).chg hCw75 (fun hs => by have h : _ = _ := hs; omega))).ext hEw76)).ext hEw77)).chg hCw78 (fun hs => by have h : _ = _ := hs; omega))).ext hEw79)
    refine anyM_take hT692 0 1 (some 43) (vA (celC ((exC 1 4 7).nxt (mkD 2)))) (yld_val (Instr.loadAt 30 (vP w4.heap.size 0)) (fun w' hC => rn_lda (vs := celC ((exC 1 4 7).nxt (mkD 2))) ((hK22.ext hC).all) (by rw [celC_len]; kernel_rfl))) (anyM_one 1 3 (op_call (some 44) (c_s15 _) ?_))
    rintro _ w80 ⟨rfl, hEw80⟩
    have hzw80 := hEw80.size
    refine ⟨.inr hEw80, ?_⟩
    refine anyM_take (hw := show Ext w79 w80 from hEw80) hT692 2 7 (some 45) (vA (celC (exC 2 5 7))) (yld_val (Instr.build 30 #[(0, (vA (digC (mkD 2)))), (1, (vQ 5)), (2, (vQ 7))]) (fun w' hC => (run_build_cel (mkD 2) 5 7 (by decide) (by decide)).trans (congrArg (fun z : Cel => Result.ok (Value.agg (celC z).toArray) _) (show (⟨(mkD 2), 5, 7, by decide, by decide⟩ : Cel) = exC 2 5 7 from rfl)))) (anyM_take (hw := show Ext w79 w80 from hEw80) hT692 3 15 (some 46) vF (yld_val (bo .neq 30 (.tmp 43) (.tmp 45) (vA (celC ((exC 1 4 7).nxt (mkD 2)))) (vA (celC (exC 2 5 7)))) (fun w' hC => run_neqAgg (r := true) (T := 30) ((run_eq_cel (dd := 9997) (t := 30) (td := 27) (e := 5) (t64 := 28) ((exC 1 4 7).nxt (mkD 2)) (exC 2 5 7)).trans (congrArg (fun b => Result.ok b _) (show (((exC 1 4 7).nxt (mkD 2)).eqb (exC 2 5 7)) = true from cel_eq rfl))))) (anyM_run (hw := show Ext w79 w80 from hEw80) hT692 [(4, 47, vF)] 1 31 ?_))
    have hK23 := (((((((((((((hBw72.ext hEw73)).ext hEw74)).chg hCw75 (fun hs => by have h : _ = _ := hs; omega))).ext hEw76)).ext hEw77)).chg hCw78 (fun hs => by have h : _ = _ := hs; omega))).ext hEw79)
    refine anyM_take (hw := show Ext w79 w80 from hEw80) hT692 5 63 (some 48) (vA (celC ((exC 1 4 7).rsv 3))) (yld_val (Instr.loadAt 30 (vP w70.heap.size 0)) (fun w' hC => rn_lda (vs := celC ((exC 1 4 7).rsv 3)) ((hK23.ext hC).all) (by rw [celC_len]; kernel_rfl))) (anyM_one 6 127 (op_call (some 49) (c_r15 _) ?_))
    rintro _ w81 ⟨rfl, hEw81⟩
    have hzw81 := hEw81.size
    refine ⟨.inr (hEw80.trans hEw81), ?_⟩
    refine anyM_take (hw := show Ext w79 w81 from (hEw80.trans hEw81)) hT692 7 255 (some 50) (vA (celC (exC 1 4 10))) (yld_val (Instr.build 30 #[(0, (vA (digC (mkD 1)))), (1, (vQ 4)), (2, (vQ 10))]) (fun w' hC => (run_build_cel (mkD 1) 4 10 (by decide) (by decide)).trans (congrArg (fun z : Cel => Result.ok (Value.agg (celC z).toArray) _) (show (⟨(mkD 1), 4, 10, by decide, by decide⟩ : Cel) = exC 1 4 10 from rfl)))) (anyM_take (hw := show Ext w79 w81 from (hEw80.trans hEw81)) hT692 8 511 (some 51) vF (yld_val (bo .neq 30 (.tmp 48) (.tmp 50) (vA (celC ((exC 1 4 7).rsv 3))) (vA (celC (exC 1 4 10)))) (fun w' hC => run_neqAgg (r := true) (T := 30) ((run_eq_cel (dd := 9997) (t := 30) (td := 27) (e := 5) (t64 := 28) ((exC 1 4 7).rsv 3) (exC 1 4 10)).trans (congrArg (fun b => Result.ok b _) (show (((exC 1 4 7).rsv 3).eqb (exC 1 4 10)) = true from cel_eq rfl))))) (anyM_run (hw := show Ext w79 w81 from (hEw80.trans hEw81)) hT692 [(9, 52, vF), (10, 53, vF), (11, 54, (vI 0)), (12, 55, (vI 0))] 4 8191 (anyM_take (hw := show Ext w79 w81 from (hEw80.trans hEw81)) hT692 13 16383 (some 56) (vI 0) (yld_in .i64 (IntKind.i64.wrap (((0 : Nat) : Int) + ((0 : Nat) : Int))) (wrapS (by omega) (by omega) (by omega))) (anyM_run (hw := show Ext w79 w81 from (hEw80.trans hEw81)) hT692 [(14, 57, vF), (15, 58, vF), (16, 59, vF), (17, 60, (vI 3)), (18, 61, vF), (19, 62, vF), (20, 63, vF), (21, 64, (vI 8)), (22, 65, vF), (23, 66, vF), (24, 67, vF), (25, 68, (vI 1)), (26, 69, vF), (27, 70, vF)] 14 268435455 (anyM_done (then_code (wpC_false (wpC_skip (then_code ?_)))))))))
    refine wpC_seq (wpC_region ?_)
    have hK24 := (((((((((((((((((((((((((((((((((((((((((hg0.ext hEw1)).ext hEw2)).chg hCw3 (fun hs => by have h : _ = _ := hs; omega))).ext hEw4)).ext hX9)).ext hEw66)).ext hEw67)).ext hEw68)).chg hCw69 (fun hs => by have h : _ = _ := hs; omega))).ext hEw70)).ext hEw71)).chg hCw72 (fun hs => by have h : _ = _ := hs; omega))).ext hEw73)).ext hEw74)).chg hCw75 (fun hs => by have h : _ = _ := hs; omega))).ext hEw76)).ext hEw77)).chg hCw78 (fun hs => by have h : _ = _ := hs; omega))).ext hEw79)).ext hEw80)).ext hEw81)
    have hK25 := (((((((((((((((((((((((((((((((((((((((((hg1.ext hEw1)).ext hEw2)).chg hCw3 (fun hs => by have h : _ = _ := hs; omega))).ext hEw4)).ext hX9)).ext hEw66)).ext hEw67)).ext hEw68)).chg hCw69 (fun hs => by have h : _ = _ := hs; omega))).ext hEw70)).ext hEw71)).chg hCw72 (fun hs => by have h : _ = _ := hs; omega))).ext hEw73)).ext hEw74)).chg hCw75 (fun hs => by have h : _ = _ := hs; omega))).ext hEw76)).ext hEw77)).chg hCw78 (fun hs => by have h : _ = _ := hs; omega))).ext hEw79)).ext hEw80)).ext hEw81)
    have hK26 := (((((((((((((((((((((((((((((((((((((((((hg2.ext hEw1)).ext hEw2)).chg hCw3 (fun hs => by have h : _ = _ := hs; omega))).ext hEw4)).ext hX9)).ext hEw66)).ext hEw67)).ext hEw68)).chg hCw69 (fun hs => by have h : _ = _ := hs; omega))).ext hEw70)).ext hEw71)).chg hCw72 (fun hs => by have h : _ = _ := hs; omega))).ext hEw73)).ext hEw74)).chg hCw75 (fun hs => by have h : _ = _ := hs; omega))).ext hEw76)).ext hEw77)).chg hCw78 (fun hs => by have h : _ = _ := hs; omega))).ext hEw79)).ext hEw80)).ext hEw81)
    refine wpF_step (op_call (some 72) (c_Snd 1 _ (Ms.nil celC 0 0 _ (by simp)) (by decide) (by decide) hK24 hK25 hK26) ?_)
    rintro _ w82 ⟨rfl, hEw82⟩
    have hzw82 := hEw82.size
    rw [show sndA 1 ([]) = 0 from rfl]
    rw [show sndE 1 ([]) = 16 from rfl]
    refine wpF_run 5 [(13, (vI 16)), (12, (vI 0)), (74, (vI 16)), (73, (vI 0)), (71, (.tuple #[(vI 0), (vI 16)]))] (wpF_end (then_code (wpC_seq (wpC_drawM (Ext w82.drew) 29 [(76, 2, 0), (77, 0, 0), (78, 75557863725914323419136, 2), (79, 188894659314785808547840, 7), (80, 302231454903657293676544, 8), (81, 604462909807314587353088, 24), (82, 1208925819614629174706178, 32), (83, 1208925819614629174706176, 32), (84, 6044629098073145873530880, 160), (85, 13298184015760920921767936, 480), (86, 20551738933448695970004992, 544), (87, 39894552047282762765303808, 1056), (88, 77371252455336267181195264, 2560), (89, 154742504910672534362390530, 4096), (90, 154742504910672534362390528, 4096), (91, 773712524553362671811952640, 20480), (92, 1702167554017397877986295808, 61440), (93, 2630622583481433084160638976, 69632), (94, 5106502662052193633958887424, 135168), (95, 9903520314283042199192993792, 327680), (96, 19807040628566084398385987584, 524288), (97, 59421121885698253195157962752, 1572864), (98, 99035203142830421991929937920, 2621440), (99, 178263365657094759585473888256, 4718592), (100, 316912650057057350374175801344, 10485760), (101, 633825300114114700748351610880, 16777216), (102, 1901475900342344102245054808064, 50331648), (103, 3169126500570573503741758013440, 83886080), (1, 5070602400912917605986812821504, 268435455)] (fun hT735 => ?_)))))
    have hEw83 : Ext w82 w82.drew := Ext.drew w82
    generalize w82.drew = w83 at hEw83 ⊢
    have hzw83 := hEw83.size
    have hK27 := (((((((((((((((hK21.ext hEw76)).ext hEw77)).chg hCw78 (fun hs => by have h : _ = _ := hs; omega))).ext hEw79)).ext hEw80)).ext hEw81)).ext hEw82)).ext hEw83)
    refine anyM_take hT735 0 1 (some 75) (vA (celC (exC 1 4 7))) (yld_val (Instr.loadAt 30 (vP w1.heap.size 0)) (fun w' hC => rn_lda (vs := celC (exC 1 4 7)) ((hK27.ext hC).all) (by rw [celC_len]; kernel_rfl))) (anyM_one 1 3 (op_call (some 76) (c_r15 _) ?_))
    rintro _ w84 ⟨rfl, hEw84⟩
    have hzw84 := hEw84.size
    refine ⟨.inr hEw84, ?_⟩
    refine anyM_take (hw := show Ext w83 w84 from hEw84) hT735 2 7 (some 77) (vA (celC (exC 1 5 7))) (yld_val (Instr.build 30 #[(0, (vA (digC (mkD 1)))), (1, (vQ 5)), (2, (vQ 7))]) (fun w' hC => (run_build_cel (mkD 1) 5 7 (by decide) (by decide)).trans (congrArg (fun z : Cel => Result.ok (Value.agg (celC z).toArray) _) (show (⟨(mkD 1), 5, 7, by decide, by decide⟩ : Cel) = exC 1 5 7 from rfl)))) (anyM_one 3 15 (op_call (some 78) (c_Fol (exC 1 4 7) (exC 1 5 7) _) ?_))
    rintro _ w85 ⟨rfl, hEw85⟩
    have hzw85 := hEw85.size
    rw [show fol (exC 1 4 7) (exC 1 5 7) = 1 from by decide]
    refine ⟨.inr (hEw84.trans hEw85), ?_⟩
    refine anyM_run (hw := show Ext w83 w85 from (hEw84.trans hEw85)) hT735 [(4, 79, vT), (5, 80, vT)] 2 63 (anyM_take (hw := show Ext w83 w85 from (hEw84.trans hEw85)) hT735 6 127 (some 81) (vA (celC (exC 1 4 7))) (yld_val (Instr.loadAt 30 (vP w1.heap.size 0)) (fun w' hC => rn_lda (vs := celC (exC 1 4 7)) ((hK27.ext hC).all) (by rw [celC_len]; kernel_rfl))) (anyM_one 7 255 (op_call (some 82) (c_r15 _) ?_)))
    rintro _ w86 ⟨rfl, hEw86⟩
    have hzw86 := hEw86.size
    refine ⟨.inr ((hEw84.trans hEw85).trans hEw86), ?_⟩
    refine anyM_take (hw := show Ext w83 w86 from ((hEw84.trans hEw85).trans hEw86)) hT735 8 511 (some 83) (vA (celC (exC 1 5 8))) (yld_val (Instr.build 30 #[(0, (vA (digC (mkD 1)))), (1, (vQ 5)), (2, (vQ 8))]) (fun w' hC => (run_build_cel (mkD 1) 5 8 (by decide) (by decide)).trans (congrArg (fun z : Cel => Result.ok (Value.agg (celC z).toArray) _) (show (⟨(mkD 1), 5, 8, by decide, by decide⟩ : Cel) = exC 1 5 8 from rfl)))) (anyM_one 9 1023 (op_call (some 84) (c_Fol (exC 1 4 7) (exC 1 5 8) _) ?_))
    rintro _ w87 ⟨rfl, hEw87⟩
    have hzw87 := hEw87.size
    rw [show fol (exC 1 4 7) (exC 1 5 8) = 0 from by decide]
    have hX10 : Ext w83 w87 := (((hEw84.trans hEw85).trans hEw86).trans hEw87)
    refine ⟨.inr hX10, ?_⟩
    refine anyM_run (hw := show Ext w83 w87 from hX10) hT735 [(10, 85, vT), (11, 86, vT), (12, 87, vT)] 3 8191 (anyM_take (hw := show Ext w83 w87 from hX10) hT735 13 16383 (some 88) (vA (celC (exC 1 4 7))) (yld_val (Instr.loadAt 30 (vP w1.heap.size 0)) (fun w' hC => rn_lda (vs := celC (exC 1 4 7)) ((hK27.ext hC).all) (by rw [celC_len]; kernel_rfl))) (anyM_one 14 32767 (op_call (some 89) (c_s15 _) ?_)))
    rintro _ w88 ⟨rfl, hEw88⟩
    have hzw88 := hEw88.size
    refine ⟨.inr (hX10.trans hEw88), ?_⟩
    refine anyM_take (hw := show Ext w83 w88 from (hX10.trans hEw88)) hT735 15 65535 (some 90) (vA (celC (exC 2 4 8))) (yld_val (Instr.build 30 #[(0, (vA (digC (mkD 2)))), (1, (vQ 4)), (2, (vQ 8))]) (fun w' hC => (run_build_cel (mkD 2) 4 8 (by decide) (by decide)).trans (congrArg (fun z : Cel => Result.ok (Value.agg (celC z).toArray) _) (show (⟨(mkD 2), 4, 8, by decide, by decide⟩ : Cel) = exC 2 4 8 from rfl)))) (anyM_one 16 131071 (op_call (some 91) (c_Fol (exC 1 4 7) (exC 2 4 8) _) ?_))
    rintro _ w89 ⟨rfl, hEw89⟩
    have hzw89 := hEw89.size
    rw [show fol (exC 1 4 7) (exC 2 4 8) = 0 from by decide]
    refine ⟨.inr ((hX10.trans hEw88).trans hEw89), ?_⟩
    refine anyM_run (hw := show Ext w83 w89 from ((hX10.trans hEw88).trans hEw89)) hT735 [(17, 92, vT), (18, 93, vT), (19, 94, vT), (20, 95, (vA (celC (exZ 5 0))))] 4 2097151 (anyM_one 21 4194303 (op_call (some 96) (c_CSlot (exZ 5 0) _) ?_))
    rintro _ w90 ⟨rfl, hEw90⟩
    have hzw90 := hEw90.size
    rw [show (exZ 5 0).ep % 2 = 1 from by decide]
    have hX11 : Ext w83 w90 := (((hX10.trans hEw88).trans hEw89).trans hEw90)
    refine ⟨.inr hX11, ?_⟩
    refine anyM_run (hw := show Ext w83 w90 from hX11) hT735 [(22, 97, vT), (23, 98, vT), (24, 99, vT), (25, 100, (vI 16)), (26, 101, vT), (27, 102, vT), (28, 0, vT)] 7 536870911 (anyM_done (then_code (wpC_ret (body_rets vT ?_))))
    have hX12 : Ext w w90 := (((((((Ext.own (((Ext.own (((Ext.own (((Ext.own ((((((Ext.own (hEw1.trans hEw2) hCw3 (by omega)).trans hEw4).trans hX9).trans hEw66).trans hEw67).trans hEw68) hCw69 (by omega)).trans hEw70).trans hEw71) hCw72 (by omega)).trans hEw73).trans hEw74) hCw75 (by omega)).trans hEw76).trans hEw77) hCw78 (by omega)).trans hEw79).trans hEw80).trans hEw81).trans hEw82).trans hEw83).trans hX11)
    exact ⟨rfl, hX12⟩

end Go.Proofs.YthjplefmfjkhfaaDoor
