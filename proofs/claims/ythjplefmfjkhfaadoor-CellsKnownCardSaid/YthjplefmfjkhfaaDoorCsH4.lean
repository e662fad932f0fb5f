/- CsH4: what each function does, by its own code. No condition beyond those of each statement. -/
import Derived.Test.YthjplefmfjkhfaaDoorCsH3
namespace Go.Proofs.YthjplefmfjkhfaaDoor
open Go Go.RowKit Go.Cs
set_option maxRecDepth 100000
set_option linter.all false
set_option linter.unusedVariables false

theorem c_ssum (s : Sta) (l : List UInt8) (w : World) (hp0 : Sm s l) (hp1 : l.length < 1099511627776) (hg2 : Gl 2 (w64C kA) w) :
    Calls Tryd.prog 54 #[(vA (stC s))] w (Ret fun r w' => r = (vA (digC (shaD l))) ∧ Ext w w') := by
  refine calls_of (n := 37) (σ := [(0, (vA (stC s)))]) Tryd.func54 rfl ?_
  have hgl2 := hg2.lt
  have hs0 : s.many = l.length := hp0.many
  refine wpC_seq (wpC_region (wpF_step (op_new (some 1) (Instr.box 114 (vA (stC s))) (vP w.heap.size 0) (stC s) 114 ?_)))
  intro w1 hBw1 hEw1
  have hzw1 := hEw1.size; have hlw1 := hBw1.lt
  refine wpF_step (op_new (some 2) (Instr.alloc 27 true (.tuple #[])) (vP w1.heap.size 0) (digC Dig.zero) 27 ?_)
  intro w2 hBw2 hEw2
  have hzw2 := hEw2.size; have hlw2 := hBw2.lt
  refine wpF_end (then_code (wpC_seq (wpC_region (wpF_run 1 [(6, (vP w.heap.size 73))] (wpF_step (op_v (some 7) (Instr.loadAt 28 (vP w.heap.size 73)) (vQ s.many) (rn_ld ((hBw1.ext hEw2).cell (st_many _))) ?_))))))
  refine wpF_run 1 [(3, (vQ s.many))] (wpF_end (then_code (wpC_seq (wpC_region (wpF_step (op_v (some 8) (Instr.loadAt 114 (vP w.heap.size 0)) (vA (stC s)) (rn_lda (vs := stC s) ((hBw1.ext hEw2).all) (by rw [stC_len]; kernel_rfl)) ?_))))))
  refine wpF_step (op_new (some 9) (Instr.buildSlice 91 1 #[(0, (vB 128))]) (.slice (pA w2.heap.size 0) 1 1) [(vB 128)] 5 ?_)
  intro w3 hBw3 hEw3
  have hzw3 := hEw3.size; have hlw3 := hBw3.lt
  have hSw3 : Bs w2.heap.size (w2.heap.size + 1) w3 (pA w2.heap.size 0) 1 1 [128] := Bs.of_blk hBw3 (by kernel_rfl) rfl (Nat.le_refl _) (by decide) (Nat.le_refl _) (Nat.lt_succ_self _)
  have hK1 := (((((hg2.ext hEw1)).ext hEw2)).ext hEw3)
  refine wpF_step (op_call (some 10) (c_write s l _ hSw3 (hp0) (by first | omega | (simp; omega)) hK1) ?_)
  rintro _ w4 ⟨a1, rfl, hFz1_0, hEw4⟩
  have hzw4 := hEw4.size
  have hK2 := (((((hBw1.ext hEw2)).ext hEw3)).ext hEw4)
  refine wpF_step (op_store 114 w.heap.size 0 114 (vA (stC a1)) (stC s) (stC a1) hK2 (by rw [stC_len]; kernel_rfl) (by first | (simp; done) | (simp; omega)) (stC_one _) ?_)
  have hK3 := (((((hBw1.ext hEw2)).ext hEw3)).ext hEw4)
  intro w5 hBw5 hCw5
  have hzw5 := hCw5.size
  rw [setFrom_all _ _ (by simp)] at hBw5
  refine wpF_end (then_code (wpC_seq (wpC_block ?_)))
  have hK4 := (((((hBw2.ext hEw3)).ext hEw4)).chg hCw5 (fun hs => by have h : _ = _ := hs; omega))
  have hX1 : Ext w w5 := (Ext.own (((hEw1.trans hEw2).trans hEw3).trans hEw4) hCw5 (by omega))
  refine wpC_loop (X := Nat × Sta) (fun ⟨z, y⟩ => []) [11, 12, 13, 14, 15, 16, 17] (fun ⟨z, y⟩ w6 => z ≤ padZ l.length ∧ Sm y (l ++ [128] ++ List.replicate z 0) ∧ Blk w6 w.heap.size (stC y) 114 ∧ Blk w6 w1.heap.size (digC Dig.zero) 27 ∧ Ext w w6) (fun ⟨z, y⟩ => padZ l.length - z) (0, a1) (by kernel_rfl) ⟨Nat.zero_le _, by rw [List.replicate_zero, List.append_nil]; exact hFz1_0, hBw5, hK4, hX1⟩ ?_
  rintro ⟨z, y⟩ dw6 w6 ⟨hz, hsm, hB1, hB2, hEl⟩
  have hzl := hEl.size
  have hl1 := hB1.lt; have hl2 := hB2.lt
  have hmy : y.many = l.length + 1 + z := hsm.many.trans (by simp; omega)
  have hpz : padZ l.length = (119 - l.length % 64) % 64 := rfl
  refine wpC_seq (wpC_seq (wpC_region (wpF_run 1 [(11, (vP w.heap.size 73))] (wpF_step (op_v (some 12) (Instr.loadAt 28 (vP w.heap.size 73)) (vQ y.many) (rn_ld (hB1.cell (st_many _))) ?_)))))
  refine wpF_step (op_in (some 13) .u64 (((y.many : Nat) : Int).tmod ((64 : Nat) : Int)) (y.many % 64) (tmodN _ _) ?_)
  refine wpF_step (op_split (some 14) ((((y.many % 64 : Nat) : Int) != ((56 : Nat) : Int))) (fun hc14 => ?_) (fun hc14 => ?_))
  · replace hc14 : ¬ (y.many % 64 = 56) := by have := of_ne_t hc14; omega
    refine wpF_end (then_code (wpC_true (wpC_skip (then_code (wpC_block (wpC_region (wpF_step (op_v (some 15) (Instr.loadAt 114 (vP w.heap.size 0)) (vA (stC y)) (rn_lda (vs := stC y) (hB1.all) (by rw [stC_len]; kernel_rfl)) ?_))))))))
    refine wpF_step (op_new (some 16) (Instr.buildSlice 91 1 #[(0, (vB 0))]) (.slice (pA w6.heap.size 0) 1 1) [(vB 0)] 5 ?_)
    intro w7 hBw7 hEw7
    have hzw7 := hEw7.size; have hlw7 := hBw7.lt
    have hSw7 : Bs w6.heap.size (w6.heap.size + 1) w7 (pA w6.heap.size 0) 1 1 [0] := Bs.of_blk hBw7 (by kernel_rfl) rfl (Nat.le_refl _) (by decide) (Nat.le_refl _) (Nat.lt_succ_self _)
    refine wpF_step (op_call (some 17) (c_write y (l ++ [128] ++ List.replicate z 0) _ hSw7 (hsm) (by first | omega | (simp; omega)) (((hg2.ext hEl)).ext hEw7)) ?_)
    rintro _ w8 ⟨a2, rfl, hFz2_0, hEw8⟩
    have hzw8 := hEw8.size
    refine wpF_step (op_store 114 w.heap.size 0 114 (vA (stC a2)) (stC y) (stC a2) (((hB1.ext hEw7)).ext hEw8) (by rw [stC_len]; kernel_rfl) (by first | (simp; done) | (simp; omega)) (stC_one _) ?_)
    intro w9 hBw9 hCw9
    have hzw9 := hCw9.size
    rw [setFrom_all _ _ (by simp)] at hBw9
    refine wpF_end (inBlock_normal (then_normal ?_))
    have hK5 := (((((hB2.ext hEw7)).ext hEw8)).chg hCw9 (fun hs => by have h : _ = _ := hs; omega))
    have hX2 : Ext w w9 := (Ext.own ((hEl.trans hEw7).trans hEw8) hCw9 (by omega))
    refine endR_mk (z + 1, a2) ?_ ?_
    · exact ⟨by omega, by have hz := hFz2_0; rw [List.append_assoc] at hz; rw [List.replicate_succ']; exact hz, hBw9, hK5, hX2⟩
    · first | omega | (dsimp only; omega)
  · replace hc14 : y.many % 64 = 56 := by have := of_ne_f hc14; omega
    refine wpF_end (then_code (wpC_false (wpC_exit (then_exit (then_exit (inBlock_exit (then_code (wpC_seq (wpC_drawM (Chg (fun k => k = w.heap.size) w6.drew) 6 [(19, 2, 0), (20, 8, 0), (21, 524288, 2), (22, 1048576, 4), (23, 2359296, 9), (0, 4194306, 31)] (fun hT96 => ?_))))))))))
    have hEw10 : Ext w6 w6.drew := Ext.drew w6
    generalize w6.drew = w10 at hEw10 ⊢
    have hzw10 := hEw10.size
    refine anyM_run (hw := show Chg (fun k => k = w.heap.size) w10 w10 from (Chg.refl (fun k => k = w.heap.size) w10)) hT96 [(1, 19, (vQ s.many))] 1 2 (anyM_take (hw := show Chg (fun k => k = w.heap.size) w10 w10 from (Chg.refl (fun k => k = w.heap.size) w10)) hT96 2 6 (some 20) (vQ (8 * l.length % 2 ^ 64)) (yld_in .u64 (IntKind.u64.wrap (((8 : Nat) : Int) * ((s.many : Nat) : Int))) (by rw [hs0]; exact wrapU rfl (by simp))) (anyM_two 0 3 7 14 ?_ ?_))
    · refine op_v (some 18) (Instr.loadAt 114 (vP w.heap.size 0)) (vA (stC y)) (rn_lda (vs := stC y) ((hB1.ext hEw10).all) (by rw [stC_len]; kernel_rfl)) (⟨.inr (Chg.refl (fun k => k = w.heap.size) w10), ?_⟩)
      refine anyM_one 3 15 (op_call (some 21) (c_Put64 (8 * l.length % 2 ^ 64) _) ?_)
      rintro _ w11 ⟨a3, rfl, hFz3_0, hEw11⟩
      have hzw11 := hEw11.size
      refine ⟨.inr ((Chg.refl (fun k => k = w.heap.size) w10).trans hEw11.chg), ?_⟩
      have hK6 := (((((hg2.ext hEl)).ext hEw10)).ext hEw11)
      refine anyM_one 4 31 (op_call (some 22) (c_write y (l ++ [128] ++ List.replicate z 0) _ hFz3_0 (hsm) (by first | omega | (simp; omega)) hK6) ?_)
      rintro _ w12 ⟨a4, rfl, hFz4_0, hEw12⟩
      have hzw12 := hEw12.size
      refine ⟨.inr (((Chg.refl (fun k => k = w.heap.size) w10).trans hEw11.chg).trans hEw12.chg), ?_⟩
      have hK7 := (((((hB1.ext hEw10)).ext hEw11)).ext hEw12)
      refine anyM_one 5 63 (op_store 114 w.heap.size 0 114 (vA (stC a4)) (stC y) (stC a4) hK7 (by rw [stC_len]; kernel_rfl) (by first | (simp; done) | (simp; omega)) (stC_one _) ?_)
      have hK8 := (((((hB1.ext hEw10)).ext hEw11)).ext hEw12)
      intro w13 hBw13 hCw13
      have hzw13 := hCw13.size
      rw [setFrom_all _ _ (by simp)] at hBw13
      refine ⟨.inl (by kernel_rfl), ?_⟩
      refine anyM_done (then_code (wpC_seq (wpC_seq (wpC_region (wpF_run 1 [(23, (vP w.heap.size 1))] (wpF_step (op_v (some 24) (Instr.loadAt 111 (vP w.heap.size 1)) (vA (w8C a4.h)) (rn_lda (vs := w8C a4.h) (hBw13.at 1 (w8C a4.h) (st_h _)) (by rw [w8C_len]; kernel_rfl)) ?_)))))))
      refine wpF_run 1 [(25, (vI 0))] (wpF_end (then_code (wpC_block ?_)))
      obtain rfl : z = padZ l.length := by omega
      have hfin : a4.h = shaH (padB l) ((padB l).length / 64) := by exact (show Sm _ (padB l) from hFz4_0).h
      generalize hH : a4.h = H at hfin ⊢
      have hK9 := (((((((hB2.ext hEw10)).ext hEw11)).ext hEw12)).chg hCw13 (fun hs => by have h : _ = _ := hs; omega))
      have hX3 : Ext w w13 := (Ext.own (((hEl.trans hEw10).trans hEw11).trans hEw12) hCw13 (by omega))
      refine wpC_loop (X := Nat) (fun i => [(25, (vI i))]) [4, 5, 26, 27, 28, 29, 30, 31, 32, 33, 34, 35] (fun i w14 => i ≤ 8 ∧ Blk w14 w1.heap.size (u8s (dgP H i)) 27 ∧ Ext w w14) (fun i => 8 - i) 0 (by kernel_rfl) ⟨by omega, (dgP_zero H).symm ▸ hK9, hX3⟩ ?_
      rintro i dw14 w14 ⟨hi, hBd, hEm⟩
      have hzm := hEm.size
      have hld := hBd.lt
      have hdl := dgP_len H hi
      refine wpC_seq (wpC_region (wpF_step (op_split (some 26) (decide (((i : Nat) : Int) < ((8 : Nat) : Int))) (fun hc26 => ?_) (fun hc26 => ?_))))
      · replace hc26 : i < 8 := by have := of_d_t hc26; omega
        refine wpF_end (then_code (wpC_seq (wpC_true (wpC_skip (then_code (wpC_seq (wpC_block (wpC_seq (wpC_region ?_)))))))))
        refine wpF_run 1 [(27, (vI i))] (wpF_step (op_v (some 28) (Instr.index 111 (vA (w8C H)) (vI i)) (vW ((H.get i).toNat)) (rn_idx1 (E := 68) (m := 8) (by omega) (w8_at (by omega))) ?_))
        refine wpF_run 2 [(5, (vW ((H.get i).toNat))), (4, (vI i))] (wpF_end (then_code (wpC_drawM (Chg (fun k => k = w1.heap.size) w14.drew) 6 [(30, 16, 0), (31, 536870912, 1), (32, 1073741828, 2), (33, 32, 0), (34, 4294967296, 8), (35, 10737418240, 20)] (fun hT161 => ?_))))
        have hEw15 : Ext w14 w14.drew := Ext.drew w14
        generalize w14.drew = w15 at hEw15 ⊢
        have hzw15 := hEw15.size
        refine anyM_run (hw := show Chg (fun k => k = w1.heap.size) w15 w15 from (Chg.refl (fun k => k = w1.heap.size) w15)) hT161 [(0, 29, (vI i))] 1 1 (anyM_take (hw := show Chg (fun k => k = w1.heap.size) w15 w15 from (Chg.refl (fun k => k = w1.heap.size) w15)) hT161 1 3 (some 30) (vI (4 * i)) (yld_in .i64 (IntKind.i64.wrap (((4 : Nat) : Int) * ((i : Nat) : Int))) (wrapS (by omega) (by omega) (by omega))) (anyM_take (hw := show Chg (fun k => k = w1.heap.size) w15 w15 from (Chg.refl (fun k => k = w1.heap.size) w15)) hT161 2 7 (some 31) (.slice (pA w1.heap.size (0 + (4 * i) * 1)) (32 - (4 * i)) (32 - (4 * i))) (yld_val (Instr.sliceAt 27 (vP w1.heap.size 0) (some (vI (4 * i))) none none) (fun w' hC => rn_slbN (len := 32) (E := 5) (sz := 1) (l := 4 * i) (r := 32) (m := 32) (.inr ⟨_, rfl⟩) (.inl ⟨rfl, rfl⟩) (.inl ⟨rfl, rfl⟩) (by simp) (by omega) (by omega) (by omega) (by omega))) (anyM_run (hw := show Chg (fun k => k = w1.heap.size) w15 w15 from (Chg.refl (fun k => k = w1.heap.size) w15)) hT161 [(3, 32, (vW ((H.get i).toNat)))] 1 15 (anyM_one 4 31 (op_call (some 33) (c_Put32 ((H.get i).toNat) _ (UInt32.toNat_lt _)) ?_)))))
        rintro _ w16 ⟨a5, rfl, hFz5_0, hEw16⟩
        have hzw16 := hEw16.size
        refine ⟨.inr ((Chg.refl (fun k => k = w1.heap.size) w15).trans hEw16.chg), ?_⟩
        refine anyM_one 5 63 (op_copy (a := (pA w1.heap.size (0 + (4 * i) * 1))) (dl := 32 - (4 * i)) (dc := 32 - (4 * i)) (some 34) 91 91 3 5 w1.heap.size (i * 4) (((hBd.ext hEw15)).ext hEw16) (fun _ => by rw [Nat.zero_add, Nat.mul_one, Nat.mul_comm]) (by rw [u8s_length, hdl]; omega) hFz5_0.es (fun _ => rfl) ?_)
        intro w17 hBw17 hCw17
        have hzw17 := hCw17.size
        rw [show setFrom (u8s (dgP H i)) (i * 4) (((be ((H.get i).toNat) 4).take (min 4 (32 - (4 * i)))).map u8v) = u8s (dgP H (i + 1)) from by rw [show min 4 (32 - (4 * i)) = 4 from by omega, List.take_of_length_le (by simp)]; exact dgP_step (by omega)] at hBw17
        refine ⟨.inr (Chg.then ((Chg.refl (fun k => k = w1.heap.size) w15).trans hEw16.chg) hCw17 (fun k hk hs => by have h : k = _ := hs; first | exact hs | exact .inl h | exact .inr h | (exfalso; omega))), ?_⟩
        refine anyM_done (inBlock_normal (then_code (wpC_region (wpF_step (op_in (some 35) .i64 (IntKind.i64.wrap (((i : Nat) : Int) + ((1 : Nat) : Int))) (i + 1) (wrapS (by omega) (by omega) (by omega)) ?_)))))
        refine wpF_run 1 [(25, (vI (i + 1)))] (wpF_end (then_normal ?_))
        have hX4 : Ext w w17 := (Ext.own ((hEm.trans hEw15).trans hEw16) hCw17 (by omega))
        refine endR_mk (i + 1) ?_ ?_
        · exact ⟨by omega, hBw17, hX4⟩
        · first | omega | (dsimp only; omega)
      · replace hc26 : ¬ (i < 8) := by have := of_d_f hc26; omega
        refine wpF_end (then_code (wpC_seq (wpC_false (wpC_exit (then_exit (then_exit (inBlock_exit (then_code (wpC_seq ?_)))))))))
        refine wpC_region ?_
        obtain rfl : i = 8 := by omega
        have hBe : Blk w14 w1.heap.size (digC (shaD l)) 27 := by have hq := hBd; rw [hfin, dgP_all] at hq; exact hq
        refine wpF_step (op_v (some 36) (Instr.loadAt 27 (vP w1.heap.size 0)) (vA (digC (shaD l))) (rn_lda (vs := digC (shaD l)) hBe.all (by rw [digC_len]; kernel_rfl)) ?_)
        refine wpF_step (op_store 27 w1.heap.size 0 27 (vA (digC (shaD l))) (digC (shaD l)) (digC (shaD l)) hBe (by rw [digC_len]; kernel_rfl) (by first | (simp; done) | (simp; omega)) (digC_one _) ?_)
        intro w18 hBw18 hCw18
        have hzw18 := hCw18.size
        rw [setFrom_all _ _ (by simp)] at hBw18
        exact wpF_end (then_code (wpC_ret (body_ret1 (show resVal Tryd.prog 37 _ _ (.cell 2 27) (vA (digC (shaD l))) from ⟨⟨w1.heap.size, 0, none⟩, (by kernel_rfl), run_loadVar_agg (T := 27) (vs := digC (shaD l)) (hBw18).all (by rw [digC_len]; kernel_rfl)⟩) (⟨rfl, (Ext.own hEm hCw18 (by omega))⟩))))
    · refine op_call (some 21) (c_Put64 (8 * l.length % 2 ^ 64) _) ?_
      rintro _ w19 ⟨a6, rfl, hFz6_0, hEw19⟩
      have hzw19 := hEw19.size
      refine ⟨.inr ((Chg.refl (fun k => k = w.heap.size) w10).trans hEw19.chg), ?_⟩
      refine anyM_one 0 15 (op_v (some 18) (Instr.loadAt 114 (vP w.heap.size 0)) (vA (stC y)) (rn_lda (vs := stC y) ((((hB1.ext hEw10)).ext hEw19).all) (by rw [stC_len]; kernel_rfl)) ?_)
      refine ⟨.inr ((Chg.refl (fun k => k = w.heap.size) w10).trans hEw19.chg), ?_⟩
      have hK10 := (((((hg2.ext hEl)).ext hEw10)).ext hEw19)
      refine anyM_one 4 31 (op_call (some 22) (c_write y (l ++ [128] ++ List.replicate z 0) _ hFz6_0 (hsm) (by first | omega | (simp; omega)) hK10) ?_)
      rintro _ w20 ⟨a7, rfl, hFz7_0, hEw20⟩
      have hzw20 := hEw20.size
      refine ⟨.inr (((Chg.refl (fun k => k = w.heap.size) w10).trans hEw19.chg).trans hEw20.chg), ?_⟩
      have hK11 := (((((hB1.ext hEw10)).ext hEw19)).ext hEw20)
      refine anyM_one 5 63 (op_store 114 w.heap.size 0 114 (vA (stC a7)) (stC y) (stC a7) hK11 (by rw [stC_len]; kernel_rfl) (by first | (simp; done) | (simp; omega)) (stC_one _) ?_)
      have hK12 := (((((hB1.ext hEw10)).ext hEw19)).ext hEw20)
      intro w21 hBw21 hCw21
      have hzw21 := hCw21.size
      rw [setFrom_all _ _ (by simp)] at hBw21
      refine ⟨.inl (by kernel_rfl), ?_⟩
      refine anyM_done (then_code (wpC_seq (wpC_seq (wpC_region (wpF_run 1 [(23, (vP w.heap.size 1))] (wpF_step (op_v (some 24) (Instr.loadAt 111 (vP w.heap.size 1)) (vA (w8C a7.h)) (rn_lda (vs := w8C a7.h) (hBw21.at 1 (w8C a7.h) (st_h _)) (by rw [w8C_len]; kernel_rfl)) ?_)))))))
      refine wpF_run 1 [(25, (vI 0))] (wpF_end (then_code (wpC_block ?_)))
      obtain rfl : z = padZ l.length := by omega
      have hfin : a7.h = shaH (padB l) ((padB l).length / 64) := by exact (show Sm _ (padB l) from hFz7_0).h
      generalize hH : a7.h = H at hfin ⊢
      have hK13 := (((((((hB2.ext hEw10)).ext hEw19)).ext hEw20)).chg hCw21 (fun hs => by have h : _ = _ := hs; omega))
      have hX5 : Ext w w21 := (Ext.own (((hEl.trans hEw10).trans hEw19).trans hEw20) hCw21 (by omega))
      refine wpC_loop (X := Nat) (fun i => [(25, (vI i))]) [4, 5, 26, 27, 28, 29, 30, 31, 32, 33, 34, 35] (fun i w22 => i ≤ 8 ∧ Blk w22 w1.heap.size (u8s (dgP H i)) 27 ∧ Ext w w22) (fun i => 8 - i) 0 (by kernel_rfl) ⟨by omega, (dgP_zero H).symm ▸ hK13, hX5⟩ ?_
      rintro i dw22 w22 ⟨hi, hBd, hEm⟩
      have hzm := hEm.size
      have hld := hBd.lt
      have hdl := dgP_len H hi
      refine wpC_seq (wpC_region (wpF_step (op_split (some 26) (decide (((i : Nat) : Int) < ((8 : Nat) : Int))) (fun hc26 => ?_) (fun hc26 => ?_))))
      · replace hc26 : i < 8 := by have := of_d_t hc26; omega
        refine wpF_end (then_code (wpC_seq (wpC_true (wpC_skip (then_code (wpC_seq (wpC_block (wpC_seq (wpC_region ?_)))))))))
        refine wpF_run 1 [(27, (vI i))] (wpF_step (op_v (some 28) (Instr.index 111 (vA (w8C H)) (vI i)) (vW ((H.get i).toNat)) (rn_idx1 (E := 68) (m := 8) (by omega) (w8_at (by omega))) ?_))
        refine wpF_run 2 [(5, (vW ((H.get i).toNat))), (4, (vI i))] (wpF_end (then_code (wpC_drawM (Chg (fun k => k = w1.heap.size) w22.drew) 6 [(30, 16, 0), (31, 536870912, 1), (32, 1073741828, 2), (33, 32, 0), (34, 4294967296, 8), (35, 10737418240, 20)] (fun hT272 => ?_))))
        have hEw23 : Ext w22 w22.drew := Ext.drew w22
        generalize w22.drew = w23 at hEw23 ⊢
        have hzw23 := hEw23.size
        refine anyM_run (hw := show Chg (fun k => k = w1.heap.size) w23 w23 from (Chg.refl (fun k => k = w1.heap.size) w23)) hT272 [(0, 29, (vI i))] 1 1 (anyM_take (hw := show Chg (fun k => k = w1.heap.size) w23 w23 from (Chg.refl (fun k => k = w1.heap.size) w23)) hT272 1 3 (some 30) (vI (4 * i)) (yld_in .i64 (IntKind.i64.wrap (((4 : Nat) : Int) * ((i : Nat) : Int))) (wrapS (by omega) (by omega) (by omega))) (anyM_take (hw := show Chg (fun k => k = w1.heap.size) w23 w23 from (Chg.refl (fun k => k = w1.heap.size) w23)) hT272 2 7 (some 31) (.slice (pA w1.heap.size (0 + (4 * i) * 1)) (32 - (4 * i)) (32 - (4 * i))) (yld_val (Instr.sliceAt 27 (vP w1.heap.size 0) (some (vI (4 * i))) none none) (fun w' hC => rn_slbN (len := 32) (E := 5) (sz := 1) (l := 4 * i) (r := 32) (m := 32) (.inr ⟨_, rfl⟩) (.inl ⟨rfl, rfl⟩) (.inl ⟨rfl, rfl⟩) (by simp) (by omega) (by omega) (by omega) (by omega))) (anyM_run (hw := show Chg (fun k => k = w1.heap.size) w23 w23 from (Chg.refl (fun k => k = w1.heap.size) w23)) hT272 [(3, 32, (vW ((H.get i).toNat)))] 1 15 (anyM_one 4 31 (op_call (some 33) (c_Put32 ((H.get i).toNat) _ (UInt32.toNat_lt _)) ?_)))))
        rintro _ w24 ⟨a8, rfl, hFz8_0, hEw24⟩
        have hzw24 := hEw24.size
        refine ⟨.inr ((Chg.refl (fun k => k = w1.heap.size) w23).trans hEw24.chg), ?_⟩
        refine anyM_one 5 63 (op_copy (a := (pA w1.heap.size (0 + (4 * i) * 1))) (dl := 32 - (4 * i)) (dc := 32 - (4 * i)) (some 34) 91 91 3 5 w1.heap.size (i * 4) (((hBd.ext hEw23)).ext hEw24) (fun _ => by rw [Nat.zero_add, Nat.mul_one, Nat.mul_comm]) (by rw [u8s_length, hdl]; omega) hFz8_0.es (fun _ => rfl) ?_)
        intro w25 hBw25 hCw25
        have hzw25 := hCw25.size
        rw [show setFrom (u8s (dgP H i)) (i * 4) (((be ((H.get i).toNat) 4).take (min 4 (32 - (4 * i)))).map u8v) = u8s (dgP H (i + 1)) from by rw [show min 4 (32 - (4 * i)) = 4 from by omega, List.take_of_length_le (by simp)]; exact dgP_step (by omega)] at hBw25
        refine ⟨.inr (Chg.then ((Chg.refl (fun k => k = w1.heap.size) w23).trans hEw24.chg) hCw25 (fun k hk hs => by have h : k = _ := hs; first | exact hs | exact .inl h | exact .inr h | (exfalso; omega))), ?_⟩
        refine anyM_done (inBlock_normal (then_code (wpC_region (wpF_step (op_in (some 35) .i64 (IntKind.i64.wrap (((i : Nat) : Int) + ((1 : Nat) : Int))) (i + 1) (wrapS (by omega) (by omega) (by omega)) ?_)))))
        refine wpF_run 1 [(25, (vI (i + 1)))] (wpF_end (then_normal ?_))
        have hX6 : Ext w w25 := (Ext.own ((hEm.trans hEw23).trans hEw24) hCw25 (by omega))
        refine endR_mk (i + 1) ?_ ?_
        · exact ⟨by omega, hBw25, hX6⟩
        · first | omega | (dsimp only; omega)
      · replace hc26 : ¬ (i < 8) := by have := of_d_f hc26; omega
        refine wpF_end (then_code (wpC_seq (wpC_false (wpC_exit (then_exit (then_exit (inBlock_exit (then_code (wpC_seq ?_)))))))))
        refine wpC_region ?_
        obtain rfl : i = 8 := by omega
        have hBe : Blk w22 w1.heap.size (digC (shaD l)) 27 := by have hq := hBd; rw [hfin, dgP_all] at hq; exact hq
        refine wpF_step (op_v (some 36) (Instr.loadAt 27 (vP w1.heap.size 0)) (vA (digC (shaD l))) (rn_lda (vs := digC (shaD l)) hBe.all (by rw [digC_len]; kernel_rfl)) ?_)
        refine wpF_step (op_store 27 w1.heap.size 0 27 (vA (digC (shaD l))) (digC (shaD l)) (digC (shaD l)) hBe (by rw [digC_len]; kernel_rfl) (by first | (simp; done) | (simp; omega)) (digC_one _) ?_)
        intro w26 hBw26 hCw26
        have hzw26 := hCw26.size
        rw [setFrom_all _ _ (by simp)] at hBw26
        exact wpF_end (then_code (wpC_ret (body_ret1 (show resVal Tryd.prog 37 _ _ (.cell 2 27) (vA (digC (shaD l))) from ⟨⟨w1.heap.size, 0, none⟩, (by kernel_rfl), run_loadVar_agg (T := 27) (vs := digC (shaD l)) (hBw26).all (by rw [digC_len]; kernel_rfl)⟩) (⟨rfl, (Ext.own hEm hCw26 (by omega))⟩))))

theorem c_dof {lo_ls hi_ls : Nat} {a_ls : Option Addr} {n_ls c_ls : Nat} {v_ls : List Value} {ls : List (List UInt8)}  (w : World) (h_ls : Ps lo_ls hi_ls w a_ls n_ls c_ls v_ls ls) (hp0 : sumLen ls < 1099511627776) (hg1 : Gl 1 (w8C iniA) w) (hg2 : Gl 2 (w64C kA) w) :
    Calls Tryd.prog 36 #[(.slice a_ls n_ls c_ls)] w (Ret fun r w' => r = (vA (digC (shaD ls.flatten))) ∧ Ext w w') := by
  refine calls_of (n := 19) (σ := [(0, (.slice a_ls n_ls c_ls))]) Tryd.func36 rfl ?_
  replace h_ls := h_ls.now; have hle_ls := h_ls.le
  have hgl1 := hg1.lt
  have hgl2 := hg2.lt
  refine wpC_seq (wpC_region (wpF_step (op_new (some 2) (Instr.alloc 27 true (.tuple #[])) (vP w.heap.size 0) (digC Dig.zero) 27 ?_)))
  intro w1 hBw1 hEw1
  have hzw1 := hEw1.size; have hlw1 := hBw1.lt
  refine wpF_end (then_code (wpC_seq (wpC_region (wpF_step (op_call (some 6) (c_new _ (hg1.ext hEw1)) ?_)))))
  rintro _ w2 ⟨rfl, hEw2⟩
  have hzw2 := hEw2.size
  refine wpF_step (op_new (some 3) (Instr.alloc 114 true (.tuple #[])) (vP w2.heap.size 0) (stC Sta.zero) 114 ?_)
  intro w3 hBw3 hEw3
  have hzw3 := hEw3.size; have hlw3 := hBw3.lt
  refine wpF_step (op_store 114 w2.heap.size 0 114 (vA (stC Sta.new)) (stC Sta.zero) (stC Sta.new) hBw3 (by rw [stC_len]; kernel_rfl) (by first | (simp; done) | (simp; omega)) (stC_one _) ?_)
  intro w4 hBw4 hCw4
  have hzw4 := hCw4.size
  rw [setFrom_all _ _ (by simp)] at hBw4
  refine wpF_end (then_code (wpC_seq (wpC_seq (wpC_region (wpF_run 3 [(9, (vI 0)), (8, (vI n_ls)), (7, (.slice a_ls n_ls c_ls))] (wpF_end (then_code (wpC_block ?_))))))))
  have hK1 := (((((hBw1.ext hEw2)).ext hEw3)).chg hCw4 (fun hs => by have h : _ = _ := hs; omega))
  have hX1 : Ext w w4 := (Ext.own ((hEw1.trans hEw2).trans hEw3) hCw4 (by omega))
  refine wpC_loop (X := Nat × Sta) (fun ⟨i, y⟩ => [(9, (vI i))]) [5, 10, 11, 12, 13, 14, 15, 16] (fun ⟨i, y⟩ w5 => i ≤ n_ls ∧ Sm y (ls.take i).flatten ∧ Blk w5 w2.heap.size (stC y) 114 ∧ Blk w5 w.heap.size (digC Dig.zero) 27 ∧ Ext w w5) (fun ⟨i, y⟩ => n_ls - i) (0, Sta.new) (by kernel_rfl) ⟨by omega, Sm.new, hBw4, hK1, hX1⟩ ?_
  rintro ⟨i, y⟩ dw5 w5 ⟨hi, hsm, hB3, hB2, hEl⟩
  have hzl := hEl.size
  have hl3 := hB3.lt; have hl2 := hB2.lt
  have hlen := h_ls.len_eq
  have hsl := sumLen_le ls i
  have hsl1 := sumLen_le ls (i + 1)
  have hfl := sumLen_flatten (ls.take i)
  refine wpC_seq (wpC_region (wpF_step (op_split (some 10) (decide (((i : Nat) : Int) < ((n_ls : Nat) : Int))) (fun hc10 => ?_) (fun hc10 => ?_))))
  · replace hc10 : i < n_ls := by have := of_d_t hc10; omega
    refine wpF_end (then_code (wpC_seq (wpC_true (wpC_skip (then_code (wpC_seq (wpC_block (wpC_seq (wpC_region ?_)))))))))
    obtain ⟨b1, o1, rfl⟩ := h_ls.addr (by omega)
    refine wpF_step (op_v (some 11) (Instr.indexAt 110 (.slice (pA b1 o1) n_ls c_ls) (vI i)) (vP b1 (o1 + i * 1)) (rn_ixs (E := 91) (sz := 1) (by omega)) ?_)
    obtain ⟨a1, n1, cp1, hP1, hS1⟩ := ((h_ls.ext hEl)).cell (i := i) (by omega)
    have hlehS1 := hS1.le; have hlnhS1 := hS1.len_eq; have hsthS1 := sumLen_take (ls := ls) (i := i) (by omega)
    refine wpF_step (op_v (some 12) (Instr.loadAt 91 (vP b1 (o1 + i * 1))) (.slice a1 n1 cp1) (rn_ld hP1) ?_)
    refine wpF_run 1 [(5, (.slice a1 n1 cp1))] (wpF_end (then_code (wpC_region (wpF_step (op_v (some 13) (Instr.loadAt 114 (vP w2.heap.size 0)) (vA (stC y)) (rn_lda (vs := stC y) (hB3.all) (by rw [stC_len]; kernel_rfl)) ?_)))))
    refine wpF_run 1 [(14, (.slice a1 n1 cp1))] (wpF_step (op_call (some 15) (c_write y ((ls.take i).flatten) _ hS1 (hsm) (by first | omega | decide) (hg2.ext hEl)) ?_))
    rintro _ w6 ⟨a2, rfl, hFz2_0, hEw6⟩
    have hzw6 := hEw6.size
    refine wpF_step (op_store 114 w2.heap.size 0 114 (vA (stC a2)) (stC y) (stC a2) (hB3.ext hEw6) (by rw [stC_len]; kernel_rfl) (by first | (simp; done) | (simp; omega)) (stC_one _) ?_)
    intro w7 hBw7 hCw7
    have hzw7 := hCw7.size
    rw [setFrom_all _ _ (by simp)] at hBw7
    refine wpF_end (inBlock_normal (then_code (wpC_region (wpF_step (op_in (some 16) .i64 (IntKind.i64.wrap (((i : Nat) : Int) + ((1 : Nat) : Int))) (i + 1) (wrapS (by omega) (by omega) (by omega)) ?_)))))
    refine wpF_run 1 [(9, (vI (i + 1)))] (wpF_end (then_normal (endR_mk (i + 1, a2) ?_ ?_)))
    · exact ⟨by omega, by rw [flatten_take (by omega)]; exact hFz2_0, hBw7, (((hB2.ext hEw6)).chg hCw7 (fun hs => by have h : _ = _ := hs; omega)), (Ext.own (hEl.trans hEw6) hCw7 (by omega))⟩
    · first | omega | (dsimp only; omega)
  · replace hc10 : ¬ (i < n_ls) := by have := of_d_f hc10; omega
    obtain rfl : i = n_ls := by omega
    rw [List.take_of_length_le (by omega)] at hsm hfl
    refine wpF_end (then_code (wpC_seq (wpC_false (wpC_exit (then_exit (then_exit (inBlock_exit (then_code (wpC_seq ?_)))))))))
    refine wpC_region (wpF_step (op_v (some 17) (Instr.loadAt 114 (vP w2.heap.size 0)) (vA (stC y)) (rn_lda (vs := stC y) (hB3.all) (by rw [stC_len]; kernel_rfl)) ?_))
    refine wpF_step (op_call (some 18) (c_ssum y ls.flatten _ (hsm) (by first | omega | decide) (hg2.ext hEl)) ?_)
    rintro _ w8 ⟨rfl, hEw8⟩
    have hzw8 := hEw8.size
    refine wpF_step (op_store 27 w.heap.size 0 27 (vA (digC (shaD ls.flatten))) (digC Dig.zero) (digC (shaD ls.flatten)) (hB2.ext hEw8) (by rw [digC_len]; kernel_rfl) (by first | (simp; done) | (simp; omega)) (digC_one _) ?_)
    intro w9 hBw9 hCw9
    have hzw9 := hCw9.size
    rw [setFrom_all _ _ (by simp)] at hBw9
    exact wpF_end (then_code (wpC_ret (body_ret1 (show resVal Tryd.prog 19 _ _ (.cell 2 27) (vA (digC (shaD ls.flatten))) from ⟨⟨w.heap.size, 0, none⟩, (by kernel_rfl), run_loadVar_agg (T := 27) (vs := digC (shaD ls.flatten)) (hBw9).all (by rw [digC_len]; kernel_rfl)⟩) (⟨rfl, (Ext.own (hEl.trans hEw8) hCw9 (by omega))⟩))))

end Go.Proofs.YthjplefmfjkhfaaDoor
