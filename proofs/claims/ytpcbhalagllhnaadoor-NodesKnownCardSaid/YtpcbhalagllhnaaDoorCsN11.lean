/- CsN11: what each function does, by its own code. No condition beyond those of each statement. -/
import Derived.Test.YtpcbhalagllhnaaDoorCsN7
import Derived.Test.YtpcbhalagllhnaaDoorCsNod3
namespace Go.Proofs.YtpcbhalagllhnaaDoor
open Go Go.RowKit Go.Cs
set_option maxRecDepth 100000
set_option linter.all false
set_option linter.unusedVariables false

set_option maxHeartbeats 4000000 in
theorem c_NodesKnown   (w : World) (hg0 : Gl 0 [vI 45, vI 33] w) :
    Calls Tryd.prog 5 #[] w (Ret fun r w' => r = vT ∧ Ext w w') := by
  refine calls_of (n := 122) (σ := []) Tryd.func5 rfl ?_
  have hgl0 := hg0.lt
  refine wpC_seq (wpC_region (wpF_run 1 [(0, vF)] (wpF_end (then_code (wpC_seq (wpC_seq (wpC_region (wpF_run 1 [(1, (vI 0))] (wpF_end ?_)))))))))
  refine then_code (wpC_block (wpC_loop (X := Nat) (fun l => [(1, (vI l))]) [0, 2, 14, 15, 16, 17, 18, 19, 20, 21, 22, 23, 24, 25, 26, 27, 28, 29, 30, 31, 32, 33, 34, 35, 36, 37, 38, 39, 40, 41, 42, 43] (fun l w1 => l ≤ 6 ∧ Ext w w1) (fun l => 6 - l) 0 (by kernel_rfl) ⟨by omega, (Ext.refl _)⟩ ?_))
  rintro l dw1 w1 ⟨hl, hEl⟩
  have hzl := hEl.size
  have hcn := cnt_n 4096 l
  have hcp := cnt_pos (n := 4096) (by decide) l
  refine wpC_seq (wpC_seq (wpC_region (wpF_run 1 [(14, (vI l))] (wpF_step (op_split (some 15) (decide (((l : Nat) : Int) < ((6 : Nat) : Int))) (fun hc15 => ?_) (fun hc15 => ?_))))))
  · replace hc15 : l < 6 := by have := of_d_t hc15; omega
    obtain ⟨hk1, hk2, hk3⟩ := fit_known l (by omega)
    refine wpF_end (then_code (wpC_true (wpC_skip (then_code (wpC_seq (wpC_block (wpC_seq (wpC_region (wpF_run 1 [(18, (vI l))] ?_)))))))))
    refine wpF_step (op_call (some 19) (c_rCount 4096 l _ (by decide) (by decide) (by have hh : hgt 4096 = 5 := (by decide); omega)) ?_)
    rintro _ _ ⟨rfl, rfl⟩
    refine wpF_run 1 [(2, (vI (cnt 4096 l)))] (wpF_end (then_code (wpC_seq (wpC_region (wpF_run 1 [(20, (vI l))] (wpF_step (op_in (some 21) .u8 (IntKind.u8.wrap ((l : Nat) : Int)) l (wrapUx rfl rfl (by show _ < 2 ^ 8; omega)) ?_)))))))
    refine wpF_run 1 [(22, (vI (cnt 4096 l)))] (wpF_step (op_in (some 23) .i64 (IntKind.i64.wrap (((cnt 4096 l : Nat) : Int) - ((1 : Nat) : Int))) (cnt 4096 l - 1) (wrapS (by omega) (by omega) (by omega)) ?_))
    refine wpF_step (op_in (some 24) .u32 (IntKind.u32.wrap ((cnt 4096 l - 1 : Nat) : Int)) (cnt 4096 l - 1) (wrapUx rfl rfl (by show _ < 2 ^ 32; omega)) ?_)
    refine wpF_step (op_call (some 25) (c_Empty l (cnt 4096 l - 1) _ (by omega) (by omega)) ?_)
    rintro _ w2 ⟨rfl, hEw2⟩
    have hzw2 := hEw2.size
    refine wpF_step (op_call (some 26) (c_NFits 4096 (Nod.mt l (cnt 4096 l - 1)) _ (by first | omega | decide) (by first | omega | decide)) ?_)
    rintro _ w3 ⟨rfl, hEw3⟩
    have hzw3 := hEw3.size
    rw [show fitV 4096 (Nod.mt l (cnt 4096 l - 1)) = 0 from hk1]
    refine wpF_run 3 [(29, (vI l)), (28, vF), (27, vF)] (wpF_step (op_in (some 30) .u8 (IntKind.u8.wrap ((l : Nat) : Int)) l (wrapUx rfl rfl (by show _ < 2 ^ 8; omega)) ?_))
    refine wpF_run 1 [(31, (vI (cnt 4096 l)))] (wpF_step (op_in (some 32) .u32 (IntKind.u32.wrap ((cnt 4096 l : Nat) : Int)) (cnt 4096 l) (wrapUx rfl rfl (by show _ < 2 ^ 32; omega)) ?_))
    refine wpF_step (op_call (some 33) (c_Empty l (cnt 4096 l) _ (by omega) (by omega)) ?_)
    rintro _ w4 ⟨rfl, hEw4⟩
    have hzw4 := hEw4.size
    refine wpF_step (op_call (some 34) (c_NFits 4096 (Nod.mt l (cnt 4096 l)) _ (by first | omega | decide) (by first | omega | decide)) ?_)
    rintro _ w5 ⟨rfl, hEw5⟩
    have hzw5 := hEw5.size
    rw [show fitV 4096 (Nod.mt l (cnt 4096 l)) = 17 from hk2]
    refine wpF_run 4 [(38, (vI l)), (37, vF), (36, vF), (35, vF)] (wpF_step (op_in (some 39) .u8 (IntKind.u8.wrap ((l : Nat) : Int)) l (wrapUx rfl rfl (by show _ < 2 ^ 8; omega)) ?_))
    refine wpF_step (op_call (some 40) (c_Empty l 4294967295 _ (by omega) (by omega)) ?_)
    rintro _ w6 ⟨rfl, hEw6⟩
    have hzw6 := hEw6.size
    refine wpF_step (op_call (some 41) (c_NFits 4096 (Nod.mt l 4294967295) _ (by first | omega | decide) (by first | omega | decide)) ?_)
    rintro _ w7 ⟨rfl, hEw7⟩
    have hzw7 := hEw7.size
    rw [show fitV 4096 (Nod.mt l 4294967295) = 17 from hk3]
    refine wpF_run 2 [(43, vF), (42, vF)] (wpF_end (then_code (wpC_false (wpC_skip (inBlock_normal (then_code (wpC_region (wpF_run 1 [(16, (vI l))] (wpF_step (op_in (some 17) .i64 (IntKind.i64.wrap (((l : Nat) : Int) + ((1 : Nat) : Int))) (l + 1) (wrapS (by omega) (by omega) (by omega)) ?_))))))))))
    refine wpF_run 1 [(1, (vI (l + 1)))] (wpF_end (then_normal ?_))
    have hX1 : Ext w w7 := ((((((hEl.trans hEw2).trans hEw3).trans hEw4).trans hEw5).trans hEw6).trans hEw7)
    refine endR_mk (l + 1) ?_ ?_
    · exact ⟨by omega, hX1⟩
    · first | omega | (dsimp only; omega)
  · replace hc15 : ¬ (l < 6) := by have := of_d_f hc15; omega
    refine wpF_end (then_code (wpC_false (wpC_exit (then_exit (then_exit (inBlock_exit (then_code (wpC_seq (wpC_region ?_)))))))))
    refine wpF_step (op_call (some 44) (c_Empty 0 1 _ (by first | omega | decide) (by first | omega | decide)) ?_)
    rintro _ w8 ⟨rfl, hEw8⟩
    have hzw8 := hEw8.size
    refine wpF_step (op_new (some 3) (Instr.alloc 41 true (.tuple #[])) (vP w8.heap.size 0) (nodC Nod.zero) 41 ?_)
    intro w9 hBw9 hEw9
    have hzw9 := hEw9.size; have hlw9 := hBw9.lt
    refine wpF_step (op_store 41 w8.heap.size 0 41 (vA (nodC (Nod.mt 0 1))) (nodC Nod.zero) (nodC (Nod.mt 0 1)) hBw9 (by rw [nodC_len]; kernel_rfl) (by first | (simp; done) | (simp; omega)) (nodC_one _) ?_)
    intro w10 hBw10 hCw10
    have hzw10 := hCw10.size
    rw [setFrom_all _ _ (by simp)] at hBw10
    refine wpF_end (then_code (wpC_seq (wpC_drawM (Ext w10.drew) 9 [(47, 8, 0), (48, 0, 0), (49, 211106232532992, 3), (46, 281474976710656, 4), (50, 35184372088832, 8), (51, 35184372088832, 8), (5, 0, 0), (0, 562949953421328, 95), (6, 1125899906842624, 255)] (fun hT119 => ?_))))
    have hEw11 : Ext w10 w10.drew := Ext.drew w10
    generalize w10.drew = w11 at hEw11 ⊢
    have hzw11 := hEw11.size
    refine anyM_take hT119 0 1 (some 46) (vA (nodC (Nod.mt 0 1))) (yld_val (Instr.loadAt 41 (vP w8.heap.size 0)) (fun w' hC => rn_lda (vs := nodC (Nod.mt 0 1)) (((hBw10.ext hEw11).ext hC).all) (by rw [nodC_len]; kernel_rfl))) (anyM_two 1 6 3 65 ?_ ?_)
    · refine op_call (some 47) (c_mkR 1 9 _ (by first | omega | decide) (by first | omega | decide)) ?_
      rintro _ w12 ⟨rfl, hEw12⟩
      have hzw12 := hEw12.size
      refine ⟨.inr hEw12, ?_⟩
      refine anyM_two 2 6 7 67 ?_ ?_
      · refine op_call (some 48) (c_WithRecord (Nod.mt 0 1) 0 (mkR 1 9) _ (by decide) (by decide)) ?_
        rintro _ w13 ⟨rfl, hEw13⟩
        have hzw13 := hEw13.size
        refine ⟨.inr (hEw12.trans hEw13), ?_⟩
        refine anyM_run (hw := show Ext w11 w13 from (hEw12.trans hEw13)) hT119 [(3, 45, (.tuple #[(vA (nodC ((Nod.mt 0 1).setR 0 (mkR 1 9)))), (vI 0)])), (4, 49, (vA (nodC ((Nod.mt 0 1).setR 0 (mkR 1 9))))), (5, 50, (vI 0))] 3 63 (anyM_one 6 127 (op_new (some 4) (Instr.alloc 41 true (.tuple #[])) (vP w13.heap.size 0) (nodC Nod.zero) 41 ?_))
        intro w14 hBw14 hEw14
        have hzw14 := hEw14.size; have hlw14 := hBw14.lt
        refine ⟨.inr ((hEw12.trans hEw13).trans hEw14), ?_⟩
        refine anyM_one 7 255 (op_store 41 w13.heap.size 0 41 (vA (nodC ((Nod.mt 0 1).setR 0 (mkR 1 9)))) (nodC Nod.zero) (nodC ((Nod.mt 0 1).setR 0 (mkR 1 9))) hBw14 (by rw [nodC_len]; kernel_rfl) (by first | (simp; done) | (simp; omega)) (nodC_one _) ?_)
        intro w15 hBw15 hCw15
        have hzw15 := hCw15.size
        rw [setFrom_all _ _ (by simp)] at hBw15
        have hX2 : Ext w11 w15 := (Ext.own ((hEw12.trans hEw13).trans hEw14) hCw15 (by omega))
        refine ⟨.inr hX2, ?_⟩
        refine anyM_run (hw := show Ext w11 w15 from hX2) hT119 [(8, 5, (vI 0))] 1 511 (anyM_done (then_code (wpC_seq (wpC_drawM (Ext w15.drew) 9 [(53, 8, 0), (54, 0, 0), (55, 13510798882111488, 3), (52, 18014398509481984, 4), (56, 2251799813685248, 8), (57, 2251799813685248, 8), (7, 0, 0), (0, 36028797018964032, 95), (8, 72057594037927936, 255)] (fun hT149 => ?_)))))
        have hEw16 : Ext w15 w15.drew := Ext.drew w15
        generalize w15.drew = w16 at hEw16 ⊢
        have hzw16 := hEw16.size
        have hK1 := (((((hBw10.ext hEw11)).ext hX2)).ext hEw16)
        refine anyM_take hT149 0 1 (some 52) (vA (nodC (Nod.mt 0 1))) (yld_val (Instr.loadAt 41 (vP w8.heap.size 0)) (fun w' hC => rn_lda (vs := nodC (Nod.mt 0 1)) ((hK1.ext hC).all) (by rw [nodC_len]; kernel_rfl))) (anyM_two 1 6 3 65 ?_ ?_)
        · refine op_call (some 53) (c_mkR 2 9 _ (by first | omega | decide) (by first | omega | decide)) ?_
          rintro _ w17 ⟨rfl, hEw17⟩
          have hzw17 := hEw17.size
          refine ⟨.inr hEw17, ?_⟩
          refine anyM_two 2 6 7 67 ?_ ?_
          · refine op_call (some 54) (c_WithRecord (Nod.mt 0 1) 1 (mkR 2 9) _ (by decide) (by decide)) ?_
            rintro _ w18 ⟨rfl, hEw18⟩
            have hzw18 := hEw18.size
            refine ⟨.inr (hEw17.trans hEw18), ?_⟩
            refine anyM_run (hw := show Ext w16 w18 from (hEw17.trans hEw18)) hT149 [(3, 51, (.tuple #[(vA (nodC ((Nod.mt 0 1).setR 1 (mkR 2 9)))), (vI 0)])), (4, 55, (vA (nodC ((Nod.mt 0 1).setR 1 (mkR 2 9))))), (5, 56, (vI 0))] 3 63 (anyM_one 6 127 (op_new (some 6) (Instr.alloc 41 true (.tuple #[])) (vP w18.heap.size 0) (nodC Nod.zero) 41 ?_))
            intro w19 hBw19 hEw19
            have hzw19 := hEw19.size; have hlw19 := hBw19.lt
            refine ⟨.inr ((hEw17.trans hEw18).trans hEw19), ?_⟩
            refine anyM_one 7 255 (op_store 41 w18.heap.size 0 41 (vA (nodC ((Nod.mt 0 1).setR 1 (mkR 2 9)))) (nodC Nod.zero) (nodC ((Nod.mt 0 1).setR 1 (mkR 2 9))) hBw19 (by rw [nodC_len]; kernel_rfl) (by first | (simp; done) | (simp; omega)) (nodC_one _) ?_)
            intro w20 hBw20 hCw20
            have hzw20 := hCw20.size
            rw [setFrom_all _ _ (by simp)] at hBw20
            have hX3 : Ext w16 w20 := (Ext.own ((hEw17.trans hEw18).trans hEw19) hCw20 (by omega))
            refine ⟨.inr hX3, ?_⟩
            refine anyM_run (hw := show Ext w16 w20 from hX3) hT149 [(8, 7, (vI 0))] 1 511 (anyM_done (then_code (wpC_seq (wpC_region (wpF_step (op_v (some 58) (Instr.loadAt 41 (vP w8.heap.size 0)) (vA (nodC (Nod.mt 0 1))) (rn_lda (vs := nodC (Nod.mt 0 1)) ((hK1.ext hX3).all) (by rw [nodC_len]; kernel_rfl)) ?_))))))
            refine wpF_run 1 [(59, (vA (recC ⟨3, Non.zero, Dig.zero, by decide⟩)))] (wpF_step (op_call (some 60) (c_WithRecordBad (Nod.mt 0 1) ((1 : Nat) : Int) (⟨3, Non.zero, Dig.zero, by decide⟩) _ (by decide)) ?_))
            rintro _ w21 ⟨rfl, hEw21⟩
            have hzw21 := hEw21.size
            refine wpF_run 3 [(62, (vI 1)), (61, (vA (nodC Nod.zero))), (57, (.tuple #[(vA (nodC Nod.zero)), (vI 1)]))] (wpF_step (op_new (some 8) (Instr.alloc 41 true (.tuple #[])) (vP w21.heap.size 0) (nodC Nod.zero) 41 ?_))
            intro w22 hBw22 hEw22
            have hzw22 := hEw22.size; have hlw22 := hBw22.lt
            refine wpF_step (op_store 41 w21.heap.size 0 41 (vA (nodC Nod.zero)) (nodC Nod.zero) (nodC Nod.zero) hBw22 (by rw [nodC_len]; kernel_rfl) (by first | (simp; done) | (simp; omega)) (nodC_one _) ?_)
            intro w23 hBw23 hCw23
            have hzw23 := hCw23.size
            rw [setFrom_all _ _ (by simp)] at hBw23
            refine wpF_run 1 [(9, (vI 1))] (wpF_end (then_code (wpC_seq (wpC_region ?_))))
            have hK2 := (((((((hK1.ext hX3)).ext hEw21)).ext hEw22)).chg hCw23 (fun hs => by have h : _ = _ := hs; omega))
            refine wpF_step (op_v (some 64) (Instr.loadAt 41 (vP w8.heap.size 0)) (vA (nodC (Nod.mt 0 1))) (rn_lda (vs := nodC (Nod.mt 0 1)) (hK2.all) (by rw [nodC_len]; kernel_rfl)) ?_)
            refine wpF_run 2 [(66, (vA (recC ⟨0, ⟨0, 1, by decide, by decide⟩, Dig.zero, by decide⟩))), (65, (vA (nonC ⟨0, 1, by decide, by decide⟩)))] (wpF_step (op_call (some 67) (c_WithRecordBad (Nod.mt 0 1) ((1 : Nat) : Int) (⟨0, ⟨0, 1, by decide, by decide⟩, Dig.zero, by decide⟩) _ (by decide)) ?_))
            rintro _ w24 ⟨rfl, hEw24⟩
            have hzw24 := hEw24.size
            refine wpF_run 3 [(69, (vI 1)), (68, (vA (nodC Nod.zero))), (63, (.tuple #[(vA (nodC Nod.zero)), (vI 1)]))] (wpF_step (op_new (some 10) (Instr.alloc 41 true (.tuple #[])) (vP w24.heap.size 0) (nodC Nod.zero) 41 ?_))
            intro w25 hBw25 hEw25
            have hzw25 := hEw25.size; have hlw25 := hBw25.lt
            refine wpF_step (op_store 41 w24.heap.size 0 41 (vA (nodC Nod.zero)) (nodC Nod.zero) (nodC Nod.zero) hBw25 (by rw [nodC_len]; kernel_rfl) (by first | (simp; done) | (simp; omega)) (nodC_one _) ?_)
            intro w26 hBw26 hCw26
            have hzw26 := hCw26.size
            rw [setFrom_all _ _ (by simp)] at hBw26
            refine wpF_run 1 [(11, (vI 1))] (wpF_end (then_code (wpC_seq (wpC_region ?_))))
            have hK3 := (((((hK2.ext hEw24)).ext hEw25)).chg hCw26 (fun hs => by have h : _ = _ := hs; omega))
            refine wpF_step (op_v (some 71) (Instr.loadAt 41 (vP w8.heap.size 0)) (vA (nodC (Nod.mt 0 1))) (rn_lda (vs := nodC (Nod.mt 0 1)) (hK3.all) (by rw [nodC_len]; kernel_rfl)) ?_)
            refine wpF_run 1 [(72, (vA (recC Rec.zero)))] (wpF_step (op_call (some 73) (c_WithRecordBad (Nod.mt 0 1) ((4 : Nat) : Int) Rec.zero _ (by decide)) ?_))
            rintro _ w27 ⟨rfl, hEw27⟩
            have hzw27 := hEw27.size
            refine wpF_run 3 [(75, (vI 1)), (74, (vA (nodC Nod.zero))), (70, (.tuple #[(vA (nodC Nod.zero)), (vI 1)]))] (wpF_step (op_new (some 12) (Instr.alloc 41 true (.tuple #[])) (vP w27.heap.size 0) (nodC Nod.zero) 41 ?_))
            intro w28 hBw28 hEw28
            have hzw28 := hEw28.size; have hlw28 := hBw28.lt
            refine wpF_step (op_store 41 w27.heap.size 0 41 (vA (nodC Nod.zero)) (nodC Nod.zero) (nodC Nod.zero) hBw28 (by rw [nodC_len]; kernel_rfl) (by first | (simp; done) | (simp; omega)) (nodC_one _) ?_)
            intro w29 hBw29 hCw29
            have hzw29 := hCw29.size
            rw [setFrom_all _ _ (by simp)] at hBw29
            refine wpF_run 1 [(13, (vI 1))] (wpF_end (then_code (wpC_seq (wpC_region (wpF_run 19 [(94, vT), (93, vT), (92, vT), (91, (vI 1)), (90, vT), (89, vT), (88, vT), (87, (vI 1)), (86, vT), (85, vT), (84, vT), (83, (vI 1)), (82, vT), (81, vT), (80, vT), (79, (vI 0)), (78, vT), (77, vT), (76, (vI 0))] ?_)))))
            have hK4 := (((((((((((((((((((((hBw15.ext hEw16)).ext hX3)).ext hEw21)).ext hEw22)).chg hCw23 (fun hs => by have h : _ = _ := hs; omega))).ext hEw24)).ext hEw25)).chg hCw26 (fun hs => by have h : _ = _ := hs; omega))).ext hEw27)).ext hEw28)).chg hCw29 (fun hs => by have h : _ = _ := hs; omega))
            refine wpF_step (op_v (some 95) (Instr.loadAt 41 (vP w13.heap.size 0)) (vA (nodC ((Nod.mt 0 1).setR 0 (mkR 1 9)))) (rn_lda (vs := nodC ((Nod.mt 0 1).setR 0 (mkR 1 9))) (hK4.all) (by rw [nodC_len]; kernel_rfl)) ?_)
            refine wpF_step (op_call (some 96) (c_NFits 5 ((Nod.mt 0 1).setR 0 (mkR 1 9)) _ (by first | omega | decide) (by first | omega | decide)) ?_)
            rintro _ w30 ⟨rfl, hEw30⟩
            have hzw30 := hEw30.size
            rw [show fitV 5 ((Nod.mt 0 1).setR 0 (mkR 1 9)) = 0 from by decide]
            refine wpF_run 3 [(99, vT), (98, vT), (97, vT)] ?_
            have hK5 := (((((((((((((((((((hBw20.ext hEw21)).ext hEw22)).chg hCw23 (fun hs => by have h : _ = _ := hs; omega))).ext hEw24)).ext hEw25)).chg hCw26 (fun hs => by have h : _ = _ := hs; omega))).ext hEw27)).ext hEw28)).chg hCw29 (fun hs => by have h : _ = _ := hs; omega))).ext hEw30)
            refine wpF_step (op_v (some 100) (Instr.loadAt 41 (vP w18.heap.size 0)) (vA (nodC ((Nod.mt 0 1).setR 1 (mkR 2 9)))) (rn_lda (vs := nodC ((Nod.mt 0 1).setR 1 (mkR 2 9))) (hK5.all) (by rw [nodC_len]; kernel_rfl)) ?_)
            refine wpF_step (op_call (some 101) (c_NFits 5 ((Nod.mt 0 1).setR 1 (mkR 2 9)) _ (by first | omega | decide) (by first | omega | decide)) ?_)
            rintro _ w31 ⟨rfl, hEw31⟩
            have hzw31 := hEw31.size
            rw [show fitV 5 ((Nod.mt 0 1).setR 1 (mkR 2 9)) = 17 from by decide]
            refine wpF_run 3 [(104, vT), (103, vT), (102, vT)] (wpF_step (op_v (some 105) (Instr.loadAt 41 (vP w18.heap.size 0)) (vA (nodC ((Nod.mt 0 1).setR 1 (mkR 2 9)))) (rn_lda (vs := nodC ((Nod.mt 0 1).setR 1 (mkR 2 9))) ((hK5.ext hEw31).all) (by rw [nodC_len]; kernel_rfl)) ?_))
            refine wpF_step (op_call (some 106) (c_NFits 6 ((Nod.mt 0 1).setR 1 (mkR 2 9)) _ (by first | omega | decide) (by first | omega | decide)) ?_)
            rintro _ w32 ⟨rfl, hEw32⟩
            have hzw32 := hEw32.size
            rw [show fitV 6 ((Nod.mt 0 1).setR 1 (mkR 2 9)) = 0 from by decide]
            refine wpF_run 3 [(109, vT), (108, vT), (107, vT)] ?_
            have hK6 := (((((hK4.ext hEw30)).ext hEw31)).ext hEw32)
            refine wpF_step (op_v (some 110) (Instr.loadAt 41 (vP w13.heap.size 0)) (vA (nodC ((Nod.mt 0 1).setR 0 (mkR 1 9)))) (rn_lda (vs := nodC ((Nod.mt 0 1).setR 0 (mkR 1 9))) (hK6.all) (by rw [nodC_len]; kernel_rfl)) ?_)
            refine wpF_step (op_call (some 111) (c_Used ((Nod.mt 0 1).setR 0 (mkR 1 9)) _) ?_)
            rintro _ w33 ⟨rfl, hEw33⟩
            have hzw33 := hEw33.size
            rw [show usd ((Nod.mt 0 1).setR 0 (mkR 1 9)) 4 = 1 from by decide]
            refine wpF_run 3 [(114, vT), (113, vT), (112, vT)] ?_
            have hK7 := (((((((((((((hK3.ext hEw27)).ext hEw28)).chg hCw29 (fun hs => by have h : _ = _ := hs; omega))).ext hEw30)).ext hEw31)).ext hEw32)).ext hEw33)
            refine wpF_step (op_v (some 115) (Instr.loadAt 41 (vP w8.heap.size 0)) (vA (nodC (Nod.mt 0 1))) (rn_lda (vs := nodC (Nod.mt 0 1)) (hK7.all) (by rw [nodC_len]; kernel_rfl)) ?_)
            refine wpF_step (op_call (some 116) (c_Used (Nod.mt 0 1) _) ?_)
            rintro _ w34 ⟨rfl, hEw34⟩
            have hzw34 := hEw34.size
            rw [show usd (Nod.mt 0 1) 4 = 0 from by decide]
            refine wpF_run 3 [(119, vT), (118, vT), (117, vT)] ?_
            have hK8 := (((((((((((((((((((((((((((((((((((((((((((hg0.ext hEl)).ext hEw8)).ext hEw9)).chg hCw10 (fun hs => by have h : _ = _ := hs; omega))).ext hEw11)).ext hX2)).ext hEw16)).ext hX3)).ext hEw21)).ext hEw22)).chg hCw23 (fun hs => by have h : _ = _ := hs; omega))).ext hEw24)).ext hEw25)).chg hCw26 (fun hs => by have h : _ = _ := hs; omega))).ext hEw27)).ext hEw28)).chg hCw29 (fun hs => by have h : _ = _ := hs; omega))).ext hEw30)).ext hEw31)).ext hEw32)).ext hEw33)).ext hEw34)
            refine wpF_step (op_call (some 120) (c_lives13 _ hK8) ?_)
            rintro _ w35 ⟨rfl, hEw35⟩
            have hzw35 := hEw35.size
            refine wpF_run 2 [(0, vT), (121, vT)] (wpF_end (then_code (wpC_ret (body_rets vT ?_))))
            have hX4 : Ext w w35 := (((((((Ext.own (((Ext.own (((Ext.own (((((((Ext.own ((hEl.trans hEw8).trans hEw9) hCw10 (by omega)).trans hEw11).trans hX2).trans hEw16).trans hX3).trans hEw21).trans hEw22) hCw23 (by omega)).trans hEw24).trans hEw25) hCw26 (by omega)).trans hEw27).trans hEw28) hCw29 (by omega)).trans hEw30).trans hEw31).trans hEw32).trans hEw33).trans hEw34).trans hEw35)
            exact ⟨rfl, hX4⟩
          · refine op_new (some 6) (Instr.alloc 41 true (.tuple #[])) (vP w17.heap.size 0) (nodC Nod.zero) 41 ?_
            intro w36 hBw36 hEw36
            have hzw36 := hEw36.size; have hlw36 := hBw36.lt
            refine ⟨.inr (hEw17.trans hEw36), ?_⟩
            refine anyM_one 2 71 (op_call (some 54) (c_WithRecord (Nod.mt 0 1) 1 (mkR 2 9) _ (by decide) (by decide)) ?_)
            rintro _ w37 ⟨rfl, hEw37⟩
            have hzw37 := hEw37.size
            refine ⟨.inr ((hEw17.trans hEw36).trans hEw37), ?_⟩
            refine anyM_run (hw := show Ext w16 w37 from ((hEw17.trans hEw36).trans hEw37)) hT149 [(3, 51, (.tuple #[(vA (nodC ((Nod.mt 0 1).setR 1 (mkR 2 9)))), (vI 0)])), (4, 55, (vA (nodC ((Nod.mt 0 1).setR 1 (mkR 2 9))))), (5, 56, (vI 0))] 3 127 (anyM_one 7 255 (op_store 41 w17.heap.size 0 41 (vA (nodC ((Nod.mt 0 1).setR 1 (mkR 2 9)))) (nodC Nod.zero) (nodC ((Nod.mt 0 1).setR 1 (mkR 2 9))) (hBw36.ext hEw37) (by rw [nodC_len]; kernel_rfl) (by first | (simp; done) | (simp; omega)) (nodC_one _) ?_))
            intro w38 hBw38 hCw38
            have hzw38 := hCw38.size
            rw [setFrom_all _ _ (by simp)] at hBw38
            have hX5 : Ext w16 w38 := (Ext.own ((hEw17.trans hEw36).trans hEw37) hCw38 (by omega))
            refine ⟨.inr hX5, ?_⟩
            refine anyM_run (hw := show Ext w16 w38 from hX5) hT149 [(8, 7, (vI 0))] 1 511 (anyM_done (then_code (wpC_seq (wpC_region (wpF_step (op_v (some 58) (Instr.loadAt 41 (vP w8.heap.size 0)) (vA (nodC (Nod.mt 0 1))) (rn_lda (vs := nodC (Nod.mt 0 1)) ((hK1.ext hX5).all) (by rw [nodC_len]; kernel_rfl)) ?_))))))
            refine wpF_run 1 [(59, (vA (recC ⟨3, Non.zero, Dig.zero, by decide⟩)))] (wpF_step (op_call (some 60) (c_WithRecordBad (Nod.mt 0 1) ((1 : Nat) : Int) (⟨3, Non.zero, Dig.zero, by decide⟩) _ (by decide)) ?_))
            rintro _ w39 ⟨rfl, hEw39⟩
            have hzw39 := hEw39.size
            refine wpF_run 3 [(62, (vI 1)), (61, (vA (nodC Nod.zero))), (57, (.tuple #[(vA (nodC Nod.zero)), (vI 1)]))] (wpF_step (op_new (some 8) (Instr.alloc 41 true (.tuple #[])) (vP w39.heap.size 0) (nodC Nod.zero) 41 ?_))
            intro w40 hBw40 hEw40
            have hzw40 := hEw40.size; have hlw40 := hBw40.lt
            refine wpF_step (op_store 41 w39.heap.size 0 41 (vA (nodC Nod.zero)) (nodC Nod.zero) (nodC Nod.zero) hBw40 (by rw [nodC_len]; kernel_rfl) (by first | (simp; done) | (simp; omega)) (nodC_one _) ?_)
            intro w41 hBw41 hCw41
            have hzw41 := hCw41.size
            rw [setFrom_all _ _ (by simp)] at hBw41
            refine wpF_run 1 [(9, (vI 1))] (wpF_end (then_code (wpC_seq (wpC_region ?_))))
            have hK9 := (((((((hK1.ext hX5)).ext hEw39)).ext hEw40)).chg hCw41 (fun hs => by have h : _ = _ := hs; omega))
            refine wpF_step (op_v (some 64) (Instr.loadAt 41 (vP w8.heap.size 0)) (vA (nodC (Nod.mt 0 1))) (rn_lda (vs := nodC (Nod.mt 0 1)) (hK9.all) (by rw [nodC_len]; kernel_rfl)) ?_)
            refine wpF_run 2 [(66, (vA (recC ⟨0, ⟨0, 1, by decide, by decide⟩, Dig.zero, by decide⟩))), (65, (vA (nonC ⟨0, 1, by decide, by decide⟩)))] (wpF_step (op_call (some 67) (c_WithRecordBad (Nod.mt 0 1) ((1 : Nat) : Int) (⟨0, ⟨0, 1, by decide, by decide⟩, Dig.zero, by decide⟩) _ (by decide)) ?_))
            rintro _ w42 ⟨rfl, hEw42⟩
            have hzw42 := hEw42.size
            refine wpF_run 3 [(69, (vI 1)), (68, (vA (nodC Nod.zero))), (63, (.tuple #[(vA (nodC Nod.zero)), (vI 1)]))] (wpF_step (op_new (some 10) (Instr.alloc 41 true (.tuple #[])) (vP w42.heap.size 0) (nodC Nod.zero) 41 ?_))
            intro w43 hBw43 hEw43
            have hzw43 := hEw43.size; have hlw43 := hBw43.lt
            refine wpF_step (op_store 41 w42.heap.size 0 41 (vA (nodC Nod.zero)) (nodC Nod.zero) (nodC Nod.zero) hBw43 (by rw [nodC_len]; kernel_rfl) (by first | (simp; done) | (simp; omega)) (nodC_one _) ?_)
            intro w44 hBw44 hCw44
            have hzw44 := hCw44.size
            rw [setFrom_all _ _ (by simp)] at hBw44
            refine wpF_run 1 [(11, (vI 1))] (wpF_end (then_code (wpC_seq (wpC_region ?_))))
            have hK10 := (((((hK9.ext hEw42)).ext hEw43)).chg hCw44 (fun hs => by have h : _ = _ := hs; omega))
            refine wpF_step (op_v (some 71) (Instr.loadAt 41 (vP w8.heap.size 0)) (vA (nodC (Nod.mt 0 1))) (rn_lda (vs := nodC (Nod.mt 0 1)) (hK10.all) (by rw [nodC_len]; kernel_rfl)) ?_)
            refine wpF_run 1 [(72, (vA (recC Rec.zero)))] (wpF_step (op_call (some 73) (c_WithRecordBad (Nod.mt 0 1) ((4 : Nat) : Int) Rec.zero _ (by decide)) ?_))
            rintro _ w45 ⟨rfl, hEw45⟩
            have hzw45 := hEw45.size
            refine wpF_run 3 [(75, (vI 1)), (74, (vA (nodC Nod.zero))), (70, (.tuple #[(vA (nodC Nod.zero)), (vI 1)]))] (wpF_step (op_new (some 12) (Instr.alloc 41 true (.tuple #[])) (vP w45.heap.size 0) (nodC Nod.zero) 41 ?_))
            intro w46 hBw46 hEw46
            have hzw46 := hEw46.size; have hlw46 := hBw46.lt
            refine wpF_step (op_store 41 w45.heap.size 0 41 (vA (nodC Nod.zero)) (nodC Nod.zero) (nodC Nod.zero) hBw46 (by rw [nodC_len]; kernel_rfl) (by first | (simp; done) | (simp; omega)) (nodC_one _) ?_)
            intro w47 hBw47 hCw47
            have hzw47 := hCw47.size
            rw [setFrom_all _ _ (by simp)] at hBw47
            refine wpF_run 1 [(13, (vI 1))] (wpF_end (then_code (wpC_seq (wpC_region (wpF_run 19 [(94, vT), (93, vT), (92, vT), (91, (vI 1)), (90, vT), (89, vT), (88, vT), (87, (vI 1)), (86, vT), (85, vT), (84, vT), (83, (vI 1)), (82, vT), (81, vT), (80, vT), (79, (vI 0)), (78, vT), (77, vT), (76, (vI 0))] ?_)))))
            have hK11 := (((((((((((((((((((((hBw15.ext hEw16)).ext hX5)).ext hEw39)).ext hEw40)).chg hCw41 (fun hs => by have h : _ = _ := hs; omega))).ext hEw42)).ext hEw43)).chg hCw44 (fun hs => by have h : _ = _ := hs; omega))).ext hEw45)).ext hEw46)).chg hCw47 (fun hs => by have h : _ = _ := hs; omega))
            refine wpF_step (op_v (some 95) (Instr.loadAt 41 (vP w13.heap.size 0)) (vA (nodC ((Nod.mt 0 1).setR 0 (mkR 1 9)))) (rn_lda (vs := nodC ((Nod.mt 0 1).setR 0 (mkR 1 9))) (hK11.all) (by rw [nodC_len]; kernel_rfl)) ?_)
            refine wpF_step (op_call (some 96) (c_NFits 5 ((Nod.mt 0 1).setR 0 (mkR 1 9)) _ (by first | omega | decide) (by first | omega | decide)) ?_)
            rintro _ w48 ⟨rfl, hEw48⟩
            have hzw48 := hEw48.size
            rw [show fitV 5 ((Nod.mt 0 1).setR 0 (mkR 1 9)) = 0 from by decide]
            refine wpF_run 3 [(99, vT), (98, vT), (97, vT)] ?_
            have hK12 := (((((((((((((((((((hBw38.ext hEw39)).ext hEw40)).chg hCw41 (fun hs => by have h : _ = _ := hs; omega))).ext hEw42)).ext hEw43)).chg hCw44 (fun hs => by have h : _ = _ := hs; omega))).ext hEw45)).ext hEw46)).chg hCw47 (fun hs => by have h : _ = _ := hs; omega))).ext hEw48)
            refine wpF_step (op_v (some 100) (Instr.loadAt 41 (vP w17.heap.size 0)) (vA (nodC ((Nod.mt 0 1).setR 1 (mkR 2 9)))) (rn_lda (vs := nodC ((Nod.mt 0 1).setR 1 (mkR 2 9))) (hK12.all) (by rw [nodC_len]; kernel_rfl)) ?_)
            refine wpF_step (op_call (some 101) (c_NFits 5 ((Nod.mt 0 1).setR 1 (mkR 2 9)) _ (by first | omega | decide) (by first | omega | decide)) ?_)
            rintro _ w49 ⟨rfl, hEw49⟩
            have hzw49 := hEw49.size
            rw [show fitV 5 ((Nod.mt 0 1).setR 1 (mkR 2 9)) = 17 from by decide]
            refine wpF_run 3 [(104, vT), (103, vT), (102, vT)] (wpF_step (op_v (some 105) (Instr.loadAt 41 (vP w17.heap.size 0)) (vA (nodC ((Nod.mt 0 1).setR 1 (mkR 2 9)))) (rn_lda (vs := nodC ((Nod.mt 0 1).setR 1 (mkR 2 9))) ((hK12.ext hEw49).all) (by rw [nodC_len]; kernel_rfl)) ?_))
            refine wpF_step (op_call (some 106) (c_NFits 6 ((Nod.mt 0 1).setR 1 (mkR 2 9)) _ (by first | omega | decide) (by first | omega | decide)) ?_)
            rintro _ w50 ⟨rfl, hEw50⟩
            have hzw50 := hEw50.size
            rw [show fitV 6 ((Nod.mt 0 1).setR 1 (mkR 2 9)) = 0 from by decide]
            refine wpF_run 3 [(109, vT), (108, vT), (107, vT)] ?_
            have hK13 := (((((hK11.ext hEw48)).ext hEw49)).ext hEw50)
            refine wpF_step (op_v (some 110) (Instr.loadAt 41 (vP w13.heap.size 0)) (vA (nodC ((Nod.mt 0 1).setR 0 (mkR 1 9)))) (rn_lda (vs := nodC ((Nod.mt 0 1).setR 0 (mkR 1 9))) (hK13.all) (by rw [nodC_len]; kernel_rfl)) ?_)
            refine wpF_step (op_call (some 111) (c_Used ((Nod.mt 0 1).setR 0 (mkR 1 9)) _) ?_)
            rintro _ w51 ⟨rfl, hEw51⟩
            have hzw51 := hEw51.size
            rw [show usd ((Nod.mt 0 1).setR 0 (mkR 1 9)) 4 = 1 from by decide]
            refine wpF_run 3 [(114, vT), (113, vT), (112, vT)] ?_
            have hK14 := (((((((((((((hK10.ext hEw45)).ext hEw46)).chg hCw47 (fun hs => by have h : _ = _ := hs; omega))).ext hEw48)).ext hEw49)).ext hEw50)).ext hEw51)
            refine wpF_step (op_v (some 115) (Instr.loadAt 41 (vP w8.heap.size 0)) (vA (nodC (Nod.mt 0 1))) (rn_lda (vs := nodC (Nod.mt 0 1)) (hK14.all) (by rw [nodC_len]; kernel_rfl)) ?_)
            refine wpF_step (op_call (some 116) (c_Used (Nod.mt 0 1) _) ?_)
            rintro _ w52 ⟨rfl, hEw52⟩
            have hzw52 := hEw52.size
            rw [show usd (Nod.mt 0 1) 4 = 0 from by decide]
            refine wpF_run 3 [(119, vT), (118, vT), (117, vT)] ?_
            have hK15 := (((((((((((((((((((((((((((((((((((((((((((hg0.ext hEl)).ext hEw8)).ext hEw9)).chg hCw10 (fun hs => by have h : _ = _ := hs; omega))).ext hEw11)).ext hX2)).ext hEw16)).ext hX5)).ext hEw39)).ext hEw40)).chg hCw41 (fun hs => by have h : _ = _ := hs; omega))).ext hEw42)).ext hEw43)).chg hCw44 (fun hs => by have h : _ = _ := hs; omega))).ext hEw45)).ext hEw46)).chg hCw47 (fun hs => by have h : _ = _ := hs; omega))).ext hEw48)).ext hEw49)).ext hEw50)).ext hEw51)).ext hEw52)
            refine wpF_step (op_call (some 120) (c_lives13 _ hK15) ?_)
            rintro _ w53 ⟨rfl, hEw53⟩
            have hzw53 := hEw53.size
            refine wpF_run 2 [(0, vT), (121, vT)] (wpF_end (then_code (wpC_ret (body_rets vT ?_))))
            have hX6 : Ext w w53 := (((((((Ext.own (((Ext.own (((Ext.own (((((((Ext.own ((hEl.trans hEw8).trans hEw9) hCw10 (by omega)).trans hEw11).trans hX2).trans hEw16).trans hX5).trans hEw39).trans hEw40) hCw41 (by omega)).trans hEw42).trans hEw43) hCw44 (by omega)).trans hEw45).trans hEw46) hCw47 (by omega)).trans hEw48).trans hEw49).trans hEw50).trans hEw51).trans hEw52).trans hEw53)
            exact ⟨rfl, hX6⟩
        · refine op_new (some 6) (Instr.alloc 41 true (.tuple #[])) (vP w16.heap.size 0) (nodC Nod.zero) 41 ?_
          intro w54 hBw54 hEw54
          have hzw54 := hEw54.size; have hlw54 := hBw54.lt
          refine ⟨.inr hEw54, ?_⟩
          refine anyM_one 1 67 (op_call (some 53) (c_mkR 2 9 _ (by first | omega | decide) (by first | omega | decide)) ?_)
          rintro _ w55 ⟨rfl, hEw55⟩
          have hzw55 := hEw55.size
          refine ⟨.inr (hEw54.trans hEw55), ?_⟩
          refine anyM_one 2 71 (op_call (some 54) (c_WithRecord (Nod.mt 0 1) 1 (mkR 2 9) _ (by decide) (by decide)) ?_)
          rintro _ w56 ⟨rfl, hEw56⟩
          have hzw56 := hEw56.size
          refine ⟨.inr ((hEw54.trans hEw55).trans hEw56), ?_⟩
          refine anyM_run (hw := show Ext w16 w56 from ((hEw54.trans hEw55).trans hEw56)) hT149 [(3, 51, (.tuple #[(vA (nodC ((Nod.mt 0 1).setR 1 (mkR 2 9)))), (vI 0)])), (4, 55, (vA (nodC ((Nod.mt 0 1).setR 1 (mkR 2 9))))), (5, 56, (vI 0))] 3 127 (anyM_one 7 255 (op_store 41 w16.heap.size 0 41 (vA (nodC ((Nod.mt 0 1).setR 1 (mkR 2 9)))) (nodC Nod.zero) (nodC ((Nod.mt 0 1).setR 1 (mkR 2 9))) (((hBw54.ext hEw55)).ext hEw56) (by rw [nodC_len]; kernel_rfl) (by first | (simp; done) | (simp; omega)) (nodC_one _) ?_))
          intro w57 hBw57 hCw57
          have hzw57 := hCw57.size
          rw [setFrom_all _ _ (by simp)] at hBw57
          have hX7 : Ext w16 w57 := (Ext.own ((hEw54.trans hEw55).trans hEw56) hCw57 (by omega))
          refine ⟨.inr hX7, ?_⟩
          refine anyM_run (hw := show Ext w16 w57 from hX7) hT149 [(8, 7, (vI 0))] 1 511 (anyM_done (then_code (wpC_seq (wpC_region (wpF_step (op_v (some 58) (Instr.loadAt 41 (vP w8.heap.size 0)) (vA (nodC (Nod.mt 0 1))) (rn_lda (vs := nodC (Nod.mt 0 1)) ((hK1.ext hX7).all) (by rw [nodC_len]; kernel_rfl)) ?_))))))
          refine wpF_run 1 [(59, (vA (recC ⟨3, Non.zero, Dig.zero, by decide⟩)))] (wpF_step (op_call (some 60) (c_WithRecordBad (Nod.mt 0 1) ((1 : Nat) : Int) (⟨3, Non.zero, Dig.zero, by decide⟩) _ (by decide)) ?_))
          rintro _ w58 ⟨rfl, hEw58⟩
          have hzw58 := hEw58.size
          refine wpF_run 3 [(62, (vI 1)), (61, (vA (nodC Nod.zero))), (57, (.tuple #[(vA (nodC Nod.zero)), (vI 1)]))] (wpF_step (op_new (some 8) (Instr.alloc 41 true (.tuple #[])) (vP w58.heap.size 0) (nodC Nod.zero) 41 ?_))
          intro w59 hBw59 hEw59
          have hzw59 := hEw59.size; have hlw59 := hBw59.lt
          refine wpF_step (op_store 41 w58.heap.size 0 41 (vA (nodC Nod.zero)) (nodC Nod.zero) (nodC Nod.zero) hBw59 (by rw [nodC_len]; kernel_rfl) (by first | (simp; done) | (simp; omega)) (nodC_one _) ?_)
          intro w60 hBw60 hCw60
          have hzw60 := hCw60.size
          rw [setFrom_all _ _ (by simp)] at hBw60
          refine wpF_run 1 [(9, (vI 1))] (wpF_end (then_code (wpC_seq (wpC_region ?_))))
          have hK16 := (((((((hK1.ext hX7)).ext hEw58)).ext hEw59)).chg hCw60 (fun hs => by have h : _ = _ := hs; omega))
          refine wpF_step (op_v (some 64) (Instr.loadAt 41 (vP w8.heap.size 0)) (vA (nodC (Nod.mt 0 1))) (rn_lda (vs := nodC (Nod.mt 0 1)) (hK16.all) (by rw [nodC_len]; kernel_rfl)) ?_)
          refine wpF_run 2 [(66, (vA (recC ⟨0, ⟨0, 1, by decide, by decide⟩, Dig.zero, by decide⟩))), (65, (vA (nonC ⟨0, 1, by decide, by decide⟩)))] (wpF_step (op_call (some 67) (c_WithRecordBad (Nod.mt 0 1) ((1 : Nat) : Int) (⟨0, ⟨0, 1, by decide, by decide⟩, Dig.zero, by decide⟩) _ (by decide)) ?_))
          rintro _ w61 ⟨rfl, hEw61⟩
          have hzw61 := hEw61.size
          refine wpF_run 3 [(69, (vI 1)), (68, (vA (nodC Nod.zero))), (63, (.tuple #[(vA (nodC Nod.zero)), (vI 1)]))] (wpF_step (op_new (some 10) (Instr.alloc 41 true (.tuple #[])) (vP w61.heap.size 0) (nodC Nod.zero) 41 ?_))
          intro w62 hBw62 hEw62
          have hzw62 := hEw62.size; have hlw62 := hBw62.lt
          refine wpF_step (op_store 41 w61.heap.size 0 41 (vA (nodC Nod.zero)) (nodC Nod.zero) (nodC Nod.zero) hBw62 (by rw [nodC_len]; kernel_rfl) (by first | (simp; done) | (simp; omega)) (nodC_one _) ?_)
          intro w63 hBw63 hCw63
          have hzw63 := hCw63.size
          rw [setFrom_all _ _ (by simp)] at hBw63
          refine wpF_run 1 [(11, (vI 1))] (wpF_end (then_code (wpC_seq (wpC_region ?_))))
          have hK17 := (((((hK16.ext hEw61)).ext hEw62)).chg hCw63 (fun hs => by have h : _ = _ := hs; omega))
          refine wpF_step (op_v (some 71) (Instr.loadAt 41 (vP w8.heap.size 0)) (vA (nodC (Nod.mt 0 1))) (rn_lda (vs := nodC (Nod.mt 0 1)) (hK17.all) (by rw [nodC_len]; kernel_rfl)) ?_)
          refine wpF_run 1 [(72, (vA (recC Rec.zero)))] (wpF_step (op_call (some 73) (c_WithRecordBad (Nod.mt 0 1) ((4 : Nat) : Int) Rec.zero _ (by decide)) ?_))
          rintro _ w64 ⟨rfl, hEw64⟩
          have hzw64 := hEw64.size
          refine wpF_run 3 [(75, (vI 1)), (74, (vA (nodC Nod.zero))), (70, (.tuple #[(vA (nodC Nod.zero)), (vI 1)]))] (wpF_step (op_new (some 12) (Instr.alloc 41 true (.tuple #[])) (vP w64.heap.size 0) (nodC Nod.zero) 41 ?_))
          intro w65 hBw65 hEw65
          have hzw65 := hEw65.size; have hlw65 := hBw65.lt
          refine wpF_step (op_store 41 w64.heap.size 0 41 (vA (nodC Nod.zero)) (nodC Nod.zero) (nodC Nod.zero) hBw65 (by rw [nodC_len]; kernel_rfl) (by first | (simp; done) | (simp; omega)) (nodC_one _) ?_)
          intro w66 hBw66 hCw66
          have hzw66 := hCw66.size
          rw [setFrom_all _ _ (by simp)] at hBw66
          refine wpF_run 1 [(13, (vI 1))] (wpF_end (then_code (wpC_seq (wpC_region (wpF_run 19 [(94, vT), (93, vT), (92, vT), (91, (vI 1)), (90, vT), (89, vT), (88, vT), (87, (vI 1)), (86, vT), (85, vT), (84, vT), (83, (vI 1)), (82, vT), (81, vT), (80, vT), (79, (vI 0)), (78, vT), (77, vT), (76, (vI 0))] ?_)))))
          have hK18 := (((((((((((((((((((((hBw15.ext hEw16)).ext hX7)).ext hEw58)).ext hEw59)).chg hCw60 (fun hs => by have h : _ = _ := hs; omega))).ext hEw61)).ext hEw62)).chg hCw63 (fun hs => by have h : _ = _ := hs; omega))).ext hEw64)).ext hEw65)).chg hCw66 (fun hs => by have h : _ = _ := hs; omega))
          refine wpF_step (op_v (some 95) (Instr.loadAt 41 (vP w13.heap.size 0)) (vA (nodC ((Nod.mt 0 1).setR 0 (mkR 1 9)))) (rn_lda (vs := nodC ((Nod.mt 0 1).setR 0 (mkR 1 9))) (hK18.all) (by rw [nodC_len]; kernel_rfl)) ?_)
          refine wpF_step (op_call (some 96) (c_NFits 5 ((Nod.mt 0 1).setR 0 (mkR 1 9)) _ (by first | omega | decide) (by first | omega | decide)) ?_)
          rintro _ w67 ⟨rfl, hEw67⟩
          have hzw67 := hEw67.size
          rw [show fitV 5 ((Nod.mt 0 1).setR 0 (mkR 1 9)) = 0 from by decide]
          refine wpF_run 3 [(99, vT), (98, vT), (97, vT)] ?_
          have hK19 := (((((((((((((((((((hBw57.ext hEw58)).ext hEw59)).chg hCw60 (fun hs => by have h : _ = _ := hs; omega))).ext hEw61)).ext hEw62)).chg hCw63 (fun hs => by have h : _ = _ := hs; omega))).ext hEw64)).ext hEw65)).chg hCw66 (fun hs => by have h : _ = _ := hs; omega))).ext hEw67)
          refine wpF_step (op_v (some 100) (Instr.loadAt 41 (vP w16.heap.size 0)) (vA (nodC ((Nod.mt 0 1).setR 1 (mkR 2 9)))) (rn_lda (vs := nodC ((Nod.mt 0 1).setR 1 (mkR 2 9))) (hK19.all) (by rw [nodC_len]; kernel_rfl)) ?_)
          refine wpF_step (op_call (some 101) (c_NFits 5 ((Nod.mt 0 1).setR 1 (mkR 2 9)) _ (by first | omega | decide) (by first | omega | decide)) ?_)
          rintro _ w68 ⟨rfl, hEw68⟩
          have hzw68 := hEw68.size
          rw [show fitV 5 ((Nod.mt 0 1).setR 1 (mkR 2 9)) = 17 from by decide]
          refine wpF_run 3 [(104, vT), (103, vT), (102, vT)] (wpF_step (op_v (some 105) (Instr.loadAt 41 (vP w16.heap.size 0)) (vA (nodC ((Nod.mt 0 1).setR 1 (mkR 2 9)))) (rn_lda (vs := nodC ((Nod.mt 0 1).setR 1 (mkR 2 9))) ((hK19.ext hEw68).all) (by rw [nodC_len]; kernel_rfl)) ?_))
          refine wpF_step (op_call (some 106) (c_NFits 6 ((Nod.mt 0 1).setR 1 (mkR 2 9)) _ (by first | omega | decide) (by first | omega | decide)) ?_)
          rintro _ w69 ⟨rfl, hEw69⟩
          have hzw69 := hEw69.size
          rw [show fitV 6 ((Nod.mt 0 1).setR 1 (mkR 2 9)) = 0 from by decide]
          refine wpF_run 3 [(109, vT), (108, vT), (107, vT)] ?_
          have hK20 := (((((hK18.ext hEw67)).ext hEw68)).ext hEw69)
          refine wpF_step (op_v (some 110) (Instr.loadAt 41 (vP w13.heap.size 0)) (vA (nodC ((Nod.mt 0 1).setR 0 (mkR 1 9)))) (rn_lda (vs := nodC ((Nod.mt 0 1).setR 0 (mkR 1 9))) (hK20.all) (by rw [nodC_len]; kernel_rfl)) ?_)
          refine wpF_step (op_call (some 111) (c_Used ((Nod.mt 0 1).setR 0 (mkR 1 9)) _) ?_)
          rintro _ w70 ⟨rfl, hEw70⟩
          have hzw70 := hEw70.size
          rw [show usd ((Nod.mt 0 1).setR 0 (mkR 1 9)) 4 = 1 from by decide]
          refine wpF_run 3 [(114, vT), (113, vT), (112, vT)] ?_
          have hK21 := (((((((((((((hK17.ext hEw64)).ext hEw65)).chg hCw66 (fun hs => by have h : _ = _ := hs; omega))).ext hEw67)).ext hEw68)).ext hEw69)).ext hEw70)
          refine wpF_step (op_v (some 115) (Instr.loadAt 41 (vP w8.heap.size 0)) (vA (nodC (Nod.mt 0 1))) (rn_lda (vs := nodC (Nod.mt 0 1)) (hK21.all) (by rw [nodC_len]; kernel_rfl)) ?_)
          refine wpF_step (op_call (some 116) (c_Used (Nod.mt 0 1) _) ?_)
          rintro _ w71 ⟨rfl, hEw71⟩
          have hzw71 := hEw71.size
          rw [show usd (Nod.mt 0 1) 4 = 0 from by decide]
          refine wpF_run 3 [(119, vT), (118, vT), (117, vT)] ?_
          have hK22 := (((((((((((((((((((((((((((((((((((((((((((hg0.ext hEl)).ext hEw8)).ext hEw9)).chg hCw10 (fun hs => by have h : _ = _ := hs; omega))).ext hEw11)).ext hX2)).ext hEw16)).ext hX7)).ext hEw58)).ext hEw59)).chg hCw60 (fun hs => by have h : _ = _ := hs; omega))).ext hEw61)).ext hEw62)).chg hCw63 (fun hs => by have h : _ = _ := hs; omega))).ext hEw64)).ext hEw65)).chg hCw66 (fun hs => by have h : _ = _ := hs; omega))).ext hEw67)).ext hEw68)).ext hEw69)).ext hEw70)).ext hEw71)
          refine wpF_step (op_call (some 120) (c_lives13 _ hK22) ?_)
          rintro _ w72 ⟨rfl, hEw72⟩
          have hzw72 := hEw72.size
          refine wpF_run 2 [(0, vT), (121, vT)] (wpF_end (then_code (wpC_ret (body_rets vT ?_))))
          have hX8 : Ext w w72 := (((((((Ext.own (((Ext.own (((Ext.own (((((((Ext.own ((hEl.trans hEw8).trans hEw9) hCw10 (by omega)).trans hEw11).trans hX2).trans hEw16).trans hX7).trans hEw58).trans hEw59) hCw60 (by omega)).trans hEw61).trans hEw62) hCw63 (by omega)).trans hEw64).trans hEw65) hCw66 (by omega)).trans hEw67).trans hEw68).trans hEw69).trans hEw70).trans hEw71).trans hEw72)
          exact ⟨rfl, hX8⟩
      · refine op_new (some 4) (Instr.alloc 41 true (.tuple #[])) (vP w12.heap.size 0) (nodC Nod.zero) 41 ?_
        intro w73 hBw73 hEw73
        have hzw73 := hEw73.size; have hlw73 := hBw73.lt
        refine ⟨.inr (hEw12.trans hEw73), ?_⟩
        refine anyM_one 2 71 (op_call (some 48) (c_WithRecord (Nod.mt 0 1) 0 (mkR 1 9) _ (by decide) (by decide)) ?_)
        rintro _ w74 ⟨rfl, hEw74⟩
        have hzw74 := hEw74.size
        refine ⟨.inr ((hEw12.trans hEw73).trans hEw74), ?_⟩
        refine anyM_run (hw := show Ext w11 w74 from ((hEw12.trans hEw73).trans hEw74)) hT119 [(3, 45, (.tuple #[(vA (nodC ((Nod.mt 0 1).setR 0 (mkR 1 9)))), (vI 0)])), (4, 49, (vA (nodC ((Nod.mt 0 1).setR 0 (mkR 1 9))))), (5, 50, (vI 0))] 3 127 (anyM_one 7 255 (op_store 41 w12.heap.size 0 41 (vA (nodC ((Nod.mt 0 1).setR 0 (mkR 1 9)))) (nodC Nod.zero) (nodC ((Nod.mt 0 1).setR 0 (mkR 1 9))) (hBw73.ext hEw74) (by rw [nodC_len]; kernel_rfl) (by first | (simp; done) | (simp; omega)) (nodC_one _) ?_))
        intro w75 hBw75 hCw75
        have hzw75 := hCw75.size
        rw [setFrom_all _ _ (by simp)] at hBw75
        have hX9 : Ext w11 w75 := (Ext.own ((hEw12.trans hEw73).trans hEw74) hCw75 (by omega))
        refine ⟨.inr hX9, ?_⟩
        refine anyM_run (hw := show Ext w11 w75 from hX9) hT119 [(8, 5, (vI 0))] 1 511 (anyM_done (then_code (wpC_seq (wpC_drawM (Ext w75.drew) 9 [(53, 8, 0), (54, 0, 0), (55, 13510798882111488, 3), (52, 18014398509481984, 4), (56, 2251799813685248, 8), (57, 2251799813685248, 8), (7, 0, 0), (0, 36028797018964032, 95), (8, 72057594037927936, 255)] (fun hT550 => ?_)))))
        have hEw76 : Ext w75 w75.drew := Ext.drew w75
        generalize w75.drew = w76 at hEw76 ⊢
        have hzw76 := hEw76.size
        have hK23 := (((((hBw10.ext hEw11)).ext hX9)).ext hEw76)
        refine anyM_take hT550 0 1 (some 52) (vA (nodC (Nod.mt 0 1))) (yld_val (Instr.loadAt 41 (vP w8.heap.size 0)) (fun w' hC => rn_lda (vs := nodC (Nod.mt 0 1)) ((hK23.ext hC).all) (by rw [nodC_len]; kernel_rfl))) (anyM_two 1 6 3 65 ?_ ?_)
        · refine op_call (some 53) (c_mkR 2 9 _ (by first | omega | decide) (by first | omega | decide)) ?_
          rintro _ w77 ⟨rfl, hEw77⟩
          have hzw77 := hEw77.size
          refine ⟨.inr hEw77, ?_⟩
          refine anyM_two 2 6 7 67 ?_ ?_
          · refine op_call (some 54) (c_WithRecord (Nod.mt 0 1) 1 (mkR 2 9) _ (by decide) (by decide)) ?_
            rintro _ w78 ⟨rfl, hEw78⟩
            have hzw78 := hEw78.size
            refine ⟨.inr (hEw77.trans hEw78), ?_⟩
            refine anyM_run (hw := show Ext w76 w78 from (hEw77.trans hEw78)) hT550 [(3, 51, (.tuple #[(vA (nodC ((Nod.mt 0 1).setR 1 (mkR 2 9)))), (vI 0)])), (4, 55, (vA (nodC ((Nod.mt 0 1).setR 1 (mkR 2 9))))), (5, 56, (vI 0))] 3 63 (anyM_one 6 127 (op_new (some 6) (Instr.alloc 41 true (.tuple #[])) (vP w78.heap.size 0) (nodC Nod.zero) 41 ?_))
            intro w79 hBw79 hEw79
            have hzw79 := hEw79.size; have hlw79 := hBw79.lt
            refine ⟨.inr ((hEw77.trans hEw78).trans hEw79), ?_⟩
            refine anyM_one 7 255 (op_store 41 w78.heap.size 0 41 (vA (nodC ((Nod.mt 0 1).setR 1 (mkR 2 9)))) (nodC Nod.zero) (nodC ((Nod.mt 0 1).setR 1 (mkR 2 9))) hBw79 (by rw [nodC_len]; kernel_rfl) (by first | (simp; done) | (simp; omega)) (nodC_one _) ?_)
            intro w80 hBw80 hCw80
            have hzw80 := hCw80.size
            rw [setFrom_all _ _ (by simp)] at hBw80
            have hX10 : Ext w76 w80 := (Ext.own ((hEw77.trans hEw78).trans hEw79) hCw80 (by omega))
            refine ⟨.inr hX10, ?_⟩
            refine anyM_run (hw := show Ext w76 w80 from hX10) hT550 [(8, 7, (vI 0))] 1 511 (anyM_done (then_code (wpC_seq (wpC_region (wpF_step (op_v (some 58) (Instr.loadAt 41 (vP w8.heap.size 0)) (vA (nodC (Nod.mt 0 1))) (rn_lda (vs := nodC (Nod.mt 0 1)) ((hK23.ext hX10).all) (by rw [nodC_len]; kernel_rfl)) ?_))))))
            refine wpF_run 1 [(59, (vA (recC ⟨3, Non.zero, Dig.zero, by decide⟩)))] (wpF_step (op_call (some 60) (c_WithRecordBad (Nod.mt 0 1) ((1 : Nat) : Int) (⟨3, Non.zero, Dig.zero, by decide⟩) _ (by decide)) ?_))
            rintro _ w81 ⟨rfl, hEw81⟩
            have hzw81 := hEw81.size
            refine wpF_run 3 [(62, (vI 1)), (61, (vA (nodC Nod.zero))), (57, (.tuple #[(vA (nodC Nod.zero)), (vI 1)]))] (wpF_step (op_new (some 8) (Instr.alloc 41 true (.tuple #[])) (vP w81.heap.size 0) (nodC Nod.zero) 41 ?_))
            intro w82 hBw82 hEw82
            have hzw82 := hEw82.size; have hlw82 := hBw82.lt
            refine wpF_step (op_store 41 w81.heap.size 0 41 (vA (nodC Nod.zero)) (nodC Nod.zero) (nodC Nod.zero) hBw82 (by rw [nodC_len]; kernel_rfl) (by first | (simp; done) | (simp; omega)) (nodC_one _) ?_)
            intro w83 hBw83 hCw83
            have hzw83 := hCw83.size
            rw [setFrom_all _ _ (by simp)] at hBw83
            refine wpF_run 1 [(9, (vI 1))] (wpF_end (then_code (wpC_seq (wpC_region ?_))))
            have hK24 := (((((((hK23.ext hX10)).ext hEw81)).ext hEw82)).chg hCw83 (fun hs => by have h : _ = _ := hs; omega))
            refine wpF_step (op_v (some 64) (Instr.loadAt 41 (vP w8.heap.size 0)) (vA (nodC (Nod.mt 0 1))) (rn_lda (vs := nodC (Nod.mt 0 1)) (hK24.all) (by rw [nodC_len]; kernel_rfl)) ?_)
            refine wpF_run 2 [(66, (vA (recC ⟨0, ⟨0, 1, by decide, by decide⟩, Dig.zero, by decide⟩))), (65, (vA (nonC ⟨0, 1, by decide, by decide⟩)))] (wpF_step (op_call (some 67) (c_WithRecordBad (Nod.mt 0 1) ((1 : Nat) : Int) (⟨0, ⟨0, 1, by decide, by decide⟩, Dig.zero, by decide⟩) _ (by decide)) ?_))
            rintro _ w84 ⟨rfl, hEw84⟩
            have hzw84 := hEw84.size
            refine wpF_run 3 [(69, (vI 1)), (68, (vA (nodC Nod.zero))), (63, (.tuple #[(vA (nodC Nod.zero)), (vI 1)]))] (wpF_step (op_new (some 10) (Instr.alloc 41 true (.tuple #[])) (vP w84.heap.size 0) (nodC Nod.zero) 41 ?_))
            intro w85 hBw85 hEw85
            have hzw85 := hEw85.size; have hlw85 := hBw85.lt
            refine wpF_step (op_store 41 w84.heap.size 0 41 (vA (nodC Nod.zero)) (nodC Nod.zero) (nodC Nod.zero) hBw85 (by rw [nodC_len]; kernel_rfl) (by first | (simp; done) | (simp; omega)) (nodC_one _) ?_)
            intro w86 hBw86 hCw86
            have hzw86 := hCw86.size
            rw [setFrom_all _ _ (by simp)] at hBw86
            refine wpF_run 1 [(11, (vI 1))] (wpF_end (then_code (wpC_seq (wpC_region ?_))))
            have hK25 := (((((hK24.ext hEw84)).ext hEw85)).chg hCw86 (fun hs => by have h : _ = _ := hs; omega))
            refine wpF_step (op_v (some 71) (Instr.loadAt 41 (vP w8.heap.size 0)) (vA (nodC (Nod.mt 0 1))) (rn_lda (vs := nodC (Nod.mt 0 1)) (hK25.all) (by rw [nodC_len]; kernel_rfl)) ?_)
            refine wpF_run 1 [(72, (vA (recC Rec.zero)))] (wpF_step (op_call (some 73) (c_WithRecordBad (Nod.mt 0 1) ((4 : Nat) : Int) Rec.zero _ (by decide)) ?_))
            rintro _ w87 ⟨rfl, hEw87⟩
            have hzw87 := hEw87.size
            refine wpF_run 3 [(75, (vI 1)), (74, (vA (nodC Nod.zero))), (70, (.tuple #[(vA (nodC Nod.zero)), (vI 1)]))] (wpF_step (op_new (some 12) (Instr.alloc 41 true (.tuple #[])) (vP w87.heap.size 0) (nodC Nod.zero) 41 ?_))
            intro w88 hBw88 hEw88
            have hzw88 := hEw88.size; have hlw88 := hBw88.lt
            refine wpF_step (op_store 41 w87.heap.size 0 41 (vA (nodC Nod.zero)) (nodC Nod.zero) (nodC Nod.zero) hBw88 (by rw [nodC_len]; kernel_rfl) (by first | (simp; done) | (simp; omega)) (nodC_one _) ?_)
            intro w89 hBw89 hCw89
            have hzw89 := hCw89.size
            rw [setFrom_all _ _ (by simp)] at hBw89
            refine wpF_run 1 [(13, (vI 1))] (wpF_end (then_code (wpC_seq (wpC_region (wpF_run 19 [(94, vT), (93, vT), (92, vT), (91, (vI 1)), (90, vT), (89, vT), (88, vT), (87, (vI 1)), (86, vT), (85, vT), (84, vT), (83, (vI 1)), (82, vT), (81, vT), (80, vT), (79, (vI 0)), (78, vT), (77, vT), (76, (vI 0))] ?_)))))
            have hK26 := (((((((((((((((((((((hBw75.ext hEw76)).ext hX10)).ext hEw81)).ext hEw82)).chg hCw83 (fun hs => by have h : _ = _ := hs; omega))).ext hEw84)).ext hEw85)).chg hCw86 (fun hs => by have h : _ = _ := hs; omega))).ext hEw87)).ext hEw88)).chg hCw89 (fun hs => by have h : _ = _ := hs; omega))
            refine wpF_step (op_v (some 95) (Instr.loadAt 41 (vP w12.heap.size 0)) (vA (nodC ((Nod.mt 0 1).setR 0 (mkR 1 9)))) (rn_lda (vs := nodC ((Nod.mt 0 1).setR 0 (mkR 1 9))) (hK26.all) (by rw [nodC_len]; kernel_rfl)) ?_)
            refine wpF_step (op_call (some 96) (c_NFits 5 ((Nod.mt 0 1).setR 0 (mkR 1 9)) _ (by first | omega | decide) (by first | omega | decide)) ?_)
            rintro _ w90 ⟨rfl, hEw90⟩
            have hzw90 := hEw90.size
            rw [show fitV 5 ((Nod.mt 0 1).setR 0 (mkR 1 9)) = 0 from by decide]
            refine wpF_run 3 [(99, vT), (98, vT), (97, vT)] ?_
            have hK27 := (((((((((((((((((((hBw80.ext hEw81)).ext hEw82)).chg hCw83 (fun hs => by have h : _ = _ := hs; omega))).ext hEw84)).ext hEw85)).chg hCw86 (fun hs => by have h : _ = _ := hs; omega))).ext hEw87)).ext hEw88)).chg hCw89 (fun hs => by have h : _ = _ := hs; omega))).ext hEw90)
            refine wpF_step (op_v (some 100) (Instr.loadAt 41 (vP w78.heap.size 0)) (vA (nodC ((Nod.mt 0 1).setR 1 (mkR 2 9)))) (rn_lda (vs := nodC ((Nod.mt 0 1).setR 1 (mkR 2 9))) (hK27.all) (by rw [nodC_len]; kernel_rfl)) ?_)
            refine wpF_step (op_call (some 101) (c_NFits 5 ((Nod.mt 0 1).setR 1 (mkR 2 9)) _ (by first | omega | decide) (by first | omega | decide)) ?_)
            rintro _ w91 ⟨rfl, hEw91⟩
            have hzw91 := hEw91.size
            rw [show fitV 5 ((Nod.mt 0 1).setR 1 (mkR 2 9)) = 17 from by decide]
            refine wpF_run 3 [(104, vT), (103, vT), (102, vT)] (wpF_step (op_v (some 105) (Instr.loadAt 41 (vP w78.heap.size 0)) (vA (nodC ((Nod.mt 0 1).setR 1 (mkR 2 9)))) (rn_lda (vs := nodC ((Nod.mt 0 1).setR 1 (mkR 2 9))) ((hK27.ext hEw91).all) (by rw [nodC_len]; kernel_rfl)) ?_))
            refine wpF_step (op_call (some 106) (c_NFits 6 ((Nod.mt 0 1).setR 1 (mkR 2 9)) _ (by first | omega | decide) (by first | omega | decide)) ?_)
            rintro _ w92 ⟨rfl, hEw92⟩
            have hzw92 := hEw92.size
            rw [show fitV 6 ((Nod.mt 0 1).setR 1 (mkR 2 9)) = 0 from by decide]
            refine wpF_run 3 [(109, vT), (108, vT), (107, vT)] ?_
            have hK28 := (((((hK26.ext hEw90)).ext hEw91)).ext hEw92)
            refine wpF_step (op_v (some 110) (Instr.loadAt 41 (vP w12.heap.size 0)) (vA (nodC ((Nod.mt 0 1).setR 0 (mkR 1 9)))) (rn_lda (vs := nodC ((Nod.mt 0 1).setR 0 (mkR 1 9))) (hK28.all) (by rw [nodC_len]; kernel_rfl)) ?_)
            refine wpF_step (op_call (some 111) (c_Used ((Nod.mt 0 1).setR 0 (mkR 1 9)) _) ?_)
            rintro _ w93 ⟨rfl, hEw93⟩
            have hzw93 := hEw93.size
            rw [show usd ((Nod.mt 0 1).setR 0 (mkR 1 9)) 4 = 1 from by decide]
            refine wpF_run 3 [(114, vT), (113, vT), (112, vT)] ?_
            have hK29 := (((((((((((((hK25.ext hEw87)).ext hEw88)).chg hCw89 (fun hs => by have h : _ = _ := hs; omega))).ext hEw90)).ext hEw91)).ext hEw92)).ext hEw93)
            refine wpF_step (op_v (some 115) (Instr.loadAt 41 (vP w8.heap.size 0)) (vA (nodC (Nod.mt 0 1))) (rn_lda (vs := nodC (Nod.mt 0 1)) (hK29.all) (by rw [nodC_len]; kernel_rfl)) ?_)
            refine wpF_step (op_call (some 116) (c_Used (Nod.mt 0 1) _) ?_)
            rintro _ w94 ⟨rfl, hEw94⟩
            have hzw94 := hEw94.size
            rw [show usd (Nod.mt 0 1) 4 = 0 from by decide]
            refine wpF_run 3 [(119, vT), (118, vT), (117, vT)] ?_
            have hK30 := (((((((((((((((((((((((((((((((((((((((((((hg0.ext hEl)).ext hEw8)).ext hEw9)).chg hCw10 (fun hs => by have h : _ = _ := hs; omega))).ext hEw11)).ext hX9)).ext hEw76)).ext hX10)).ext hEw81)).ext hEw82)).chg hCw83 (fun hs => by have h : _ = _ := hs; omega))).ext hEw84)).ext hEw85)).chg hCw86 (fun hs => by have h : _ = _ := hs; omega))).ext hEw87)).ext hEw88)).chg hCw89 (fun hs => by have h : _ = _ := hs; omega))).ext hEw90)).ext hEw91)).ext hEw92)).ext hEw93)).ext hEw94)
            refine wpF_step (op_call (some 120) (c_lives13 _ hK30) ?_)
            rintro _ w95 ⟨rfl, hEw95⟩
            have hzw95 := hEw95.size
            refine wpF_run 2 [(0, vT), (121, vT)] (wpF_end (then_code (wpC_ret (body_rets vT ?_))))
            have hX11 : Ext w w95 := (((((((Ext.own (((Ext.own (((Ext.own (((((((Ext.own ((hEl.trans hEw8).trans hEw9) hCw10 (by omega)).trans hEw11).trans hX9).trans hEw76).trans hX10).trans hEw81).trans hEw82) hCw83 (by omega)).trans hEw84).trans hEw85) hCw86 (by omega)).trans hEw87).trans hEw88) hCw89 (by omega)).trans hEw90).trans hEw91).trans hEw92).trans hEw93).trans hEw94).trans hEw95)
            exact ⟨rfl, hX11⟩
          · refine op_new (some 6) (Instr.alloc 41 true (.tuple #[])) (vP w77.heap.size 0) (nodC Nod.zero) 41 ?_
            intro w96 hBw96 hEw96
            have hzw96 := hEw96.size; have hlw96 := hBw96.lt
            refine ⟨.inr (hEw77.trans hEw96), ?_⟩
            refine anyM_one 2 71 (op_call (some 54) (c_WithRecord (Nod.mt 0 1) 1 (mkR 2 9) _ (by decide) (by decide)) ?_)
            rintro _ w97 ⟨rfl, hEw97⟩
            have hzw97 := hEw97.size
            refine ⟨.inr ((hEw77.trans hEw96).trans hEw97), ?_⟩
            refine anyM_run (hw := show Ext w76 w97 from ((hEw77.trans hEw96).trans hEw97)) hT550 [(3, 51, (.tuple #[(vA (nodC ((Nod.mt 0 1).setR 1 (mkR 2 9)))), (vI 0)])), (4, 55, (vA (nodC ((Nod.mt 0 1).setR 1 (mkR 2 9))))), (5, 56, (vI 0))] 3 127 (anyM_one 7 255 (op_store 41 w77.heap.size 0 41 (vA (nodC ((Nod.mt 0 1).setR 1 (mkR 2 9)))) (nodC Nod.zero) (nodC ((Nod.mt 0 1).setR 1 (mkR 2 9))) (hBw96.ext hEw97) (by rw [nodC_len]; kernel_rfl) (by first | (simp; done) | (simp; omega)) (nodC_one _) ?_))
            intro w98 hBw98 hCw98
            have hzw98 := hCw98.size
            rw [setFrom_all _ _ (by simp)] at hBw98
            have hX12 : Ext w76 w98 := (Ext.own ((hEw77.trans hEw96).trans hEw97) hCw98 (by omega))
            refine ⟨.inr hX12, ?_⟩
            refine anyM_run (hw := show Ext w76 w98 from hX12) hT550 [(8, 7, (vI 0))] 1 511 (anyM_done (then_code (wpC_seq (wpC_region (wpF_step (op_v (some 58) (Instr.loadAt 41 (vP w8.heap.size 0)) (vA (nodC (Nod.mt 0 1))) (rn_lda (vs := nodC (Nod.mt 0 1)) ((hK23.ext hX12).all) (by rw [nodC_len]; kernel_rfl)) ?_))))))
            refine wpF_run 1 [(59, (vA (recC ⟨3, Non.zero, Dig.zero, by decide⟩)))] (wpF_step (op_call (some 60) (c_WithRecordBad (Nod.mt 0 1) ((1 : Nat) : Int) (⟨3, Non.zero, Dig.zero, by decide⟩) _ (by decide)) ?_))
            rintro _ w99 ⟨rfl, hEw99⟩
            have hzw99 := hEw99.size
            refine wpF_run 3 [(62, (vI 1)), (61, (vA (nodC Nod.zero))), (57, (.tuple #[(vA (nodC Nod.zero)), (vI 1)]))] (wpF_step (op_new (some 8) (Instr.alloc 41 true (.tuple #[])) (vP w99.heap.size 0) (nodC Nod.zero) 41 ?_))
            intro w100 hBw100 hEw100
            have hzw100 := hEw100.size; have hlw100 := hBw100.lt
            refine wpF_step (op_store 41 w99.heap.size 0 41 (vA (nodC Nod.zero)) (nodC Nod.zero) (nodC Nod.zero) hBw100 (by rw [nodC_len]; kernel_rfl) (by first | (simp; done) | (simp; omega)) (nodC_one _) ?_)
            intro w101 hBw101 hCw101
            have hzw101 := hCw101.size
            rw [setFrom_all _ _ (by simp)] at hBw101
            refine wpF_run 1 [(9, (vI 1))] (wpF_end (then_code (wpC_seq (wpC_region ?_))))
            have hK31 := (((((((hK23.ext hX12)).ext hEw99)).ext hEw100)).chg hCw101 (fun hs => by have h : _ = _ := hs; omega))
            refine wpF_step (op_v (some 64) (Instr.loadAt 41 (vP w8.heap.size 0)) (vA (nodC (Nod.mt 0 1))) (rn_lda (vs := nodC (Nod.mt 0 1)) (hK31.all) (by rw [nodC_len]; kernel_rfl)) ?_)
            refine wpF_run 2 [(66, (vA (recC ⟨0, ⟨0, 1, by decide, by decide⟩, Dig.zero, by decide⟩))), (65, (vA (nonC ⟨0, 1, by decide, by decide⟩)))] (wpF_step (op_call (some 67) (c_WithRecordBad (Nod.mt 0 1) ((1 : Nat) : Int) (⟨0, ⟨0, 1, by decide, by decide⟩, Dig.zero, by decide⟩) _ (by decide)) ?_))
            rintro _ w102 ⟨rfl, hEw102⟩
            have hzw102 := hEw102.size
            refine wpF_run 3 [(69, (vI 1)), (68, (vA (nodC Nod.zero))), (63, (.tuple #[(vA (nodC Nod.zero)), (vI 1)]))] (wpF_step (op_new (some 10) (Instr.alloc 41 true (.tuple #[])) (vP w102.heap.size 0) (nodC Nod.zero) 41 ?_))
            intro w103 hBw103 hEw103
            have hzw103 := hEw103.size; have hlw103 := hBw103.lt
            refine wpF_step (op_store 41 w102.heap.size 0 41 (vA (nodC Nod.zero)) (nodC Nod.zero) (nodC Nod.zero) hBw103 (by rw [nodC_len]; kernel_rfl) (by first | (simp; done) | (simp; omega)) (nodC_one _) ?_)
            intro w104 hBw104 hCw104
            have hzw104 := hCw104.size
            rw [setFrom_all _ _ (by simp)] at hBw104
            refine wpF_run 1 [(11, (vI 1))] (wpF_end (then_code (wpC_seq (wpC_region ?_))))
            have hK32 := (((((hK31.ext hEw102)).ext hEw103)).chg hCw104 (fun hs => by have h : _ = _ := hs; omega))
            refine wpF_step (op_v (some 71) (Instr.loadAt 41 (vP w8.heap.size 0)) (vA (nodC (Nod.mt 0 1))) (rn_lda (vs := nodC (Nod.mt 0 1)) (hK32.all) (by rw [nodC_len]; kernel_rfl)) ?_)
            refine wpF_run 1 [(72, (vA (recC Rec.zero)))] (wpF_step (op_call (some 73) (c_WithRecordBad (Nod.mt 0 1) ((4 : Nat) : Int) Rec.zero _ (by decide)) ?_))
            rintro _ w105 ⟨rfl, hEw105⟩
            have hzw105 := hEw105.size
            refine wpF_run 3 [(75, (vI 1)), (74, (vA (nodC Nod.zero))), (70, (.tuple #[(vA (nodC Nod.zero)), (vI 1)]))] (wpF_step (op_new (some 12) (Instr.alloc 41 true (.tuple #[])) (vP w105.heap.size 0) (nodC Nod.zero) 41 ?_))
            intro w106 hBw106 hEw106
            have hzw106 := hEw106.size; have hlw106 := hBw106.lt
            refine wpF_step (op_store 41 w105.heap.size 0 41 (vA (nodC Nod.zero)) (nodC Nod.zero) (nodC Nod.zero) hBw106 (by rw [nodC_len]; kernel_rfl) (by first | (simp; done) | (simp; omega)) (nodC_one _) ?_)
            intro w107 hBw107 hCw107
            have hzw107 := hCw107.size
            rw [setFrom_all _ _ (by simp)] at hBw107
            refine wpF_run 1 [(13, (vI 1))] (wpF_end (then_code (wpC_seq (wpC_region (wpF_run 19 [(94, vT), (93, vT), (92, vT), (91, (vI 1)), (90, vT), (89, vT), (88, vT), (87, (vI 1)), (86, vT), (85, vT), (84, vT), (83, (vI 1)), (82, vT), (81, vT), (80, vT), (79, (vI 0)), (78, vT), (77, vT), (76, (vI 0))] ?_)))))
            have hK33 := (((((((((((((((((((((hBw75.ext hEw76)).ext hX12)).ext hEw99)).ext hEw100)).chg hCw101 (fun hs => by have h : _ = _ := hs; omega))).ext hEw102)).ext hEw103)).chg hCw104 (fun hs => by have h : _ = _ := hs; omega))).ext hEw105)).ext hEw106)).chg hCw107 (fun hs => by have h : _ = _ := hs; omega))
            refine wpF_step (op_v (some 95) (Instr.loadAt 41 (vP w12.heap.size 0)) (vA (nodC ((Nod.mt 0 1).setR 0 (mkR 1 9)))) (rn_lda (vs := nodC ((Nod.mt 0 1).setR 0 (mkR 1 9))) (hK33.all) (by rw [nodC_len]; kernel_rfl)) ?_)
            refine wpF_step (op_call (some 96) (c_NFits 5 ((Nod.mt 0 1).setR 0 (mkR 1 9)) _ (by first | omega | decide) (by first | omega | decide)) ?_)
            rintro _ w108 ⟨rfl, hEw108⟩
            have hzw108 := hEw108.size
            rw [show fitV 5 ((Nod.mt 0 1).setR 0 (mkR 1 9)) = 0 from by decide]
            refine wpF_run 3 [(99, vT), (98, vT), (97, vT)] ?_
            have hK34 := (((((((((((((((((((hBw98.ext hEw99)).ext hEw100)).chg hCw101 (fun hs => by have h : _ = _ := hs; omega))).ext hEw102)).ext hEw103)).chg hCw104 (fun hs => by have h : _ = _ := hs; omega))).ext hEw105)).ext hEw106)).chg hCw107 (fun hs => by have h : _ = _ := hs; omega))).ext hEw108)
            refine wpF_step (op_v (some 100) (Instr.loadAt 41 (vP w77.heap.size 0)) (vA (nodC ((Nod.mt 0 1).setR 1 (mkR 2 9)))) (rn_lda (vs := nodC ((Nod.mt 0 1).setR 1 (mkR 2 9))) (hK34.all) (by rw [nodC_len]; kernel_rfl)) ?_)
            refine wpF_step (op_call (some 101) (c_NFits 5 ((Nod.mt 0 1).setR 1 (mkR 2 9)) _ (by first | omega | decide) (by first | omega | decide)) ?_)
            rintro _ w109 ⟨rfl, hEw109⟩
            have hzw109 := hEw109.size
            rw [show fitV 5 ((Nod.mt 0 1).setR 1 (mkR 2 9)) = 17 from by decide]
            refine wpF_run 3 [(104, vT), (103, vT), (102, vT)] (wpF_step (op_v (some 105) (Instr.loadAt 41 (vP w77.heap.size 0)) (vA (nodC ((Nod.mt 0 1).setR 1 (mkR 2 9)))) (rn_lda (vs := nodC ((Nod.mt 0 1).setR 1 (mkR 2 9))) ((hK34.ext hEw109).all) (by rw [nodC_len]; kernel_rfl)) ?_))
            refine wpF_step (op_call (some 106) (c_NFits 6 ((Nod.mt 0 1).setR 1 (mkR 2 9)) _ (by first | omega | decide) (by first | omega | decide)) ?_)
            rintro _ w110 ⟨rfl, hEw110⟩
            have hzw110 := hEw110.size
            rw [show fitV 6 ((Nod.mt 0 1).setR 1 (mkR 2 9)) = 0 from by decide]
            refine wpF_run 3 [(109, vT), (108, vT), (107, vT)] ?_
            have hK35 := (((((hK33.ext hEw108)).ext hEw109)).ext hEw110)
            refine wpF_step (op_v (some 110) (Instr.loadAt 41 (vP w12.heap.size 0)) (vA (nodC ((Nod.mt 0 1).setR 0 (mkR 1 9)))) (rn_lda (vs := nodC ((Nod.mt 0 1).setR 0 (mkR 1 9))) (hK35.all) (by rw [nodC_len]; kernel_rfl)) ?_)
            refine wpF_step (op_call (some 111) (c_Used ((Nod.mt 0 1).setR 0 (mkR 1 9)) _) ?_)
            rintro _ w111 ⟨rfl, hEw111⟩
            have hzw111 := hEw111.size
            rw [show usd ((Nod.mt 0 1).setR 0 (mkR 1 9)) 4 = 1 from by decide]
            refine wpF_run 3 [(114, vT), (113, vT), (112, vT)] ?_
            have hK36 := (((((((((((((hK32.ext hEw105)).ext hEw106)).chg hCw107 (fun hs => by have h : _ = _ := hs; omega))).ext hEw108)).ext hEw109)).ext hEw110)).ext hEw111)
            refine wpF_step (op_v (some 115) (Instr.loadAt 41 (vP w8.heap.size 0)) (vA (nodC (Nod.mt 0 1))) (rn_lda (vs := nodC (Nod.mt 0 1)) (hK36.all) (by rw [nodC_len]; kernel_rfl)) ?_)
            refine wpF_step (op_call (some 116) (c_Used (Nod.mt 0 1) _) ?_)
            rintro _ w112 ⟨rfl, hEw112⟩
            have hzw112 := hEw112.size
            rw [show usd (Nod.mt 0 1) 4 = 0 from by decide]
            refine wpF_run 3 [(119, vT), (118, vT), (117, vT)] ?_
            have hK37 := (((((((((((((((((((((((((((((((((((((((((((hg0.ext hEl)).ext hEw8)).ext hEw9)).chg hCw10 (fun hs => by have h : _ = _ := hs; omega))).ext hEw11)).ext hX9)).ext hEw76)).ext hX12)).ext hEw99)).ext hEw100)).chg hCw101 (fun hs => by have h : _ = _ := hs; omega))).ext hEw102)).ext hEw103)).chg hCw104 (fun hs => by have h : _ = _ := hs; omega))).ext hEw105)).ext hEw106)).chg hCw107 (fun hs => by have h : _ = _ := hs; omega))).ext hEw108)).ext hEw109)).ext hEw110)).ext hEw111)).ext hEw112)
            refine wpF_step (op_call (some 120) (c_lives13 _ hK37) ?_)
            rintro _ w113 ⟨rfl, hEw113⟩
            have hzw113 := hEw113.size
            refine wpF_run 2 [(0, vT), (121, vT)] (wpF_end (then_code (wpC_ret (body_rets vT ?_))))
            have hX13 : Ext w w113 := (((((((Ext.own (((Ext.own (((Ext.own (((((((Ext.own ((hEl.trans hEw8).trans hEw9) hCw10 (by omega)).trans hEw11).trans hX9).trans hEw76).trans hX12).trans hEw99).trans hEw100) hCw101 (by omega)).trans hEw102).trans hEw103) hCw104 (by omega)).trans hEw105).trans hEw106) hCw107 (by omega)).trans hEw108).trans hEw109).trans hEw110).trans hEw111).trans hEw112).trans hEw113)
            exact ⟨rfl, hX13⟩
        · refine op_new (some 6) (Instr.alloc 41 true (.tuple #[])) (vP w76.heap.size 0) (nodC Nod.zero) 41 ?_
          intro w114 hBw114 hEw114
          have hzw114 := hEw114.size; have hlw114 := hBw114.lt
          refine ⟨.inr hEw114, ?_⟩
          refine anyM_one 1 67 (op_call (some 53) (c_mkR 2 9 _ (by first | omega | decide) (by first | omega | decide)) ?_)
          rintro _ w115 ⟨rfl, hEw115⟩
          have hzw115 := hEw115.size
          refine ⟨.inr (hEw114.trans hEw115), ?_⟩
          refine anyM_one 2 71 (op_call (some 54) (c_WithRecord (Nod.mt 0 1) 1 (mkR 2 9) _ (by decide) (by decide)) ?_)
          rintro _ w116 ⟨rfl, hEw116⟩
          have hzw116 := hEw116.size
          refine ⟨.inr ((hEw114.trans hEw115).trans hEw116), ?_⟩
          refine anyM_run (hw := show Ext w76 w116 from ((hEw114.trans hEw115).trans hEw116)) hT550 [(3, 51, (.tuple #[(vA (nodC ((Nod.mt 0 1).setR 1 (mkR 2 9)))), (vI 0)])), (4, 55, (vA (nodC ((Nod.mt 0 1).setR 1 (mkR 2 9))))), (5, 56, (vI 0))] 3 127 (anyM_one 7 255 (op_store 41 w76.heap.size 0 41 (vA (nodC ((Nod.mt 0 1).setR 1 (mkR 2 9)))) (nodC Nod.zero) (nodC ((Nod.mt 0 1).setR 1 (mkR 2 9))) (((hBw114.ext hEw115)).ext hEw116) (by rw [nodC_len]; kernel_rfl) (by first | (simp; done) | (simp; omega)) (nodC_one _) ?_))
          intro w117 hBw117 hCw117
          have hzw117 := hCw117.size
          rw [setFrom_all _ _ (by simp)] at hBw117
          have hX14 : Ext w76 w117 := (Ext.own ((hEw114.trans hEw115).trans hEw116) hCw117 (by omega))
          refine ⟨.inr hX14, ?_⟩
          refine anyM_run (hw := show Ext w76 w117 from hX14) hT550 [(8, 7, (vI 0))] 1 511 (anyM_done (then_code (wpC_seq (wpC_region (wpF_step (op_v (some 58) (Instr.loadAt 41 (vP w8.heap.size 0)) (vA (nodC (Nod.mt 0 1))) (rn_lda (vs := nodC (Nod.mt 0 1)) ((hK23.ext hX14).all) (by rw [nodC_len]; kernel_rfl)) ?_))))))
          refine wpF_run 1 [(59, (vA (recC ⟨3, Non.zero, Dig.zero, by decide⟩)))] (wpF_step (op_call (some 60) (c_WithRecordBad (Nod.mt 0 1) ((1 : Nat) : Int) (⟨3, Non.zero, Dig.zero, by decide⟩) _ (by decide)) ?_))
          rintro _ w118 ⟨rfl, hEw118⟩
          have hzw118 := hEw118.size
          refine wpF_run 3 [(62, (vI 1)), (61, (vA (nodC Nod.zero))), (57, (.tuple #[(vA (nodC Nod.zero)), (vI 1)]))] (wpF_step (op_new (some 8) (Instr.alloc 41 true (.tuple #[])) (vP w118.heap.size 0) (nodC Nod.zero) 41 ?_))
          intro w119 hBw119 hEw119
          have hzw119 := hEw119.size; have hlw119 := hBw119.lt
          refine wpF_step (op_store 41 w118.heap.size 0 41 (vA (nodC Nod.zero)) (nodC Nod.zero) (nodC Nod.zero) hBw119 (by rw [nodC_len]; kernel_rfl) (by first | (simp; done) | (simp; omega)) (nodC_one _) ?_)
          intro w120 hBw120 hCw120
          have hzw120 := hCw120.size
          rw [setFrom_all _ _ (by simp)] at hBw120
          refine wpF_run 1 [(9, (vI 1))] (wpF_end (then_code (wpC_seq (wpC_region ?_))))
          have hK38 := (((((((hK23.ext hX14)).ext hEw118)).ext hEw119)).chg hCw120 (fun hs => by have h : _ = _ := hs; omega))
          refine wpF_step (op_v (some 64) (Instr.loadAt 41 (vP w8.heap.size 0)) (vA (nodC (Nod.mt 0 1))) (rn_lda (vs := nodC (Nod.mt 0 1)) (hK38.all) (by rw [nodC_len]; kernel_rfl)) ?_)
          refine wpF_run 2 [(66, (vA (recC ⟨0, ⟨0, 1, by decide, by decide⟩, Dig.zero, by decide⟩))), (65, (vA (nonC ⟨0, 1, by decide, by decide⟩)))] (wpF_step (op_call (some 67) (c_WithRecordBad (Nod.mt 0 1) ((1 : Nat) : Int) (⟨0, ⟨0, 1, by decide, by decide⟩, Dig.zero, by decide⟩) _ (by decide)) ?_))
          rintro _ w121 ⟨rfl, hEw121⟩
          have hzw121 := hEw121.size
          refine wpF_run 3 [(69, (vI 1)), (68, (vA (nodC Nod.zero))), (63, (.tuple #[(vA (nodC Nod.zero)), (vI 1)]))] (wpF_step (op_new (some 10) (Instr.alloc 41 true (.tuple #[])) (vP w121.heap.size 0) (nodC Nod.zero) 41 ?_))
          intro w122 hBw122 hEw122
          have hzw122 := hEw122.size; have hlw122 := hBw122.lt
          refine wpF_step (op_store 41 w121.heap.size 0 41 (vA (nodC Nod.zero)) (nodC Nod.zero) (nodC Nod.zero) hBw122 (by rw [nodC_len]; kernel_rfl) (by first | (simp; done) | (simp; omega)) (nodC_one _) ?_)
          intro w123 hBw123 hCw123
          have hzw123 := hCw123.size
          rw [setFrom_all _ _ (by simp)] at hBw123
          refine wpF_run 1 [(11, (vI 1))] (wpF_end (then_code (wpC_seq (wpC_region ?_))))
          have hK39 := (((((hK38.ext hEw121)).ext hEw122)).chg hCw123 (fun hs => by have h : _ = _ := hs; omega))
          refine wpF_step (op_v (some 71) (Instr.loadAt 41 (vP w8.heap.size 0)) (vA (nodC (Nod.mt 0 1))) (rn_lda (vs := nodC (Nod.mt 0 1)) (hK39.all) (by rw [nodC_len]; kernel_rfl)) ?_)
          refine wpF_run 1 [(72, (vA (recC Rec.zero)))] (wpF_step (op_call (some 73) (c_WithRecordBad (Nod.mt 0 1) ((4 : Nat) : Int) Rec.zero _ (by decide)) ?_))
          rintro _ w124 ⟨rfl, hEw124⟩
          have hzw124 := hEw124.size
          refine wpF_run 3 [(75, (vI 1)), (74, (vA (nodC Nod.zero))), (70, (.tuple #[(vA (nodC Nod.zero)), (vI 1)]))] (wpF_step (op_new (some 12) (Instr.alloc 41 true (.tuple #[])) (vP w124.heap.size 0) (nodC Nod.zero) 41 ?_))
          intro w125 hBw125 hEw125
          have hzw125 := hEw125.size; have hlw125 := hBw125.lt
          refine wpF_step (op_store 41 w124.heap.size 0 41 (vA (nodC Nod.zero)) (nodC Nod.zero) (nodC Nod.zero) hBw125 (by rw [nodC_len]; kernel_rfl) (by first | (simp; done) | (simp; omega)) (nodC_one _) ?_)
          intro w126 hBw126 hCw126
          have hzw126 := hCw126.size
          rw [setFrom_all _ _ (by simp)] at hBw126
          refine wpF_run 1 [(13, (vI 1))] (wpF_end (then_code (wpC_seq (wpC_region (wpF_run 19 [(94, vT), (93, vT), (92, vT), (91, (vI 1)), (90, vT), (89, vT), (88, vT), (87, (vI 1)), (86, vT), (85, vT), (84, vT), (83, (vI 1)), (82, vT), (81, vT), (80, vT), (79, (vI 0)), (78, vT), (77, vT), (76, (vI 0))] ?_)))))
          have hK40 := (((((((((((((((((((((hBw75.ext hEw76)).ext hX14)).ext hEw118)).ext hEw119)).chg hCw120 (fun hs => by have h : _ = _ := hs; omega))).ext hEw121)).ext hEw122)).chg hCw123 (fun hs => by have h : _ = _ := hs; omega))).ext hEw124)).ext hEw125)).chg hCw126 (fun hs => by have h : _ = _ := hs; omega))
          refine wpF_step (op_v (some 95) (Instr.loadAt 41 (vP w12.heap.size 0)) (vA (nodC ((Nod.mt 0 1).setR 0 (mkR 1 9)))) (rn_lda (vs := nodC ((Nod.mt 0 1).setR 0 (mkR 1 9))) (hK40.all) (by rw [nodC_len]; kernel_rfl)) ?_)
          refine wpF_step (op_call (some 96) (c_NFits 5 ((Nod.mt 0 1).setR 0 (mkR 1 9)) _ (by first | omega | decide) (by first | omega | decide)) ?_)
          rintro _ w127 ⟨rfl, hEw127⟩
          have hzw127 := hEw127.size
          rw [show fitV 5 ((Nod.mt 0 1).setR 0 (mkR 1 9)) = 0 from by decide]
          refine wpF_run 3 [(99, vT), (98, vT), (97, vT)] ?_
          have hK41 := (((((((((((((((((((hBw117.ext hEw118)).ext hEw119)).chg hCw120 (fun hs => by have h : _ = _ := hs; omega))).ext hEw121)).ext hEw122)).chg hCw123 (fun hs => by have h : _ = _ := hs; omega))).ext hEw124)).ext hEw125)).chg hCw126 (fun hs => by have h : _ = _ := hs; omega))).ext hEw127)
          refine wpF_step (op_v (some 100) (Instr.loadAt 41 (vP w76.heap.size 0)) (vA (nodC ((Nod.mt 0 1).setR 1 (mkR 2 9)))) (rn_lda (vs := nodC ((Nod.mt 0 1).setR 1 (mkR 2 9))) (hK41.all) (by rw [nodC_len]; kernel_rfl)) ?_)
          refine wpF_step (op_call (some 101) (c_NFits 5 ((Nod.mt 0 1).setR 1 (mkR 2 9)) _ (by first | omega | decide) (by first | omega | decide)) ?_)
          rintro _ w128 ⟨rfl, hEw128⟩
          have hzw128 := hEw128.size
          rw [show fitV 5 ((Nod.mt 0 1).setR 1 (mkR 2 9)) = 17 from by decide]
          refine wpF_run 3 [(104, vT), (103, vT), (102, vT)] (wpF_step (op_v (some 105) (Instr.loadAt 41 (vP w76.heap.size 0)) (vA (nodC ((Nod.mt 0 1).setR 1 (mkR 2 9)))) (rn_lda (vs := nodC ((Nod.mt 0 1).setR 1 (mkR 2 9))) ((hK41.ext hEw128).all) (by rw [nodC_len]; kernel_rfl)) ?_))
          refine wpF_step (op_call (some 106) (c_NFits 6 ((Nod.mt 0 1).setR 1 (mkR 2 9)) _ (by first | omega | decide) (by first | omega | decide)) ?_)
          rintro _ w129 ⟨rfl, hEw129⟩
          have hzw129 := hEw129.size
          rw [show fitV 6 ((Nod.mt 0 1).setR 1 (mkR 2 9)) = 0 from by decide]
          refine wpF_run 3 [(109, vT), (108, vT), (107, vT)] ?_
          have hK42 := (((((hK40.ext hEw127)).ext hEw128)).ext hEw129)
          refine wpF_step (op_v (some 110) (Instr.loadAt 41 (vP w12.heap.size 0)) (vA (nodC ((Nod.mt 0 1).setR 0 (mkR 1 9)))) (rn_lda (vs := nodC ((Nod.mt 0 1).setR 0 (mkR 1 9))) (hK42.all) (by rw [nodC_len]; kernel_rfl)) ?_)
          refine wpF_step (op_call (some 111) (c_Used ((Nod.mt 0 1).setR 0 (mkR 1 9)) _) ?_)
          rintro _ w130 ⟨rfl, hEw130⟩
          have hzw130 := hEw130.size
          rw [show usd ((Nod.mt 0 1).setR 0 (mkR 1 9)) 4 = 1 from by decide]
          refine wpF_run 3 [(114, vT), (113, vT), (112, vT)] ?_
          have hK43 := (((((((((((((hK39.ext hEw124)).ext hEw125)).chg hCw126 (fun hs => by have h : _ = _ := hs; omega))).ext hEw127)).ext hEw128)).ext hEw129)).ext hEw130)
          refine wpF_step (op_v (some 115) (Instr.loadAt 41 (vP w8.heap.size 0)) (vA (nodC (Nod.mt 0 1))) (rn_lda (vs := nodC (Nod.mt 0 1)) (hK43.all) (by rw [nodC_len]; kernel_rfl)) ?_)
          refine wpF_step (op_call (some 116) (c_Used (Nod.mt 0 1) _) ?_)
          rintro _ w131 ⟨rfl, hEw131⟩
          have hzw131 := hEw131.size
          rw [show usd (Nod.mt 0 1) 4 = 0 from by decide]
          refine wpF_run 3 [(119, vT), (118, vT), (117, vT)] ?_
          have hK44 := (((((((((((((((((((((((((((((((((((((((((((hg0.ext hEl)).ext hEw8)).ext hEw9)).chg hCw10 (fun hs => by have h : _ = _ := hs; omega))).ext hEw11)).ext hX9)).ext hEw76)).ext hX14)).ext hEw118)).ext hEw119)).chg hCw120 (fun hs => by have h : _ = _ := hs; omega))).ext hEw121)).ext hEw122)).chg hCw123 (fun hs => by have h : _ = _ := hs; omega))).ext hEw124)).ext hEw125)).chg hCw126 (fun hs => by have h : _ = _ := hs; omega))).ext hEw127)).ext hEw128)).ext hEw129)).ext hEw130)).ext hEw131)
          refine wpF_step (op_call (some 120) (c_lives13 _ hK44) ?_)
          rintro _ w132 ⟨rfl, hEw132⟩
          have hzw132 := hEw132.size
          refine wpF_run 2 [(0, vT), (121, vT)] (wpF_end (then_code (wpC_ret (body_rets vT ?_))))
          have hX15 : Ext w w132 := (((((((Ext.own (((Ext.own (((Ext.own (((((((Ext.own ((hEl.trans hEw8).trans hEw9) hCw10 (by omega)).trans hEw11).trans hX9).trans hEw76).trans hX14).trans hEw118).trans hEw119) hCw120 (by omega)).trans hEw121).trans hEw122) hCw123 (by omega)).trans hEw124).trans hEw125) hCw126 (by omega)).trans hEw127).trans hEw128).trans hEw129).trans hEw130).trans hEw131).trans hEw132)
          exact ⟨rfl, hX15⟩
    · refine op_new (some 4) (Instr.alloc 41 true (.tuple #[])) (vP w11.heap.size 0) (nodC Nod.zero) 41 ?_
      intro w133 hBw133 hEw133
      have hzw133 := hEw133.size; have hlw133 := hBw133.lt
      refine ⟨.inr hEw133, ?_⟩
      refine anyM_one 1 67 (op_call (some 47) (c_mkR 1 9 _ (by first | omega | decide) (by first | omega | decide)) ?_)
      rintro _ w134 ⟨rfl, hEw134⟩
      have hzw134 := hEw134.size
      refine ⟨.inr (hEw133.trans hEw134), ?_⟩
      refine anyM_one 2 71 (op_call (some 48) (c_WithRecord (Nod.mt 0 1) 0 (mkR 1 9) _ (by decide) (by decide)) ?_)
      rintro _ w135 ⟨rfl, hEw135⟩
      have hzw135 := hEw135.size
      refine ⟨.inr ((hEw133.trans hEw134).trans hEw135), ?_⟩
      refine anyM_run (hw := show Ext w11 w135 from ((hEw133.trans hEw134).trans hEw135)) hT119 [(3, 45, (.tuple #[(vA (nodC ((Nod.mt 0 1).setR 0 (mkR 1 9)))), (vI 0)])), (4, 49, (vA (nodC ((Nod.mt 0 1).setR 0 (mkR 1 9))))), (5, 50, (vI 0))] 3 127 (anyM_one 7 255 (op_store 41 w11.heap.size 0 41 (vA (nodC ((Nod.mt 0 1).setR 0 (mkR 1 9)))) (nodC Nod.zero) (nodC ((Nod.mt 0 1).setR 0 (mkR 1 9))) (((hBw133.ext hEw134)).ext hEw135) (by rw [nodC_len]; kernel_rfl) (by first | (simp; done) | (simp; omega)) (nodC_one _) ?_))
      intro w136 hBw136 hCw136
      have hzw136 := hCw136.size
      rw [setFrom_all _ _ (by simp)] at hBw136
      have hX16 : Ext w11 w136 := (Ext.own ((hEw133.trans hEw134).trans hEw135) hCw136 (by omega))
      refine ⟨.inr hX16, ?_⟩
      refine anyM_run (hw := show Ext w11 w136 from hX16) hT119 [(8, 5, (vI 0))] 1 511 (anyM_done (then_code (wpC_seq (wpC_drawM (Ext w136.drew) 9 [(53, 8, 0), (54, 0, 0), (55, 13510798882111488, 3), (52, 18014398509481984, 4), (56, 2251799813685248, 8), (57, 2251799813685248, 8), (7, 0, 0), (0, 36028797018964032, 95), (8, 72057594037927936, 255)] (fun hT955 => ?_)))))
      have hEw137 : Ext w136 w136.drew := Ext.drew w136
      generalize w136.drew = w137 at hEw137 ⊢
      have hzw137 := hEw137.size
      have hK45 := (((((hBw10.ext hEw11)).ext hX16)).ext hEw137)
      refine anyM_take hT955 0 1 (some 52) (vA (nodC (Nod.mt 0 1))) (yld_val (Instr.loadAt 41 (vP w8.heap.size 0)) (fun w' hC => rn_lda (vs := nodC (Nod.mt 0 1)) ((hK45.ext hC).all) (by rw [nodC_len]; kernel_rfl))) (anyM_two 1 6 3 65 ?_ ?_)
      · refine op_call (some 53) (c_mkR 2 9 _ (by first | omega | decide) (by first | omega | decide)) ?_
        rintro _ w138 ⟨rfl, hEw138⟩
        have hzw138 := hEw138.size
        refine ⟨.inr hEw138, ?_⟩
        refine anyM_two 2 6 7 67 ?_ ?_
        · refine op_call (some 54) (c_WithRecord (Nod.mt 0 1) 1 (mkR 2 9) _ (by decide) (by decide)) ?_
          rintro _ w139 ⟨rfl, hEw139⟩
          have hzw139 := hEw139.size
          refine ⟨.inr (hEw138.trans hEw139), ?_⟩
          refine anyM_run (hw := show Ext w137 w139 from (hEw138.trans hEw139)) hT955 [(3, 51, (.tuple #[(vA (nodC ((Nod.mt 0 1).setR 1 (mkR 2 9)))), (vI 0)])), (4, 55, (vA (nodC ((Nod.mt 0 1).setR 1 (mkR 2 9))))), (5, 56, (vI 0))] 3 63 (anyM_one 6 127 (op_new (some 6) (Instr.alloc 41 true (.tuple #[])) (vP w139.heap.size 0) (nodC Nod.zero) 41 ?_))
          intro w140 hBw140 hEw140
          have hzw140 := hEw140.size; have hlw140 := hBw140.lt
          refine ⟨.inr ((hEw138.trans hEw139).trans hEw140), ?_⟩
          refine anyM_one 7 255 (op_store 41 w139.heap.size 0 41 (vA (nodC ((Nod.mt 0 1).setR 1 (mkR 2 9)))) (nodC Nod.zero) (nodC ((Nod.mt 0 1).setR 1 (mkR 2 9))) hBw140 (by rw [nodC_len]; kernel_rfl) (by first | (simp; done) | (simp; omega)) (nodC_one _) ?_)
          intro w141 hBw141 hCw141
          have hzw141 := hCw141.size
          rw [setFrom_all _ _ (by simp)] at hBw141
          have hX17 : Ext w137 w141 := (Ext.own ((hEw138.trans hEw139).trans hEw140) hCw141 (by omega))
          refine ⟨.inr hX17, ?_⟩
          refine anyM_run (hw := show Ext w137 w141 from hX17) hT955 [(8, 7, (vI 0))] 1 511 (anyM_done (then_code (wpC_seq (wpC_region (wpF_step (op_v (some 58) (Instr.loadAt 41 (vP w8.heap.size 0)) (vA (nodC (Nod.mt 0 1))) (rn_lda (vs := nodC (Nod.mt 0 1)) ((hK45.ext hX17).all) (by rw [nodC_len]; kernel_rfl)) ?_))))))
          refine wpF_run 1 [(59, (vA (recC ⟨3, Non.zero, Dig.zero, by decide⟩)))] (wpF_step (op_call (some 60) (c_WithRecordBad (Nod.mt 0 1) ((1 : Nat) : Int) (⟨3, Non.zero, Dig.zero, by decide⟩) _ (by decide)) ?_))
          rintro _ w142 ⟨rfl, hEw142⟩
          have hzw142 := hEw142.size
          refine wpF_run 3 [(62, (vI 1)), (61, (vA (nodC Nod.zero))), (57, (.tuple #[(vA (nodC Nod.zero)), (vI 1)]))] (wpF_step (op_new (some 8) (Instr.alloc 41 true (.tuple #[])) (vP w142.heap.size 0) (nodC Nod.zero) 41 ?_))
          intro w143 hBw143 hEw143
          have hzw143 := hEw143.size; have hlw143 := hBw143.lt
          refine wpF_step (op_store 41 w142.heap.size 0 41 (vA (nodC Nod.zero)) (nodC Nod.zero) (nodC Nod.zero) hBw143 (by rw [nodC_len]; kernel_rfl) (by first | (simp; done) | (simp; omega)) (nodC_one _) ?_)
          intro w144 hBw144 hCw144
          have hzw144 := hCw144.size
          rw [setFrom_all _ _ (by simp)] at hBw144
          refine wpF_run 1 [(9, (vI 1))] (wpF_end (then_code (wpC_seq (wpC_region ?_))))
          have hK46 := (((((((hK45.ext hX17)).ext hEw142)).ext hEw143)).chg hCw144 (fun hs => by have h : _ = _ := hs; omega))
          refine wpF_step (op_v (some 64) (Instr.loadAt 41 (vP w8.heap.size 0)) (vA (nodC (Nod.mt 0 1))) (rn_lda (vs := nodC (Nod.mt 0 1)) (hK46.all) (by rw [nodC_len]; kernel_rfl)) ?_)
          refine wpF_run 2 [(66, (vA (recC ⟨0, ⟨0, 1, by decide, by decide⟩, Dig.zero, by decide⟩))), (65, (vA (nonC ⟨0, 1, by decide, by decide⟩)))] (wpF_step (op_call (some 67) (c_WithRecordBad (Nod.mt 0 1) ((1 : Nat) : Int) (⟨0, ⟨0, 1, by decide, by decide⟩, Dig.zero, by decide⟩) _ (by decide)) ?_))
          rintro _ w145 ⟨rfl, hEw145⟩
          have hzw145 := hEw145.size
          refine wpF_run 3 [(69, (vI 1)), (68, (vA (nodC Nod.zero))), (63, (.tuple #[(vA (nodC Nod.zero)), (vI 1)]))] (wpF_step (op_new (some 10) (Instr.alloc 41 true (.tuple #[])) (vP w145.heap.size 0) (nodC Nod.zero) 41 ?_))
          intro w146 hBw146 hEw146
          have hzw146 := hEw146.size; have hlw146 := hBw146.lt
          refine wpF_step (op_store 41 w145.heap.size 0 41 (vA (nodC Nod.zero)) (nodC Nod.zero) (nodC Nod.zero) hBw146 (by rw [nodC_len]; kernel_rfl) (by first | (simp; done) | (simp; omega)) (nodC_one _) ?_)
          intro w147 hBw147 hCw147
          have hzw147 := hCw147.size
          rw [setFrom_all _ _ (by simp)] at hBw147
          refine wpF_run 1 [(11, (vI 1))] (wpF_end (then_code (wpC_seq (wpC_region ?_))))
          have hK47 := (((((hK46.ext hEw145)).ext hEw146)).chg hCw147 (fun hs => by have h : _ = _ := hs; omega))
          refine wpF_step (op_v (some 71) (Instr.loadAt 41 (vP w8.heap.size 0)) (vA (nodC (Nod.mt 0 1))) (rn_lda (vs := nodC (Nod.mt 0 1)) (hK47.all) (by rw [nodC_len]; kernel_rfl)) ?_)
          refine wpF_run 1 [(72, (vA (recC Rec.zero)))] (wpF_step (op_call (some 73) (c_WithRecordBad (Nod.mt 0 1) ((4 : Nat) : Int) Rec.zero _ (by decide)) ?_))
          rintro _ w148 ⟨rfl, hEw148⟩
          have hzw148 := hEw148.size
          refine wpF_run 3 [(75, (vI 1)), (74, (vA (nodC Nod.zero))), (70, (.tuple #[(vA (nodC Nod.zero)), (vI 1)]))] (wpF_step (op_new (some 12) (Instr.alloc 41 true (.tuple #[])) (vP w148.heap.size 0) (nodC Nod.zero) 41 ?_))
          intro w149 hBw149 hEw149
          have hzw149 := hEw149.size; have hlw149 := hBw149.lt
          refine wpF_step (op_store 41 w148.heap.size 0 41 (vA (nodC Nod.zero)) (nodC Nod.zero) (nodC Nod.zero) hBw149 (by rw [nodC_len]; kernel_rfl) (by first | (simp; done) | (simp; omega)) (nodC_one _) ?_)
          intro w150 hBw150 hCw150
          have hzw150 := hCw150.size
          rw [setFrom_all _ _ (by simp)] at hBw150
          refine wpF_run 1 [(13, (vI 1))] (wpF_end (then_code (wpC_seq (wpC_region (wpF_run 19 [(94, vT), (93, vT), (92, vT), (91, (vI 1)), (90, vT), (89, vT), (88, vT), (87, (vI 1)), (86, vT), (85, vT), (84, vT), (83, (vI 1)), (82, vT), (81, vT), (80, vT), (79, (vI 0)), (78, vT), (77, vT), (76, (vI 0))] ?_)))))
          have hK48 := (((((((((((((((((((((hBw136.ext hEw137)).ext hX17)).ext hEw142)).ext hEw143)).chg hCw144 (fun hs => by have h : _ = _ := hs; omega))).ext hEw145)).ext hEw146)).chg hCw147 (fun hs => by have h : _ = _ := hs; omega))).ext hEw148)).ext hEw149)).chg hCw150 (fun hs => by have h : _ = _ := hs; omega))
          refine wpF_step (op_v (some 95) (Instr.loadAt 41 (vP w11.heap.size 0)) (vA (nodC ((Nod.mt 0 1).setR 0 (mkR 1 9)))) (rn_lda (vs := nodC ((Nod.mt 0 1).setR 0 (mkR 1 9))) (hK48.all) (by rw [nodC_len]; kernel_rfl)) ?_)
          refine wpF_step (op_call (some 96) (c_NFits 5 ((Nod.mt 0 1).setR 0 (mkR 1 9)) _ (by first | omega | decide) (by first | omega | decide)) ?_)
          rintro _ w151 ⟨rfl, hEw151⟩
          have hzw151 := hEw151.size
          rw [show fitV 5 ((Nod.mt 0 1).setR 0 (mkR 1 9)) = 0 from by decide]
          refine wpF_run 3 [(99, vT), (98, vT), (97, vT)] ?_
          have hK49 := (((((((((((((((((((hBw141.ext hEw142)).ext hEw143)).chg hCw144 (fun hs => by have h : _ = _ := hs; omega))).ext hEw145)).ext hEw146)).chg hCw147 (fun hs => by have h : _ = _ := hs; omega))).ext hEw148)).ext hEw149)).chg hCw150 (fun hs => by have h : _ = _ := hs; omega))).ext hEw151)
          refine wpF_step (op_v (some 100) (Instr.loadAt 41 (vP w139.heap.size 0)) (vA (nodC ((Nod.mt 0 1).setR 1 (mkR 2 9)))) (rn_lda (vs := nodC ((Nod.mt 0 1).setR 1 (mkR 2 9))) (hK49.all) (by rw [nodC_len]; kernel_rfl)) ?_)
          refine wpF_step (op_call (some 101) (c_NFits 5 ((Nod.mt 0 1).setR 1 (mkR 2 9)) _ (by first | omega | decide) (by first | omega | decide)) ?_)
          rintro _ w152 ⟨rfl, hEw152⟩
          have hzw152 := hEw152.size
          rw [show fitV 5 ((Nod.mt 0 1).setR 1 (mkR 2 9)) = 17 from by decide]
          refine wpF_run 3 [(104, vT), (103, vT), (102, vT)] (wpF_step (op_v (some 105) (Instr.loadAt 41 (vP w139.heap.size 0)) (vA (nodC ((Nod.mt 0 1).setR 1 (mkR 2 9)))) (rn_lda (vs := nodC ((Nod.mt 0 1).setR 1 (mkR 2 9))) ((hK49.ext hEw152).all) (by rw [nodC_len]; kernel_rfl)) ?_))
          refine wpF_step (op_call (some 106) (c_NFits 6 ((Nod.mt 0 1).setR 1 (mkR 2 9)) _ (by first | omega | decide) (by first | omega | decide)) ?_)
          rintro _ w153 ⟨rfl, hEw153⟩
          have hzw153 := hEw153.size
          rw [show fitV 6 ((Nod.mt 0 1).setR 1 (mkR 2 9)) = 0 from by decide]
          refine wpF_run 3 [(109, vT), (108, vT), (107, vT)] ?_
          have hK50 := (((((hK48.ext hEw151)).ext hEw152)).ext hEw153)
          refine wpF_step (op_v (some 110) (Instr.loadAt 41 (vP w11.heap.size 0)) (vA (nodC ((Nod.mt 0 1).setR 0 (mkR 1 9)))) (rn_lda (vs := nodC ((Nod.mt 0 1).setR 0 (mkR 1 9))) (hK50.all) (by rw [nodC_len]; kernel_rfl)) ?_)
          refine wpF_step (op_call (some 111) (c_Used ((Nod.mt 0 1).setR 0 (mkR 1 9)) _) ?_)
          rintro _ w154 ⟨rfl, hEw154⟩
          have hzw154 := hEw154.size
          rw [show usd ((Nod.mt 0 1).setR 0 (mkR 1 9)) 4 = 1 from by decide]
          refine wpF_run 3 [(114, vT), (113, vT), (112, vT)] ?_
          have hK51 := (((((((((((((hK47.ext hEw148)).ext hEw149)).chg hCw150 (fun hs => by have h : _ = _ := hs; omega))).ext hEw151)).ext hEw152)).ext hEw153)).ext hEw154)
          refine wpF_step (op_v (some 115) (Instr.loadAt 41 (vP w8.heap.size 0)) (vA (nodC (Nod.mt 0 1))) (rn_lda (vs := nodC (Nod.mt 0 1)) (hK51.all) (by rw [nodC_len]; kernel_rfl)) ?_)
          refine wpF_step (op_call (some 116) (c_Used (Nod.mt 0 1) _) ?_)
          rintro _ w155 ⟨rfl, hEw155⟩
          have hzw155 := hEw155.size
          rw [show usd (Nod.mt 0 1) 4 = 0 from by decide]
          refine wpF_run 3 [(119, vT), (118, vT), (117, vT)] ?_
          have hK52 := (((((((((((((((((((((((((((((((((((((((((((hg0.ext hEl)).ext hEw8)).ext hEw9)).chg hCw10 (fun hs => by have h : _ = _ := hs; omega))).ext hEw11)).ext hX16)).ext hEw137)).ext hX17)).ext hEw142)).ext hEw143)).chg hCw144 (fun hs => by have h : _ = _ := hs; omega))).ext hEw145)).ext hEw146)).chg hCw147 (fun hs => by have h : _ = _ := hs; omega))).ext hEw148)).ext hEw149)).chg hCw150 (fun hs => by have h : _ = _ := hs; omega))).ext hEw151)).ext hEw152)).ext hEw153)).ext hEw154)).ext hEw155)
          refine wpF_step (op_call (some 120) (c_lives13 _ hK52) ?_)
          rintro _ w156 ⟨rfl, hEw156⟩
          have hzw156 := hEw156.size
          refine wpF_run 2 [(0, vT), (121, vT)] (wpF_end (then_code (wpC_ret (body_rets vT ?_))))
          have hX18 : Ext w w156 := (((((((Ext.own (((Ext.own (((Ext.own (((((((Ext.own ((hEl.trans hEw8).trans hEw9) hCw10 (by omega)).trans hEw11).trans hX16).trans hEw137).trans hX17).trans hEw142).trans hEw143) hCw144 (by omega)).trans hEw145).trans hEw146) hCw147 (by omega)).trans hEw148).trans hEw149) hCw150 (by omega)).trans hEw151).trans hEw152).trans hEw153).trans hEw154).trans hEw155).trans hEw156)
          exact ⟨rfl, hX18⟩
        · refine op_new (some 6) (Instr.alloc 41 true (.tuple #[])) (vP w138.heap.size 0) (nodC Nod.zero) 41 ?_
          intro w157 hBw157 hEw157
          have hzw157 := hEw157.size; have hlw157 := hBw157.lt
          refine ⟨.inr (hEw138.trans hEw157), ?_⟩
          refine anyM_one 2 71 (op_call (some 54) (c_WithRecord (Nod.mt 0 1) 1 (mkR 2 9) _ (by decide) (by decide)) ?_)
          rintro _ w158 ⟨rfl, hEw158⟩
          have hzw158 := hEw158.size
          refine ⟨.inr ((hEw138.trans hEw157).trans hEw158), ?_⟩
          refine anyM_run (hw := show Ext w137 w158 from ((hEw138.trans hEw157).trans hEw158)) hT955 [(3, 51, (.tuple #[(vA (nodC ((Nod.mt 0 1).setR 1 (mkR 2 9)))), (vI 0)])), (4, 55, (vA (nodC ((Nod.mt 0 1).setR 1 (mkR 2 9))))), (5, 56, (vI 0))] 3 127 (anyM_one 7 255 (op_store 41 w138.heap.size 0 41 (vA (nodC ((Nod.mt 0 1).setR 1 (mkR 2 9)))) (nodC Nod.zero) (nodC ((Nod.mt 0 1).setR 1 (mkR 2 9))) (hBw157.ext hEw158) (by rw [nodC_len]; kernel_rfl) (by first | (simp; done) | (simp; omega)) (nodC_one _) ?_))
          intro w159 hBw159 hCw159
          have hzw159 := hCw159.size
          rw [setFrom_all _ _ (by simp)] at hBw159
          have hX19 : Ext w137 w159 := (Ext.own ((hEw138.trans hEw157).trans hEw158) hCw159 (by omega))
          refine ⟨.inr hX19, ?_⟩
          refine anyM_run (hw := show Ext w137 w159 from hX19) hT955 [(8, 7, (vI 0))] 1 511 (anyM_done (then_code (wpC_seq (wpC_region (wpF_step (op_v (some 58) (Instr.loadAt 41 (vP w8.heap.size 0)) (vA (nodC (Nod.mt 0 1))) (rn_lda (vs := nodC (Nod.mt 0 1)) ((hK45.ext hX19).all) (by rw [nodC_len]; kernel_rfl)) ?_))))))
          refine wpF_run 1 [(59, (vA (recC ⟨3, Non.zero, Dig.zero, by decide⟩)))] (wpF_step (op_call (some 60) (c_WithRecordBad (Nod.mt 0 1) ((1 : Nat) : Int) (⟨3, Non.zero, Dig.zero, by decide⟩) _ (by decide)) ?_))
          rintro _ w160 ⟨rfl, hEw160⟩
          have hzw160 := hEw160.size
          refine wpF_run 3 [(62, (vI 1)), (61, (vA (nodC Nod.zero))), (57, (.tuple #[(vA (nodC Nod.zero)), (vI 1)]))] (wpF_step (op_new (some 8) (Instr.alloc 41 true (.tuple #[])) (vP w160.heap.size 0) (nodC Nod.zero) 41 ?_))
          intro w161 hBw161 hEw161
          have hzw161 := hEw161.size; have hlw161 := hBw161.lt
          refine wpF_step (op_store 41 w160.heap.size 0 41 (vA (nodC Nod.zero)) (nodC Nod.zero) (nodC Nod.zero) hBw161 (by rw [nodC_len]; kernel_rfl) (by first | (simp; done) | (simp; omega)) (nodC_one _) ?_)
          intro w162 hBw162 hCw162
          have hzw162 := hCw162.size
          rw [setFrom_all _ _ (by simp)] at hBw162
          refine wpF_run 1 [(9, (vI 1))] (wpF_end (then_code (wpC_seq (wpC_region ?_))))
          have hK53 := (((((((hK45.ext hX19)).ext hEw160)).ext hEw161)).chg hCw162 (fun hs => by have h : _ = _ := hs; omega))
          refine wpF_step (op_v (some 64) (Instr.loadAt 41 (vP w8.heap.size 0)) (vA (nodC (Nod.mt 0 1))) (rn_lda (vs := nodC (Nod.mt 0 1)) (hK53.all) (by rw [nodC_len]; kernel_rfl)) ?_)
          refine wpF_run 2 [(66, (vA (recC ⟨0, ⟨0, 1, by decide, by decide⟩, Dig.zero, by decide⟩))), (65, (vA (nonC ⟨0, 1, by decide, by decide⟩)))] (wpF_step (op_call (some 67) (c_WithRecordBad (Nod.mt 0 1) ((1 : Nat) : Int) (⟨0, ⟨0, 1, by decide, by decide⟩, Dig.zero, by decide⟩) _ (by decide)) ?_))
          rintro _ w163 ⟨rfl, hEw163⟩
          have hzw163 := hEw163.size
          refine wpF_run 3 [(69, (vI 1)), (68, (vA (nodC Nod.zero))), (63, (.tuple #[(vA (nodC Nod.zero)), (vI 1)]))] (wpF_step (op_new (some 10) (Instr.alloc 41 true (.tuple #[])) (vP w163.heap.size 0) (nodC Nod.zero) 41 ?_))
          intro w164 hBw164 hEw164
          have hzw164 := hEw164.size; have hlw164 := hBw164.lt
          refine wpF_step (op_store 41 w163.heap.size 0 41 (vA (nodC Nod.zero)) (nodC Nod.zero) (nodC Nod.zero) hBw164 (by rw [nodC_len]; kernel_rfl) (by first | (simp; done) | (simp; omega)) (nodC_one _) ?_)
          intro w165 hBw165 hCw165
          have hzw165 := hCw165.size
          rw [setFrom_all _ _ (by simp)] at hBw165
          refine wpF_run 1 [(11, (vI 1))] (wpF_end (then_code (wpC_seq (wpC_region ?_))))
          have hK54 := (((((hK53.ext hEw163)).ext hEw164)).chg hCw165 (fun hs => by have h : _ = _ := hs; omega))
          refine wpF_step (op_v (some 71) (Instr.loadAt 41 (vP w8.heap.size 0)) (vA (nodC (Nod.mt 0 1))) (rn_lda (vs := nodC (Nod.mt 0 1)) (hK54.all) (by rw [nodC_len]; kernel_rfl)) ?_)
          refine wpF_run 1 [(72, (vA (recC Rec.zero)))] (wpF_step (op_call (some 73) (c_WithRecordBad (Nod.mt 0 1) ((4 : Nat) : Int) Rec.zero _ (by decide)) ?_))
          rintro _ w166 ⟨rfl, hEw166⟩
          have hzw166 := hEw166.size
          refine wpF_run 3 [(75, (vI 1)), (74, (vA (nodC Nod.zero))), (70, (.tuple #[(vA (nodC Nod.zero)), (vI 1)]))] (wpF_step (op_new (some 12) (Instr.alloc 41 true (.tuple #[])) (vP w166.heap.size 0) (nodC Nod.zero) 41 ?_))
          intro w167 hBw167 hEw167
          have hzw167 := hEw167.size; have hlw167 := hBw167.lt
          refine wpF_step (op_store 41 w166.heap.size 0 41 (vA (nodC Nod.zero)) (nodC Nod.zero) (nodC Nod.zero) hBw167 (by rw [nodC_len]; kernel_rfl) (by first | (simp; done) | (simp; omega)) (nodC_one _) ?_)
          intro w168 hBw168 hCw168
          have hzw168 := hCw168.size
          rw [setFrom_all _ _ (by simp)] at hBw168
          refine wpF_run 1 [(13, (vI 1))] (wpF_end (then_code (wpC_seq (wpC_region (wpF_run 19 [(94, vT), (93, vT), (92, vT), (91, (vI 1)), (90, vT), (89, vT), (88, vT), (87, (vI 1)), (86, vT), (85, vT), (84, vT), (83, (vI 1)), (82, vT), (81, vT), (80, vT), (79, (vI 0)), (78, vT), (77, vT), (76, (vI 0))] ?_)))))
          have hK55 := (((((((((((((((((((((hBw136.ext hEw137)).ext hX19)).ext hEw160)).ext hEw161)).chg hCw162 (fun hs => by have h : _ = _ := hs; omega))).ext hEw163)).ext hEw164)).chg hCw165 (fun hs => by have h : _ = _ := hs; omega))).ext hEw166)).ext hEw167)).chg hCw168 (fun hs => by have h : _ = _ := hs; omega))
          refine wpF_step (op_v (some 95) (Instr.loadAt 41 (vP w11.heap.size 0)) (vA (nodC ((Nod.mt 0 1).setR 0 (mkR 1 9)))) (rn_lda (vs := nodC ((Nod.mt 0 1).setR 0 (mkR 1 9))) (hK55.all) (by rw [nodC_len]; kernel_rfl)) ?_)
          refine wpF_step (op_call (some 96) (c_NFits 5 ((Nod.mt 0 1).setR 0 (mkR 1 9)) _ (by first | omega | decide) (by first | omega | decide)) ?_)
          rintro _ w169 ⟨rfl, hEw169⟩
          have hzw169 := hEw169.size
          rw [show fitV 5 ((Nod.mt 0 1).setR 0 (mkR 1 9)) = 0 from by decide]
          refine wpF_run 3 [(99, vT), (98, vT), (97, vT)] ?_
          have hK56 := (((((((((((((((((((hBw159.ext hEw160)).ext hEw161)).chg hCw162 (fun hs => by have h : _ = _ := hs; omega))).ext hEw163)).ext hEw164)).chg hCw165 (fun hs => by have h : _ = _ := hs; omega))).ext hEw166)).ext hEw167)).chg hCw168 (fun hs => by have h : _ = _ := hs; omega))).ext hEw169)
          refine wpF_step (op_v (some 100) (Instr.loadAt 41 (vP w138.heap.size 0)) (vA (nodC ((Nod.mt 0 1).setR 1 (mkR 2 9)))) (rn_lda (vs := nodC ((Nod.mt 0 1).setR 1 (mkR 2 9))) (hK56.all) (by rw [nodC_len]; kernel_rfl)) ?_)
          refine wpF_step (op_call (some 101) (c_NFits 5 ((Nod.mt 0 1).setR 1 (mkR 2 9)) _ (by first | omega | decide) (by first | omega | decide)) ?_)
          rintro _ w170 ⟨rfl, hEw170⟩
          have hzw170 := hEw170.size
          rw [show fitV 5 ((Nod.mt 0 1).setR 1 (mkR 2 9)) = 17 from by decide]
          refine wpF_run 3 [(104, vT), (103, vT), (102, vT)] (wpF_step (op_v (some 105) (Instr.loadAt 41 (vP w138.heap.size 0)) (vA (nodC ((Nod.mt 0 1).setR 1 (mkR 2 9)))) (rn_lda (vs := nodC ((Nod.mt 0 1).setR 1 (mkR 2 9))) ((hK56.ext hEw170).all) (by rw [nodC_len]; kernel_rfl)) ?_))
          refine wpF_step (op_call (some 106) (c_NFits 6 ((Nod.mt 0 1).setR 1 (mkR 2 9)) _ (by first | omega | decide) (by first | omega | decide)) ?_)
          rintro _ w171 ⟨rfl, hEw171⟩
          have hzw171 := hEw171.size
          rw [show fitV 6 ((Nod.mt 0 1).setR 1 (mkR 2 9)) = 0 from by decide]
          refine wpF_run 3 [(109, vT), (108, vT), (107, vT)] ?_
          have hK57 := (((((hK55.ext hEw169)).ext hEw170)).ext hEw171)
          refine wpF_step (op_v (some 110) (Instr.loadAt 41 (vP w11.heap.size 0)) (vA (nodC ((Nod.mt 0 1).setR 0 (mkR 1 9)))) (rn_lda (vs := nodC ((Nod.mt 0 1).setR 0 (mkR 1 9))) (hK57.all) (by rw [nodC_len]; kernel_rfl)) ?_)
          refine wpF_step (op_call (some 111) (c_Used ((Nod.mt 0 1).setR 0 (mkR 1 9)) _) ?_)
          rintro _ w172 ⟨rfl, hEw172⟩
          have hzw172 := hEw172.size
          rw [show usd ((Nod.mt 0 1).setR 0 (mkR 1 9)) 4 = 1 from by decide]
          refine wpF_run 3 [(114, vT), (113, vT), (112, vT)] ?_
          have hK58 := (((((((((((((hK54.ext hEw166)).ext hEw167)).chg hCw168 (fun hs => by have h : _ = _ := hs; omega))).ext hEw169)).ext hEw170)).ext hEw171)).ext hEw172)
          refine wpF_step (op_v (some 115) (Instr.loadAt 41 (vP w8.heap.size 0)) (vA (nodC (Nod.mt 0 1))) (rn_lda (vs := nodC (Nod.mt 0 1)) (hK58.all) (by rw [nodC_len]; kernel_rfl)) ?_)
          refine wpF_step (op_call (some 116) (c_Used (Nod.mt 0 1) _) ?_)
          rintro _ w173 ⟨rfl, hEw173⟩
          have hzw173 := hEw173.size
          rw [show usd (Nod.mt 0 1) 4 = 0 from by decide]
          refine wpF_run 3 [(119, vT), (118, vT), (117, vT)] ?_
          have hK59 := (((((((((((((((((((((((((((((((((((((((((((hg0.ext hEl)).ext hEw8)).ext hEw9)).chg hCw10 (fun hs => by have h : _ = _ := hs; omega))).ext hEw11)).ext hX16)).ext hEw137)).ext hX19)).ext hEw160)).ext hEw161)).chg hCw162 (fun hs => by have h : _ = _ := hs; omega))).ext hEw163)).ext hEw164)).chg hCw165 (fun hs => by have h : _ = _ := hs; omega))).ext hEw166)).ext hEw167)).chg hCw168 (fun hs => by have h : _ = _ := hs; omega))).ext hEw169)).ext hEw170)).ext hEw171)).ext hEw172)).ext hEw173)
          refine wpF_step (op_call (some 120) (c_lives13 _ hK59) ?_)
          rintro _ w174 ⟨rfl, hEw174⟩
          have hzw174 := hEw174.size
          refine wpF_run 2 [(0, vT), (121, vT)] (wpF_end (then_code (wpC_ret (body_rets vT ?_))))
          have hX20 : Ext w w174 := (((((((Ext.own (((Ext.own (((Ext.own (((((((Ext.own ((hEl.trans hEw8).trans hEw9) hCw10 (by omega)).trans hEw11).trans hX16).trans hEw137).trans hX19).trans hEw160).trans hEw161) hCw162 (by omega)).trans hEw163).trans hEw164) hCw165 (by omega)).trans hEw166).trans hEw167) hCw168 (by omega)).trans hEw169).trans hEw170).trans hEw171).trans hEw172).trans hEw173).trans hEw174)
          exact ⟨rfl, hX20⟩
      · refine op_new (some 6) (Instr.alloc 41 true (.tuple #[])) (vP w137.heap.size 0) (nodC Nod.zero) 41 ?_
        intro w175 hBw175 hEw175
        have hzw175 := hEw175.size; have hlw175 := hBw175.lt
        refine ⟨.inr hEw175, ?_⟩
        refine anyM_one 1 67 (op_call (some 53) (c_mkR 2 9 _ (by first | omega | decide) (by first | omega | decide)) ?_)
        rintro _ w176 ⟨rfl, hEw176⟩
        have hzw176 := hEw176.size
        refine ⟨.inr (hEw175.trans hEw176), ?_⟩
        refine anyM_one 2 71 (op_call (some 54) (c_WithRecord (Nod.mt 0 1) 1 (mkR 2 9) _ (by decide) (by decide)) ?_)
        rintro _ w177 ⟨rfl, hEw177⟩
        have hzw177 := hEw177.size
        refine ⟨.inr ((hEw175.trans hEw176).trans hEw177), ?_⟩
        refine anyM_run (hw := show Ext w137 w177 from ((hEw175.trans hEw176).trans hEw177)) hT955 [(3, 51, (.tuple #[(vA (nodC ((Nod.mt 0 1).setR 1 (mkR 2 9)))), (vI 0)])), (4, 55, (vA (nodC ((Nod.mt 0 1).setR 1 (mkR 2 9))))), (5, 56, (vI 0))] 3 127 (anyM_one 7 255 (op_store 41 w137.heap.size 0 41 (vA (nodC ((Nod.mt 0 1).setR 1 (mkR 2 9)))) (nodC Nod.zero) (nodC ((Nod.mt 0 1).setR 1 (mkR 2 9))) (((hBw175.ext hEw176)).ext hEw177) (by rw [nodC_len]; kernel_rfl) (by first | (simp; done) | (simp; omega)) (nodC_one _) ?_))
        intro w178 hBw178 hCw178
        have hzw178 := hCw178.size
        rw [setFrom_all _ _ (by simp)] at hBw178
        have hX21 : Ext w137 w178 := (Ext.own ((hEw175.trans hEw176).trans hEw177) hCw178 (by omega))
        refine ⟨.inr hX21, ?_⟩
        refine anyM_run (hw := show Ext w137 w178 from hX21) hT955 [(8, 7, (vI 0))] 1 511 (anyM_done (then_code (wpC_seq (wpC_region (wpF_step (op_v (some 58) (Instr.loadAt 41 (vP w8.heap.size 0)) (vA (nodC (Nod.mt 0 1))) (rn_lda (vs := nodC (Nod.mt 0 1)) ((hK45.ext hX21).all) (by rw [nodC_len]; kernel_rfl)) ?_))))))
        refine wpF_run 1 [(59, (vA (recC ⟨3, Non.zero, Dig.zero, by decide⟩)))] (wpF_step (op_call (some 60) (c_WithRecordBad (Nod.mt 0 1) ((1 : Nat) : Int) (⟨3, Non.zero, Dig.zero, by decide⟩) _ (by decide)) ?_))
        rintro _ w179 ⟨rfl, hEw179⟩
        have hzw179 := hEw179.size
        refine wpF_run 3 [(62, (vI 1)), (61, (vA (nodC Nod.zero))), (57, (.tuple #[(vA (nodC Nod.zero)), (vI 1)]))] (wpF_step (op_new (some 8) (Instr.alloc 41 true (.tuple #[])) (vP w179.heap.size 0) (nodC Nod.zero) 41 ?_))
        intro w180 hBw180 hEw180
        have hzw180 := hEw180.size; have hlw180 := hBw180.lt
        refine wpF_step (op_store 41 w179.heap.size 0 41 (vA (nodC Nod.zero)) (nodC Nod.zero) (nodC Nod.zero) hBw180 (by rw [nodC_len]; kernel_rfl) (by first | (simp; done) | (simp; omega)) (nodC_one _) ?_)
        intro w181 hBw181 hCw181
        have hzw181 := hCw181.size
        rw [setFrom_all _ _ (by simp)] at hBw181
        refine wpF_run 1 [(9, (vI 1))] (wpF_end (then_code (wpC_seq (wpC_region ?_))))
        have hK60 := (((((((hK45.ext hX21)).ext hEw179)).ext hEw180)).chg hCw181 (fun hs => by have h : _ = _ := hs; omega))
        refine wpF_step (op_v (some 64) (Instr.loadAt 41 (vP w8.heap.size 0)) (vA (nodC (Nod.mt 0 1))) (rn_lda (vs := nodC (Nod.mt 0 1)) (hK60.all) (by rw [nodC_len]; kernel_rfl)) ?_)
        refine wpF_run 2 [(66, (vA (recC ⟨0, ⟨0, 1, by decide, by decide⟩, Dig.zero, by decide⟩))), (65, (vA (nonC ⟨0, 1, by decide, by decide⟩)))] (wpF_step (op_call (some 67) (c_WithRecordBad (Nod.mt 0 1) ((1 : Nat) : Int) (⟨0, ⟨0, 1, by decide, by decide⟩, Dig.zero, by decide⟩) _ (by decide)) ?_))
        rintro _ w182 ⟨rfl, hEw182⟩
        have hzw182 := hEw182.size
        refine wpF_run 3 [(69, (vI 1)), (68, (vA (nodC Nod.zero))), (63, (.tuple #[(vA (nodC Nod.zero)), (vI 1)]))] (wpF_step (op_new (some 10) (Instr.alloc 41 true (.tuple #[])) (vP w182.heap.size 0) (nodC Nod.zero) 41 ?_))
        intro w183 hBw183 hEw183
        have hzw183 := hEw183.size; have hlw183 := hBw183.lt
        refine wpF_step (op_store 41 w182.heap.size 0 41 (vA (nodC Nod.zero)) (nodC Nod.zero) (nodC Nod.zero) hBw183 (by rw [nodC_len]; kernel_rfl) (by first | (simp; done) | (simp; omega)) (nodC_one _) ?_)
        intro w184 hBw184 hCw184
        have hzw184 := hCw184.size
        rw [setFrom_all _ _ (by simp)] at hBw184
        refine wpF_run 1 [(11, (vI 1))] (wpF_end (then_code (wpC_seq (wpC_region ?_))))
        have hK61 := (((((hK60.ext hEw182)).ext hEw183)).chg hCw184 (fun hs => by have h : _ = _ := hs; omega))
        refine wpF_step (op_v (some 71) (Instr.loadAt 41 (vP w8.heap.size 0)) (vA (nodC (Nod.mt 0 1))) (rn_lda (vs := nodC (Nod.mt 0 1)) (hK61.all) (by rw [nodC_len]; kernel_rfl)) ?_)
        refine wpF_run 1 [(72, (vA (recC Rec.zero)))] (wpF_step (op_call (some 73) (c_WithRecordBad (Nod.mt 0 1) ((4 : Nat) : Int) Rec.zero _ (by decide)) ?_))
        rintro _ w185 ⟨rfl, hEw185⟩
        have hzw185 := hEw185.size
        refine wpF_run 3 [(75, (vI 1)), (74, (vA (nodC Nod.zero))), (70, (.tuple #[(vA (nodC Nod.zero)), (vI 1)]))] (wpF_step (op_new (some 12) (Instr.alloc 41 true (.tuple #[])) (vP w185.heap.size 0) (nodC Nod.zero) 41 ?_))
        intro w186 hBw186 hEw186
        have hzw186 := hEw186.size; have hlw186 := hBw186.lt
        refine wpF_step (op_store 41 w185.heap.size 0 41 (vA (nodC Nod.zero)) (nodC Nod.zero) (nodC Nod.zero) hBw186 (by rw [nodC_len]; kernel_rfl) (by first | (simp; done) | (simp; omega)) (nodC_one _) ?_)
        intro w187 hBw187 hCw187
        have hzw187 := hCw187.size
        rw [setFrom_all _ _ (by simp)] at hBw187
        refine wpF_run 1 [(13, (vI 1))] (wpF_end (then_code (wpC_seq (wpC_region (wpF_run 19 [(94, vT), (93, vT), (92, vT), (91, (vI 1)), (90, vT), (89, vT), (88, vT), (87, (vI 1)), (86, vT), (85, vT), (84, vT), (83, (vI 1)), (82, vT), (81, vT), (80, vT), (79, (vI 0)), (78, vT), (77, vT), (76, (vI 0))] ?_)))))
        have hK62 := (((((((((((((((((((((hBw136.ext hEw137)).ext hX21)).ext hEw179)).ext hEw180)).chg hCw181 (fun hs => by have h : _ = _ := hs; omega))).ext hEw182)).ext hEw183)).chg hCw184 (fun hs => by have h : _ = _ := hs; omega))).ext hEw185)).ext hEw186)).chg hCw187 (fun hs => by have h : _ = _ := hs; omega))
        refine wpF_step (op_v (some 95) (Instr.loadAt 41 (vP w11.heap.size 0)) (vA (nodC ((Nod.mt 0 1).setR 0 (mkR 1 9)))) (rn_lda (vs := nodC ((Nod.mt 0 1).setR 0 (mkR 1 9))) (hK62.all) (by rw [nodC_len]; kernel_rfl)) ?_)
        refine wpF_step (op_call (some 96) (c_NFits 5 ((Nod.mt 0 1).setR 0 (mkR 1 9)) _ (by first | omega | decide) (by first | omega | decide)) ?_)
        rintro _ w188 ⟨rfl, hEw188⟩
        have hzw188 := hEw188.size
        rw [show fitV 5 ((Nod.mt 0 1).setR 0 (mkR 1 9)) = 0 from by decide]
        refine wpF_run 3 [(99, vT), (98, vT), (97, vT)] ?_
        have hK63 := (((((((((((((((((((hBw178.ext hEw179)).ext hEw180)).chg hCw181 (fun hs => by have h : _ = _ := hs; omega))).ext hEw182)).ext hEw183)).chg hCw184 (fun hs => by have h : _ = _ := hs; omega))).ext hEw185)).ext hEw186)).chg hCw187 (fun hs => by have h : _ = _ := hs; omega))).ext hEw188)
        refine wpF_step (op_v (some 100) (Instr.loadAt 41 (vP w137.heap.size 0)) (vA (nodC ((Nod.mt 0 1).setR 1 (mkR 2 9)))) (rn_lda (vs := nodC ((Nod.mt 0 1).setR 1 (mkR 2 9))) (hK63.all) (by rw [nodC_len]; kernel_rfl)) ?_)
        refine wpF_step (op_call (some 101) (c_NFits 5 ((Nod.mt 0 1).setR 1 (mkR 2 9)) _ (by first | omega | decide) (by first | omega | decide)) ?_)
        rintro _ w189 ⟨rfl, hEw189⟩
        have hzw189 := hEw189.size
        rw [show fitV 5 ((Nod.mt 0 1).setR 1 (mkR 2 9)) = 17 from by decide]
        refine wpF_run 3 [(104, vT), (103, vT), (102, vT)] (wpF_step (op_v (some 105) (Instr.loadAt 41 (vP w137.heap.size 0)) (vA (nodC ((Nod.mt 0 1).setR 1 (mkR 2 9)))) (rn_lda (vs := nodC ((Nod.mt 0 1).setR 1 (mkR 2 9))) ((hK63.ext hEw189).all) (by rw [nodC_len]; kernel_rfl)) ?_))
        refine wpF_step (op_call (some 106) (c_NFits 6 ((Nod.mt 0 1).setR 1 (mkR 2 9)) _ (by first | omega | decide) (by first | omega | decide)) ?_)
        rintro _ w190 ⟨rfl, hEw190⟩
        have hzw190 := hEw190.size
        rw [show fitV 6 ((Nod.mt 0 1).setR 1 (mkR 2 9)) = 0 from by decide]
        refine wpF_run 3 [(109, vT), (108, vT), (107, vT)] ?_
        have hK64 := (((((hK62.ext hEw188)).ext hEw189)).ext hEw190)
        refine wpF_step (op_v (some 110) (Instr.loadAt 41 (vP w11.heap.size 0)) (vA (nodC ((Nod.mt 0 1).setR 0 (mkR 1 9)))) (rn_lda (vs := nodC ((Nod.mt 0 1).setR 0 (mkR 1 9))) (hK64.all) (by rw [nodC_len]; kernel_rfl)) ?_)
        refine wpF_step (op_call (some 111) (c_Used ((Nod.mt 0 1).setR 0 (mkR 1 9)) _) ?_)
        rintro _ w191 ⟨rfl, hEw191⟩
        have hzw191 := hEw191.size
        rw [show usd ((Nod.mt 0 1).setR 0 (mkR 1 9)) 4 = 1 from by decide]
        refine wpF_run 3 [(114, vT), (113, vT), (112, vT)] ?_
        have hK65 := (((((((((((((hK61.ext hEw185)).ext hEw186)).chg hCw187 (fun hs => by have h : _ = _ := hs; omega))).ext hEw188)).ext hEw189)).ext hEw190)).ext hEw191)
        refine wpF_step (op_v (some 115) (Instr.loadAt 41 (vP w8.heap.size 0)) (vA (nodC (Nod.mt 0 1))) (rn_lda (vs := nodC (Nod.mt 0 1)) (hK65.all) (by rw [nodC_len]; kernel_rfl)) ?_)
        refine wpF_step (op_call (some 116) (c_Used (Nod.mt 0 1) _) ?_)
        rintro _ w192 ⟨rfl, hEw192⟩
        have hzw192 := hEw192.size
        rw [show usd (Nod.mt 0 1) 4 = 0 from by decide]
        refine wpF_run 3 [(119, vT), (118, vT), (117, vT)] ?_
        have hK66 := (((((((((((((((((((((((((((((((((((((((((((hg0.ext hEl)).ext hEw8)).ext hEw9)).chg hCw10 (fun hs => by have h : _ = _ := hs; omega))).ext hEw11)).ext hX16)).ext hEw137)).ext hX21)).ext hEw179)).ext hEw180)).chg hCw181 (fun hs => by have h : _ = _ := hs; omega))).ext hEw182)).ext hEw183)).chg hCw184 (fun hs => by have h : _ = _ := hs; omega))).ext hEw185)).ext hEw186)).chg hCw187 (fun hs => by have h : _ = _ := hs; omega))).ext hEw188)).ext hEw189)).ext hEw190)).ext hEw191)).ext hEw192)
        refine wpF_step (op_call (some 120) (c_lives13 _ hK66) ?_)
        rintro _ w193 ⟨rfl, hEw193⟩
        have hzw193 := hEw193.size
        refine wpF_run 2 [(0, vT), (121, vT)] (wpF_end (then_code (wpC_ret (body_rets vT ?_))))
        have hX22 : Ext w w193 := (((((((Ext.own (((Ext.own (((Ext.own (((((((Ext.own ((hEl.trans hEw8).trans hEw9) hCw10 (by omega)).trans hEw11).trans hX16).trans hEw137).trans hX21).trans hEw179).trans hEw180) hCw181 (by omega)).trans hEw182).trans hEw183) hCw184 (by omega)).trans hEw185).trans hEw186) hCw187 (by omega)).trans hEw188).trans hEw189).trans hEw190).trans hEw191).trans hEw192).trans hEw193)
        exact ⟨rfl, hX22⟩

end Go.Proofs.YtpcbhalagllhnaaDoor
