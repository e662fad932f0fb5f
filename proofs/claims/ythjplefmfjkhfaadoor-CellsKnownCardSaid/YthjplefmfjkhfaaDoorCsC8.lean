/- CsC8: what each function does, by its own code. No condition beyond those of each statement. -/
import Derived.Test.YthjplefmfjkhfaaDoorCsC6
namespace Go.Proofs.YthjplefmfjkhfaaDoor
open Go Go.RowKit Go.Cs
set_option maxRecDepth 100000
set_option linter.all false
set_option linter.unusedVariables false

theorem c_CellsKnown   (w : World) (hg0 : Gl 0 [vI 45, vI 33] w) (hg1 : Gl 1 (w8C iniA) w) (hg2 : Gl 2 (w64C kA) w) :
    Calls Tryd.prog 8 #[] w (Ret fun r w' => r = vT ∧ Ext w w') := by
  refine calls_of (n := 137) (σ := []) Tryd.func8 rfl ?_
  have hgl0 := hg0.lt
  have hgl1 := hg1.lt
  have hgl2 := hg2.lt
  refine wpC_seq (wpC_region (wpF_run 1 [(0, vF)] (wpF_end (then_code (wpC_seq (wpC_region (wpF_run 1 [(21, (vA (celC (exZ 0 18446744073709551610))))] (wpF_step (op_call (some 22) (c_Rsv (exZ 0 18446744073709551610) 5 18446744073709551615 _ (by decide) (by decide) (by decide)) ?_)))))))))
  rintro _ w1 ⟨rfl, hEw1⟩
  have hzw1 := hEw1.size
  refine wpF_run 3 [(24, (vI 0)), (23, (vA (celC ((exZ 0 18446744073709551610).rsv 5)))), (20, (.tuple #[(vA (celC ((exZ 0 18446744073709551610).rsv 5))), (vI 0)]))] (wpF_step (op_new (some 1) (Instr.alloc 30 true (.tuple #[])) (vP w1.heap.size 0) (celC Cel.zero) 30 ?_))
  intro w2 hBw2 hEw2
  have hzw2 := hEw2.size; have hlw2 := hBw2.lt
  refine wpF_step (op_store 30 w1.heap.size 0 30 (vA (celC ((exZ 0 18446744073709551610).rsv 5))) (celC Cel.zero) (celC ((exZ 0 18446744073709551610).rsv 5)) hBw2 (by rw [celC_len]; kernel_rfl) (by first | (simp; done) | (simp; omega)) (celC_one _) ?_)
  intro w3 hBw3 hCw3
  have hzw3 := hCw3.size
  rw [setFrom_all _ _ (by simp)] at hBw3
  refine wpF_run 1 [(2, (vI 0))] (wpF_end (then_code (wpC_seq (wpC_region (wpF_run 1 [(26, (vA (celC (exZ 0 18446744073709551610))))] (wpF_step (op_call (some 27) (c_RsvBad (exZ 0 18446744073709551610) 6 18446744073709551615 _ (by decide) (by decide) (by decide)) ?_)))))))
  rintro _ w4 ⟨rfl, hEw4⟩
  have hzw4 := hEw4.size
  refine wpF_run 3 [(29, (vI 8)), (28, (vA (celC Cel.zero))), (25, (.tuple #[(vA (celC Cel.zero)), (vI 8)]))] (wpF_step (op_new (some 3) (Instr.alloc 30 true (.tuple #[])) (vP w4.heap.size 0) (celC Cel.zero) 30 ?_))
  intro w5 hBw5 hEw5
  have hzw5 := hEw5.size; have hlw5 := hBw5.lt
  refine wpF_step (op_store 30 w4.heap.size 0 30 (vA (celC Cel.zero)) (celC Cel.zero) (celC Cel.zero) hBw5 (by rw [celC_len]; kernel_rfl) (by first | (simp; done) | (simp; omega)) (celC_one _) ?_)
  intro w6 hBw6 hCw6
  have hzw6 := hCw6.size
  rw [setFrom_all _ _ (by simp)] at hBw6
  refine wpF_run 1 [(4, (vI 8))] (wpF_end (then_code (wpC_seq (wpC_region (wpF_run 1 [(31, (vA (celC (exZ 0 9))))] (wpF_step (op_call (some 32) (c_RsvBad (exZ 0 9) 1 8 _ (by decide) (by decide) (by decide)) ?_)))))))
  rintro _ w7 ⟨rfl, hEw7⟩
  have hzw7 := hEw7.size
  refine wpF_run 3 [(34, (vI 8)), (33, (vA (celC Cel.zero))), (30, (.tuple #[(vA (celC Cel.zero)), (vI 8)]))] (wpF_step (op_new (some 5) (Instr.alloc 30 true (.tuple #[])) (vP w7.heap.size 0) (celC Cel.zero) 30 ?_))
  intro w8 hBw8 hEw8
  have hzw8 := hEw8.size; have hlw8 := hBw8.lt
  refine wpF_step (op_store 30 w7.heap.size 0 30 (vA (celC Cel.zero)) (celC Cel.zero) (celC Cel.zero) hBw8 (by rw [celC_len]; kernel_rfl) (by first | (simp; done) | (simp; omega)) (celC_one _) ?_)
  intro w9 hBw9 hCw9
  have hzw9 := hCw9.size
  rw [setFrom_all _ _ (by simp)] at hBw9
  refine wpF_run 1 [(6, (vI 8))] (wpF_end (then_code (wpC_seq (wpC_region (wpF_run 1 [(36, (vA (celC (exZ 18446744073709551614 0))))] (wpF_step (op_call (some 37) (c_r15 _) ?_)))))))
  rintro _ w10 ⟨rfl, hEw10⟩
  have hzw10 := hEw10.size
  refine wpF_step (op_call (some 38) (c_CNext (exZ 18446744073709551614 0) (mkD 1) _ (by decide)) ?_)
  rintro _ w11 ⟨rfl, hEw11⟩
  have hzw11 := hEw11.size
  refine wpF_run 3 [(40, (vI 0)), (39, (vA (celC ((exZ 18446744073709551614 0).nxt (mkD 1))))), (35, (.tuple #[(vA (celC ((exZ 18446744073709551614 0).nxt (mkD 1)))), (vI 0)]))] (wpF_step (op_new (some 7) (Instr.alloc 30 true (.tuple #[])) (vP w11.heap.size 0) (celC Cel.zero) 30 ?_))
  intro w12 hBw12 hEw12
  have hzw12 := hEw12.size; have hlw12 := hBw12.lt
  refine wpF_step (op_store 30 w11.heap.size 0 30 (vA (celC ((exZ 18446744073709551614 0).nxt (mkD 1)))) (celC Cel.zero) (celC ((exZ 18446744073709551614 0).nxt (mkD 1))) hBw12 (by rw [celC_len]; kernel_rfl) (by first | (simp; done) | (simp; omega)) (celC_one _) ?_)
  intro w13 hBw13 hCw13
  have hzw13 := hCw13.size
  rw [setFrom_all _ _ (by simp)] at hBw13
  refine wpF_run 1 [(8, (vI 0))] (wpF_end (then_code (wpC_seq (wpC_seq (wpC_drawM (Ext w13.drew) 29 [(42, 2, 0), (43, 2199023255552, 1), (44, 4398046511104, 2), (45, 8796093022208, 4), (46, 17592186044420, 8), (47, 17592186044672, 8), (48, 123145302310912, 56), (49, 158329674399744, 72), (50, 299067162755072, 136), (51, 562949953421312, 264), (52, 1125899906842640, 512), (53, 3377699720527872, 1536), (54, 5629499534213120, 2560), (55, 9007199254740992, 4608), (56, 18014398509482048, 8192), (57, 54043195528445952, 24576), (58, 90071992547409920, 40960), (59, 144115188075855872, 73728), (60, 288230376151711872, 131072), (61, 864691128455135232, 393216), (62, 1441151880758558720, 655360), (63, 2594073385365405696, 1179648), (64, 4611686018427387904, 2228224), (65, 9223372036854775936, 4194304), (66, 9223372036854775808, 4194304), (67, 46116860184273879040, 20971520), (68, 101457092405402533888, 62914560), (69, 156797324626531188736, 71303168), (70, 304371277216207601664, 138412032)] (fun hT84 => ?_))))))
  have hEw14 : Ext w13 w13.drew := Ext.drew w13
  generalize w13.drew = w14 at hEw14 ⊢
  have hzw14 := hEw14.size
  refine anyM_run hT84 [(0, 41, (vP w1.heap.size 33))] 1 1 ?_
  have hK1 := (((((((((((((((((((((hBw3.ext hEw4)).ext hEw5)).chg hCw6 (fun hs => by have h : _ = _ := hs; omega))).ext hEw7)).ext hEw8)).chg hCw9 (fun hs => by have h : _ = _ := hs; omega))).ext hEw10)).ext hEw11)).ext hEw12)).chg hCw13 (fun hs => by have h : _ = _ := hs; omega))).ext hEw14)
  refine anyM_take hT84 1 3 (some 42) (vQ (((exZ 0 18446744073709551610).rsv 5).mark)) (yld_val (Instr.loadAt 28 (vP w1.heap.size 33)) (fun w' hC => rn_ld ((hK1.ext hC).cell (cel_mk _)))) (anyM_take hT84 2 7 (some 43) vF (yld_b (((((exZ 0 18446744073709551610).rsv 5).mark : Nat) : Int) != ((18446744073709551615 : Nat) : Int)) (by decide)) (anyM_run hT84 [(3, 44, vF), (4, 45, (vI 0)), (5, 46, (vI 0))] 3 63 (anyM_take hT84 6 127 (some 47) (vI 0) (yld_in .i64 (IntKind.i64.wrap (((0 : Nat) : Int) + ((0 : Nat) : Int))) (wrapS (by omega) (by omega) (by omega))) (anyM_run hT84 [(7, 48, vF), (8, 49, vF), (9, 50, vF), (10, 51, (vI 8)), (11, 52, vF), (12, 53, vF), (13, 54, vF), (14, 55, (vI 8)), (15, 56, vF), (16, 57, vF), (17, 58, vF), (18, 59, (vP w11.heap.size 32))] 12 524287 (anyM_take hT84 19 1048575 (some 60) (vQ (((exZ 18446744073709551614 0).nxt (mkD 1)).ep)) (yld_val (Instr.loadAt 28 (vP w11.heap.size 32)) (fun w' hC => rn_ld (((hBw13.ext hEw14).ext hC).cell (cel_ep _)))) (anyM_take hT84 20 2097151 (some 61) vF (yld_b (((((exZ 18446744073709551614 0).nxt (mkD 1)).ep : Nat) : Int) != ((18446744073709551615 : Nat) : Int)) (by decide)) (anyM_run hT84 [(21, 62, vF), (22, 63, vF)] 2 8388607 (anyM_take hT84 23 16777215 (some 64) (vA (celC ((exZ 18446744073709551614 0).nxt (mkD 1)))) (yld_val (Instr.loadAt 30 (vP w11.heap.size 0)) (fun w' hC => rn_lda (vs := celC ((exZ 18446744073709551614 0).nxt (mkD 1))) (((hBw13.ext hEw14).ext hC).all) (by rw [celC_len]; kernel_rfl))) (anyM_one 24 33554431 (op_call (some 65) (c_r15 _) ?_))))))))))
  rintro _ w15 ⟨rfl, hEw15⟩
  have hzw15 := hEw15.size
  refine ⟨.inr hEw15, ?_⟩
  refine anyM_take (hw := show Ext w14 w15 from hEw15) hT84 25 67108863 (some 66) (vA (celC (exC 1 0 0))) (yld_val (Instr.build 30 #[(0, (vA (digC (mkD 1))))]) (fun w' hC => (run_build_cel1 (mkD 1)).trans (congrArg (fun z : Cel => Result.ok (Value.agg (celC z).toArray) _) (show (⟨(mkD 1), 0, 0, by decide, by decide⟩ : Cel) = exC 1 0 0 from rfl)))) (anyM_one 26 134217727 (op_call (some 67) (c_Fol ((exZ 18446744073709551614 0).nxt (mkD 1)) (exC 1 0 0) _) ?_))
  rintro _ w16 ⟨rfl, hEw16⟩
  have hzw16 := hEw16.size
  rw [show fol ((exZ 18446744073709551614 0).nxt (mkD 1)) (exC 1 0 0) = 0 from by decide]
  refine ⟨.inr (hEw15.trans hEw16), ?_⟩
  refine anyM_run (hw := show Ext w14 w16 from (hEw15.trans hEw16)) hT84 [(27, 68, vF), (28, 69, vF)] 2 536870911 (anyM_done (then_code (wpC_false (wpC_skip (then_code (wpC_seq (wpC_region (wpF_step (op_new (some 70) (Instr.buildSlice 56 6 #[(0, (vI 1)), (1, (vI 5)), (2, (vI 17)), (3, (vI 65)), (4, (vI 257)), (5, (vI 1025))]) (.slice (pA w16.heap.size 0) 6 6) [(vI 1), (vI 5), (vI 17), (vI 65), (vI 257), (vI 1025)] 3 ?_)))))))))
  intro w17 hBw17 hEw17
  have hzw17 := hEw17.size; have hlw17 := hBw17.lt
  have hSw17 : Es (nv .i64) w16.heap.size (w16.heap.size + 1) w17 (pA w16.heap.size 0) 6 6 ([1, 5, 17, 65, 257, 1025]) := Es.of_blk hBw17 rfl rfl (Nat.le_refl _) (by decide) (Nat.le_refl _) (Nat.lt_succ_self _)
  refine wpF_run 1 [(9, (.slice (pA w16.heap.size 0) 6 6))] (wpF_end (then_code (wpC_seq (wpC_seq (wpC_region (wpF_run 1 [(10, (vI 0))] (wpF_end (then_code (wpC_block ?_)))))))))
  refine wpC_loop (X := Nat) (fun i => [(10, (vI i))]) [0, 11, 12, 13, 14, 15, 71, 72, 73, 74, 75, 76, 77, 78, 79, 80, 81, 82, 83, 84, 85, 86, 87, 88, 89, 90, 91, 92, 93, 94, 95, 96, 97, 98, 99, 100, 101, 102, 103, 104, 105, 106, 107, 108, 109, 110, 111, 112, 113, 114, 115, 116, 117] (fun i w18 => i ≤ 6 ∧ Ext w17 w18) (fun i => 6 - i) 0 (by kernel_rfl) ⟨by omega, Ext.refl _⟩ ?_
  rintro i dw18 w18 ⟨hi, hEl⟩
  have hzl := hEl.size
  refine wpC_seq (wpC_seq (wpC_region (wpF_run 1 [(71, (vI i))] (wpF_step (op_split (some 72) (decide (((i : Nat) : Int) < ((6 : Nat) : Int))) (fun hc72 => ?_) (fun hc72 => ?_))))))
  · replace hc72 : i < 6 := by have := of_d_t hc72; omega
    refine wpF_end (then_code (wpC_true (wpC_skip (then_code (wpC_seq (wpC_block (wpC_seq (wpC_region (wpF_run 1 [(11, (vI 0))] ?_)))))))))
    refine wpF_end (then_code (wpC_block (wpC_loop (X := Nat) (fun k => [(11, (vI k))]) [0, 12, 13, 14, 15, 75, 76, 77, 78, 79, 80, 81, 82, 83, 84, 85, 86, 87, 88, 89, 90, 91, 92, 93, 94, 95, 96, 97, 98, 99, 100, 101, 102, 103, 104, 105, 106, 107, 108, 109, 110, 111, 112, 113, 114, 115, 116, 117] (fun k w19 => k ≤ i ∧ Ext w18 w19) (fun k => i - k) 0 (by kernel_rfl) ⟨by omega, Ext.refl _⟩ ?_)))
    rintro k dw19 w19 ⟨hk, hEm⟩
    have hzm := hEm.size
    have hvi := fun h => lv15 (i := i) h
    have hvk := fun h => lv15 (i := k) h
    refine wpC_seq (wpC_seq (wpC_region (wpF_run 2 [(76, (vI i)), (75, (vI k))] (wpF_step (op_split (some 77) (decide (((k : Nat) : Int) < ((i : Nat) : Int))) (fun hc77 => ?_) (fun hc77 => ?_))))))
    · replace hc77 : k < i := by have := of_d_t hc77; omega
      refine wpF_end (then_code (wpC_true (wpC_skip (then_code (wpC_seq (wpC_block (wpC_seq (wpC_region (wpF_run 2 [(82, (vI i)), (81, (.slice (pA w16.heap.size 0) 6 6))] ?_)))))))))
      refine wpF_step (op_v (some 83) (Instr.indexAt 56 (.slice (pA w16.heap.size 0) 6 6) (vI i)) (vP w16.heap.size (0 + i * 1)) (rn_ixs (E := 3) (sz := 1) (by omega)) ?_)
      refine wpF_step (op_v (some 84) (Instr.loadAt 3 (vP w16.heap.size (0 + i * 1))) (vI (gt ([1, 5, 17, 65, 257, 1025]) i)) (rn_ld ((((hSw17.ext hEl)).ext hEm).celln (by omega))) ?_)
      have hK2 := (((((((((((((((((((((((((((((((((((((hg0.ext hEw1)).ext hEw2)).chg hCw3 (fun hs => by have h : _ = _ := hs; omega))).ext hEw4)).ext hEw5)).chg hCw6 (fun hs => by have h : _ = _ := hs; omega))).ext hEw7)).ext hEw8)).chg hCw9 (fun hs => by have h : _ = _ := hs; omega))).ext hEw10)).ext hEw11)).ext hEw12)).chg hCw13 (fun hs => by have h : _ = _ := hs; omega))).ext hEw14)).ext hEw15)).ext hEw16)).ext hEw17)).ext hEl)).ext hEm)
      have hK3 := (((((((((((((((((((((((((((((((((((((hg1.ext hEw1)).ext hEw2)).chg hCw3 (fun hs => by have h : _ = _ := hs; omega))).ext hEw4)).ext hEw5)).chg hCw6 (fun hs => by have h : _ = _ := hs; omega))).ext hEw7)).ext hEw8)).chg hCw9 (fun hs => by have h : _ = _ := hs; omega))).ext hEw10)).ext hEw11)).ext hEw12)).chg hCw13 (fun hs => by have h : _ = _ := hs; omega))).ext hEw14)).ext hEw15)).ext hEw16)).ext hEw17)).ext hEl)).ext hEm)
      have hK4 := (((((((((((((((((((((((((((((((((((((hg2.ext hEw1)).ext hEw2)).chg hCw3 (fun hs => by have h : _ = _ := hs; omega))).ext hEw4)).ext hEw5)).chg hCw6 (fun hs => by have h : _ = _ := hs; omega))).ext hEw7)).ext hEw8)).chg hCw9 (fun hs => by have h : _ = _ := hs; omega))).ext hEw10)).ext hEw11)).ext hEw12)).chg hCw13 (fun hs => by have h : _ = _ := hs; omega))).ext hEw14)).ext hEw15)).ext hEw16)).ext hEw17)).ext hEl)).ext hEm)
      refine wpF_step (op_call (some 85) (c_Fresh (gt ([1, 5, 17, 65, 257, 1025]) i) _ ((hvi (by omega)).1) ((hvi (by omega)).2) hK2 hK3 hK4) ?_)
      rintro _ w20 ⟨rfl, hEw20⟩
      have hzw20 := hEw20.size
      refine wpF_run 3 [(87, (vI 0)), (86, (vA (celC (freC (gt ([1, 5, 17, 65, 257, 1025]) i))))), (80, (.tuple #[(vA (celC (freC (gt ([1, 5, 17, 65, 257, 1025]) i)))), (vI 0)]))] (wpF_step (op_new (some 12) (Instr.alloc 30 true (.tuple #[])) (vP w20.heap.size 0) (celC Cel.zero) 30 ?_))
      intro w21 hBw21 hEw21
      have hzw21 := hEw21.size; have hlw21 := hBw21.lt
      refine wpF_step (op_store 30 w20.heap.size 0 30 (vA (celC (freC (gt ([1, 5, 17, 65, 257, 1025]) i)))) (celC Cel.zero) (celC (freC (gt ([1, 5, 17, 65, 257, 1025]) i))) hBw21 (by rw [celC_len]; kernel_rfl) (by first | (simp; done) | (simp; omega)) (celC_one _) ?_)
      intro w22 hBw22 hCw22
      have hzw22 := hCw22.size
      rw [setFrom_all _ _ (by simp)] at hBw22
      refine wpF_run 1 [(13, (vI 0))] (wpF_end (then_code (wpC_seq (wpC_region (wpF_run 2 [(90, (vI k)), (89, (.slice (pA w16.heap.size 0) 6 6))] (wpF_step (op_v (some 91) (Instr.indexAt 56 (.slice (pA w16.heap.size 0) 6 6) (vI k)) (vP w16.heap.size (0 + k * 1)) (rn_ixs (E := 3) (sz := 1) (by omega)) ?_)))))))
      have hK5 := (((((((((hSw17.ext hEl)).ext hEm)).ext hEw20)).ext hEw21)).chg hCw22 (fun k h1 h2 hs => by have h : k = _ := hs; omega))
      refine wpF_step (op_v (some 92) (Instr.loadAt 3 (vP w16.heap.size (0 + k * 1))) (vI (gt ([1, 5, 17, 65, 257, 1025]) k)) (rn_ld (hK5.celln (by omega))) ?_)
      have hK6 := (((((hK2.ext hEw20)).ext hEw21)).chg hCw22 (fun hs => by have h : _ = _ := hs; omega))
      have hK7 := (((((hK3.ext hEw20)).ext hEw21)).chg hCw22 (fun hs => by have h : _ = _ := hs; omega))
      have hK8 := (((((hK4.ext hEw20)).ext hEw21)).chg hCw22 (fun hs => by have h : _ = _ := hs; omega))
      refine wpF_step (op_call (some 93) (c_Fresh (gt ([1, 5, 17, 65, 257, 1025]) k) _ ((hvk (by omega)).1) ((hvk (by omega)).2) hK6 hK7 hK8) ?_)
      rintro _ w23 ⟨rfl, hEw23⟩
      have hzw23 := hEw23.size
      refine wpF_run 3 [(95, (vI 0)), (94, (vA (celC (freC (gt ([1, 5, 17, 65, 257, 1025]) k))))), (88, (.tuple #[(vA (celC (freC (gt ([1, 5, 17, 65, 257, 1025]) k)))), (vI 0)]))] (wpF_step (op_new (some 14) (Instr.alloc 30 true (.tuple #[])) (vP w23.heap.size 0) (celC Cel.zero) 30 ?_))
      intro w24 hBw24 hEw24
      have hzw24 := hEw24.size; have hlw24 := hBw24.lt
      refine wpF_step (op_store 30 w23.heap.size 0 30 (vA (celC (freC (gt ([1, 5, 17, 65, 257, 1025]) k)))) (celC Cel.zero) (celC (freC (gt ([1, 5, 17, 65, 257, 1025]) k))) hBw24 (by rw [celC_len]; kernel_rfl) (by first | (simp; done) | (simp; omega)) (celC_one _) ?_)
      intro w25 hBw25 hCw25
      have hzw25 := hCw25.size
      rw [setFrom_all _ _ (by simp)] at hBw25
      refine wpF_run 1 [(15, (vI 0))] (wpF_end (then_code (wpC_seq (wpC_drawM (Ext w25.drew) 22 [(97, 8192, 0), (98, 32768, 0), (99, 237684487542793012780631851008, 3), (100, 316912650057057350374175801344, 4), (101, 633825300114114700748351602688, 8), (102, 1267650600228229401496703209472, 16), (103, 1267650600228229401496703205888, 16), (104, 1267650600228229401496703206400, 16), (105, 16479457802966982219457141669888, 208), (106, 21550060203879899825443954491392, 272), (107, 41832469807531570249391205777408, 528), (108, 84932590215291369900279114760192, 1072), (109, 163526927429441592793074713493504, 2064), (110, 324518553658426726783156020576256, 5120), (111, 649037107316853453566312041168896, 8192), (112, 649037107316853453566312041153024, 8192), (113, 649037107316853453566312041154560, 8192), (114, 8437482395119094896362056534982656, 106496), (115, 11033630824386508710627304699592704, 139264), (116, 21418224541456163967688297358032896, 270336), (117, 43485486190229181388942906757218304, 548864), (118, 83725786843874095510054253308674048, 1056768)] (fun hT217 => ?_)))))
      have hEw26 : Ext w25 w25.drew := Ext.drew w25
      generalize w25.drew = w26 at hEw26 ⊢
      have hzw26 := hEw26.size
      refine anyM_run hT217 [(0, 96, (vI 0)), (1, 97, (vI 0))] 2 3 (anyM_take hT217 2 7 (some 98) (vI 0) (yld_in .i64 (IntKind.i64.wrap (((0 : Nat) : Int) + ((0 : Nat) : Int))) (wrapS (by omega) (by omega) (by omega))) (anyM_run hT217 [(3, 99, vF), (4, 100, vF)] 2 31 ?_))
      have hK9 := (((((((hBw22.ext hEw23)).ext hEw24)).chg hCw25 (fun hs => by have h : _ = _ := hs; omega))).ext hEw26)
      refine anyM_take hT217 5 63 (some 101) (vA (celC (freC (gt ([1, 5, 17, 65, 257, 1025]) i)))) (yld_val (Instr.loadAt 30 (vP w20.heap.size 0)) (fun w' hC => rn_lda (vs := celC (freC (gt ([1, 5, 17, 65, 257, 1025]) i))) ((hK9.ext hC).all) (by rw [celC_len]; kernel_rfl))) (anyM_run hT217 [(6, 102, (.slice (pA w16.heap.size 0) 6 6)), (7, 103, (vI i))] 2 255 (anyM_take hT217 8 511 (some 104) (vP w16.heap.size (0 + i * 1)) (yld_val (Instr.indexAt 56 (.slice (pA w16.heap.size 0) 6 6) (vI i)) (fun w' hC => rn_ixs (E := 3) (sz := 1) (by omega))) ?_))
      have hK10 := (((((((hK5.ext hEw23)).ext hEw24)).chg hCw25 (fun k h1 h2 hs => by have h : k = _ := hs; omega))).ext hEw26)
      refine anyM_take hT217 9 1023 (some 105) (vI (gt ([1, 5, 17, 65, 257, 1025]) i)) (yld_val (Instr.loadAt 3 (vP w16.heap.size (0 + i * 1))) (fun w' hC => rn_ld ((hK10.ext hC).celln (by omega)))) (anyM_one 10 2047 (op_call (some 106) (c_rFresh (gt ([1, 5, 17, 65, 257, 1025]) i) _ ((hvi (by omega)).1) ((hvi (by omega)).2)) ?_))
      rintro _ w27 ⟨rfl, hEw27⟩
      have hzw27 := hEw27.size
      refine ⟨.inr hEw27, ?_⟩
      refine anyM_take (hw := show Ext w26 w27 from hEw27) hT217 11 4095 (some 107) vF (yld_val (bo .neq 30 (.tmp 101) (.tmp 106) (vA (celC (freC (gt ([1, 5, 17, 65, 257, 1025]) i)))) (vA (celC (freC (gt ([1, 5, 17, 65, 257, 1025]) i))))) (fun w' hC => run_neqAgg (r := true) (T := 30) ((run_eq_cel (dd := 9997) (t := 30) (td := 27) (e := 5) (t64 := 28) (freC (gt ([1, 5, 17, 65, 257, 1025]) i)) (freC (gt ([1, 5, 17, 65, 257, 1025]) i))).trans (congrArg (fun b => Result.ok b _) (show ((freC (gt ([1, 5, 17, 65, 257, 1025]) i)).eqb (freC (gt ([1, 5, 17, 65, 257, 1025]) i))) = true from cel_eqb_self _))))) (anyM_run (hw := show Ext w26 w27 from hEw27) hT217 [(12, 108, vF), (13, 109, vF)] 2 16383 (anyM_take (hw := show Ext w26 w27 from hEw27) hT217 14 32767 (some 110) (vA (celC (freC (gt ([1, 5, 17, 65, 257, 1025]) k)))) (yld_val (Instr.loadAt 30 (vP w23.heap.size 0)) (fun w' hC => rn_lda (vs := celC (freC (gt ([1, 5, 17, 65, 257, 1025]) k))) (((hBw25.ext hEw26).ext hC).all) (by rw [celC_len]; kernel_rfl))) (anyM_run (hw := show Ext w26 w27 from hEw27) hT217 [(15, 111, (.slice (pA w16.heap.size 0) 6 6)), (16, 112, (vI k))] 2 131071 (anyM_take (hw := show Ext w26 w27 from hEw27) hT217 17 262143 (some 113) (vP w16.heap.size (0 + k * 1)) (yld_val (Instr.indexAt 56 (.slice (pA w16.heap.size 0) 6 6) (vI k)) (fun w' hC => rn_ixs (E := 3) (sz := 1) (by omega))) (anyM_take (hw := show Ext w26 w27 from hEw27) hT217 18 524287 (some 114) (vI (gt ([1, 5, 17, 65, 257, 1025]) k)) (yld_val (Instr.loadAt 3 (vP w16.heap.size (0 + k * 1))) (fun w' hC => rn_ld ((hK10.ext hC).celln (by omega)))) ?_)))))
      refine anyM_one 19 1048575 (op_call (some 115) (c_rFresh (gt ([1, 5, 17, 65, 257, 1025]) k) _ ((hvk (by omega)).1) ((hvk (by omega)).2)) ?_)
      rintro _ w28 ⟨rfl, hEw28⟩
      have hzw28 := hEw28.size
      refine ⟨.inr (hEw27.trans hEw28), ?_⟩
      refine anyM_take (hw := show Ext w26 w28 from (hEw27.trans hEw28)) hT217 20 2097151 (some 116) vF (yld_val (bo .neq 30 (.tmp 110) (.tmp 115) (vA (celC (freC (gt ([1, 5, 17, 65, 257, 1025]) k)))) (vA (celC (freC (gt ([1, 5, 17, 65, 257, 1025]) k))))) (fun w' hC => run_neqAgg (r := true) (T := 30) ((run_eq_cel (dd := 9997) (t := 30) (td := 27) (e := 5) (t64 := 28) (freC (gt ([1, 5, 17, 65, 257, 1025]) k)) (freC (gt ([1, 5, 17, 65, 257, 1025]) k))).trans (congrArg (fun b => Result.ok b _) (show ((freC (gt ([1, 5, 17, 65, 257, 1025]) k)).eqb (freC (gt ([1, 5, 17, 65, 257, 1025]) k))) = true from cel_eqb_self _))))) (anyM_run (hw := show Ext w26 w28 from (hEw27.trans hEw28)) hT217 [(21, 117, vF)] 1 4194303 (anyM_done (then_code (wpC_false (wpC_skip (inBlock_normal (then_code (wpC_region (wpF_run 1 [(78, (vI k))] ?_)))))))))
      refine wpF_step (op_in (some 79) .i64 (IntKind.i64.wrap (((k : Nat) : Int) + ((1 : Nat) : Int))) (k + 1) (wrapS (by omega) (by omega) (by omega)) ?_)
      refine wpF_run 1 [(11, (vI (k + 1)))] (wpF_end (then_normal ?_))
      have hX1 : Ext w18 w28 := ((((Ext.own (((Ext.own ((hEm.trans hEw20).trans hEw21) hCw22 (by omega)).trans hEw23).trans hEw24) hCw25 (by omega)).trans hEw26).trans hEw27).trans hEw28)
      refine endR_mk (k + 1) ?_ ?_
      · exact ⟨by omega, hX1⟩
      · first | omega | (dsimp only; omega)
    · replace hc77 : ¬ (k < i) := by have := of_d_f hc77; omega
      refine wpF_end (then_code (wpC_false (wpC_exit (then_exit (then_exit (inBlock_exit (inBlock_normal (then_code (wpC_region ?_)))))))))
      refine wpF_run 1 [(73, (vI i))] (wpF_step (op_in (some 74) .i64 (IntKind.i64.wrap (((i : Nat) : Int) + ((1 : Nat) : Int))) (i + 1) (wrapS (by omega) (by omega) (by omega)) ?_))
      refine wpF_run 1 [(10, (vI (i + 1)))] (wpF_end (then_normal (endR_mk (i + 1) ?_ ?_)))
      · exact ⟨by omega, (hEl.trans hEm)⟩
      · first | omega | (dsimp only; omega)
  · replace hc72 : ¬ (i < 6) := by have := of_d_f hc72; omega
    refine wpF_end (then_code (wpC_false (wpC_exit (then_exit (then_exit (inBlock_exit (then_code (wpC_seq (wpC_region ?_)))))))))
    have hK11 := (((((((((((((((((((((((((((((((((((hg0.ext hEw1)).ext hEw2)).chg hCw3 (fun hs => by have h : _ = _ := hs; omega))).ext hEw4)).ext hEw5)).chg hCw6 (fun hs => by have h : _ = _ := hs; omega))).ext hEw7)).ext hEw8)).chg hCw9 (fun hs => by have h : _ = _ := hs; omega))).ext hEw10)).ext hEw11)).ext hEw12)).chg hCw13 (fun hs => by have h : _ = _ := hs; omega))).ext hEw14)).ext hEw15)).ext hEw16)).ext hEw17)).ext hEl)
    have hK12 := (((((((((((((((((((((((((((((((((((hg1.ext hEw1)).ext hEw2)).chg hCw3 (fun hs => by have h : _ = _ := hs; omega))).ext hEw4)).ext hEw5)).chg hCw6 (fun hs => by have h : _ = _ := hs; omega))).ext hEw7)).ext hEw8)).chg hCw9 (fun hs => by have h : _ = _ := hs; omega))).ext hEw10)).ext hEw11)).ext hEw12)).chg hCw13 (fun hs => by have h : _ = _ := hs; omega))).ext hEw14)).ext hEw15)).ext hEw16)).ext hEw17)).ext hEl)
    have hK13 := (((((((((((((((((((((((((((((((((((hg2.ext hEw1)).ext hEw2)).chg hCw3 (fun hs => by have h : _ = _ := hs; omega))).ext hEw4)).ext hEw5)).chg hCw6 (fun hs => by have h : _ = _ := hs; omega))).ext hEw7)).ext hEw8)).chg hCw9 (fun hs => by have h : _ = _ := hs; omega))).ext hEw10)).ext hEw11)).ext hEw12)).chg hCw13 (fun hs => by have h : _ = _ := hs; omega))).ext hEw14)).ext hEw15)).ext hEw16)).ext hEw17)).ext hEl)
    refine wpF_step (op_call (some 119) (c_Fresh 4 _ (by decide) (by decide) hK11 hK12 hK13) ?_)
    rintro _ w29 ⟨rfl, hEw29⟩
    have hzw29 := hEw29.size
    refine wpF_run 3 [(121, (vI 0)), (120, (vA (celC (freC 4)))), (118, (.tuple #[(vA (celC (freC 4))), (vI 0)]))] (wpF_step (op_new (some 16) (Instr.alloc 30 true (.tuple #[])) (vP w29.heap.size 0) (celC Cel.zero) 30 ?_))
    intro w30 hBw30 hEw30
    have hzw30 := hEw30.size; have hlw30 := hBw30.lt
    refine wpF_step (op_store 30 w29.heap.size 0 30 (vA (celC (freC 4))) (celC Cel.zero) (celC (freC 4)) hBw30 (by rw [celC_len]; kernel_rfl) (by first | (simp; done) | (simp; omega)) (celC_one _) ?_)
    intro w31 hBw31 hCw31
    have hzw31 := hCw31.size
    rw [setFrom_all _ _ (by simp)] at hBw31
    refine wpF_run 1 [(17, (vI 0))] (wpF_end (then_code (wpC_seq (wpC_region ?_))))
    have hK14 := (((((hK11.ext hEw29)).ext hEw30)).chg hCw31 (fun hs => by have h : _ = _ := hs; omega))
    have hK15 := (((((hK12.ext hEw29)).ext hEw30)).chg hCw31 (fun hs => by have h : _ = _ := hs; omega))
    have hK16 := (((((hK13.ext hEw29)).ext hEw30)).chg hCw31 (fun hs => by have h : _ = _ := hs; omega))
    refine wpF_step (op_call (some 123) (c_Fresh 1 _ (by decide) (by decide) hK14 hK15 hK16) ?_)
    rintro _ w32 ⟨rfl, hEw32⟩
    have hzw32 := hEw32.size
    refine wpF_run 3 [(125, (vI 0)), (124, (vA (celC (freC 1)))), (122, (.tuple #[(vA (celC (freC 1))), (vI 0)]))] (wpF_step (op_new (some 18) (Instr.alloc 30 true (.tuple #[])) (vP w32.heap.size 0) (celC Cel.zero) 30 ?_))
    intro w33 hBw33 hEw33
    have hzw33 := hEw33.size; have hlw33 := hBw33.lt
    refine wpF_step (op_store 30 w32.heap.size 0 30 (vA (celC (freC 1))) (celC Cel.zero) (celC (freC 1)) hBw33 (by rw [celC_len]; kernel_rfl) (by first | (simp; done) | (simp; omega)) (celC_one _) ?_)
    intro w34 hBw34 hCw34
    have hzw34 := hCw34.size
    rw [setFrom_all _ _ (by simp)] at hBw34
    refine wpF_run 1 [(19, (vI 0))] (wpF_end (then_code (wpC_seq (wpC_region ?_))))
    have hK17 := (((((hBw31.ext hEw32)).ext hEw33)).chg hCw34 (fun hs => by have h : _ = _ := hs; omega))
    refine wpF_step (op_v (some 126) (Instr.loadAt 30 (vP w29.heap.size 0)) (vA (celC (freC 4))) (rn_lda (vs := celC (freC 4)) (hK17.all) (by rw [celC_len]; kernel_rfl)) ?_)
    refine wpF_step (op_v (some 127) (Instr.loadAt 30 (vP w32.heap.size 0)) (vA (celC (freC 1))) (rn_lda (vs := celC (freC 1)) (hBw34.all) (by rw [celC_len]; kernel_rfl)) ?_)
    refine wpF_step (op_v (some 128) (bo .eql 30 (.tmp 126) (.tmp 127) (vA (celC (freC 4))) (vA (celC (freC 1)))) vT (run_eqlAgg (r := true) (T := 30) ((run_eq_cel (dd := 9997) (t := 30) (td := 27) (e := 5) (t64 := 28) (freC 4) (freC 1)).trans (congrArg (fun b => Result.ok b _) (show ((freC 4).eqb (freC 1)) = true from cel_eq (freC_congr rfl))))) ?_)
    refine wpF_run 3 [(131, (vA [(vB 0), (vB 0)])), (130, (vA [(vH 0), (.slice none 0 0)])), (129, vT)] ?_
    have hK18 := (((((hK14.ext hEw32)).ext hEw33)).chg hCw34 (fun hs => by have h : _ = _ := hs; omega))
    have hK19 := (((((hK15.ext hEw32)).ext hEw33)).chg hCw34 (fun hs => by have h : _ = _ := hs; omega))
    have hK20 := (((((hK16.ext hEw32)).ext hEw33)).chg hCw34 (fun hs => by have h : _ = _ := hs; omega))
    refine wpF_step (op_call (some 132) (c_CellsSound 0 0 0 _ (Ms.nil b2C 0 0 _ (by simp)) (by decide) (by decide) (by decide) hK18 hK19 hK20) ?_)
    rintro _ w35 ⟨rfl, hEw35⟩
    have hzw35 := hEw35.size
    refine wpF_run 2 [(134, vT), (133, vT)] (wpF_step (op_call (some 135) (c_lives15 _ (hK18.ext hEw35) (hK19.ext hEw35) (hK20.ext hEw35)) ?_))
    rintro _ w36 ⟨rfl, hEw36⟩
    have hzw36 := hEw36.size
    refine wpF_run 2 [(0, vT), (136, vT)] (wpF_end (then_code (wpC_ret (body_rets vT ?_))))
    have hX2 : Ext w w36 := (((Ext.own (((Ext.own ((((((((Ext.own ((((Ext.own (((Ext.own (((Ext.own (hEw1.trans hEw2) hCw3 (by omega)).trans hEw4).trans hEw5) hCw6 (by omega)).trans hEw7).trans hEw8) hCw9 (by omega)).trans hEw10).trans hEw11).trans hEw12) hCw13 (by omega)).trans hEw14).trans hEw15).trans hEw16).trans hEw17).trans hEl).trans hEw29).trans hEw30) hCw31 (by omega)).trans hEw32).trans hEw33) hCw34 (by omega)).trans hEw35).trans hEw36)
    exact ⟨rfl, hX2⟩

end Go.Proofs.YthjplefmfjkhfaaDoor
