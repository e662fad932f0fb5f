/- CsH5: what each function does, by its own code. No condition beyond those of each statement. -/
import Derived.Test.YthjplefmfjkhfaaDoorCsH4
namespace Go.Proofs.YthjplefmfjkhfaaDoor
open Go Go.RowKit Go.Cs
set_option maxRecDepth 100000
set_option linter.all false
set_option linter.unusedVariables false

theorem c_rsum {lo_b hi_b : Nat} {a_b : Option Addr} {n_b c_b : Nat} {b : List UInt8}  (w : World) (h_b : Bs lo_b hi_b w a_b n_b c_b b) (hp0 : n_b ≤ 1099511627776) :
    Calls Tryd.prog 37 #[(.slice a_b n_b c_b)] w (Ret fun r w' => r = (vA (digC (shaD b))) ∧ Ext w w') := by
  refine calls_of (n := 69) (σ := [(0, (.slice a_b n_b c_b))]) Tryd.func37 rfl ?_
  replace h_b := h_b.now; have hle_b := h_b.le
  refine wpC_seq (wpC_region (wpF_step (op_new (some 2) (Instr.alloc 27 true (.tuple #[])) (vP w.heap.size 0) (digC Dig.zero) 27 ?_)))
  intro w1 hBw1 hEw1
  have hzw1 := hEw1.size; have hlw1 := hBw1.lt
  refine wpF_end (then_code (wpC_seq (wpC_region (wpF_step (op_new (some 11) (Instr.buildSlice 91 0 #[]) (.slice (pA w1.heap.size 0) 0 0) [] 5 ?_)))))
  intro w2 hBw2 hEw2
  have hzw2 := hEw2.size; have hlw2 := hBw2.lt
  have hSw2 : Bs w1.heap.size (w1.heap.size + 1) w2 (pA w1.heap.size 0) 0 0 [] := Bs.of_blk hBw2 (by kernel_rfl) rfl (Nat.le_refl _) (by decide) (Nat.le_refl _) (Nat.lt_succ_self _)
  refine wpF_run 1 [(12, (.slice a_b n_b c_b))] ?_
  have hO1 : Cs.Own u8v w1.heap.size (w1.heap.size + 1) w2 (pA w1.heap.size 0) 0 0 5 ([]) := Cs.Own.of_blk hBw2 (by simp) (by first | rfl | exact rfl) hSw2.len_eq (Nat.le_refl _) (by simp only [maxLen]; omega) (Nat.le_refl _) (Nat.lt_succ_self _)
  refine wpF_step (op_append (some 13) 91 91 5 1 (.int .u8 0) hO1 (((h_b.ext hEw1)).ext hEw2).es (fun _ => rfl) ?_)
  intro a1 c1 w3 hOw3 hCw3
  have hzw3 := hCw3.size
  have hSw3 := hOw3.bs
  refine wpF_step (op_new (some 14) (Instr.buildSlice 91 1 #[(0, (vB 128))]) (.slice (pA w3.heap.size 0) 1 1) [(vB 128)] 5 ?_)
  intro w4 hBw4 hEw4
  have hzw4 := hEw4.size; have hlw4 := hBw4.lt
  have hSw4 : Bs w3.heap.size (w3.heap.size + 1) w4 (pA w3.heap.size 0) 1 1 [128] := Bs.of_blk hBw4 (by kernel_rfl) rfl (Nat.le_refl _) (by decide) (Nat.le_refl _) (Nat.lt_succ_self _)
  refine wpF_step (op_append (some 15) 91 91 5 1 (.int .u8 0) (hOw3.ext hEw4) hSw4.es (fun _ => rfl) ?_)
  intro a2 c2 w5 hOw5 hCw5
  have hzw5 := hCw5.size
  have hSw5 := hOw5.bs
  refine wpF_run 1 [(3, (.slice a2 (0 + n_b + 1) c2))] (wpF_end (then_code (wpC_seq (wpC_block ?_))))
  have hK1 := (((((((hBw1.ext hEw2)).chg hCw3 (fun hs => by have hn := hO1.ne hs; omega))).ext hEw4)).chg hCw5 (fun hs => by have hn := (hOw3.ext hEw4).ne hs; omega))
  have hX1 : Ext w1 w5 := (Ext.ownS ((Ext.ownS hEw2 hCw3 (fun k hs hk => by have hn := hO1.ne hs; omega)).trans hEw4) hCw5 (fun k hs hk => by have hn := (hOw3.ext hEw4).ne hs; omega))
  refine wpC_loop (X := Nat × Option Addr × Nat) (fun ⟨z, p, cp⟩ => [(3, (.slice p (0 + n_b + 1 + z) cp))]) [16, 17, 18, 19, 20, 21, 22] (fun ⟨z, p, cp⟩ w6 => z ≤ padZ b.length ∧ Cs.Own u8v w1.heap.size w6.heap.size w6 p (0 + n_b + 1 + z) cp 5 (b ++ [128] ++ List.replicate z 0) ∧ Blk w6 w.heap.size (digC Dig.zero) 27 ∧ Ext w1 w6) (fun ⟨z, p, cp⟩ => padZ b.length - z) (0, a2, c2) (by kernel_rfl) ⟨Nat.zero_le _, by rw [List.replicate_zero, List.append_nil]; exact (hOw5).mono (by omega) (Nat.le_refl _), hK1, hX1⟩ ?_
  rintro ⟨z, p, cp⟩ dw6 w6 ⟨hz, hO, hB2, hEl⟩
  have hzl := hEl.size
  have hlen := h_b.len_eq
  have hl2 := hB2.lt
  have hle := hO.es.le
  have hpz : padZ b.length = (119 - b.length % 64) % 64 := rfl
  refine wpC_seq (wpC_seq (wpC_region (wpF_run 2 [(17, (vI (0 + n_b + 1 + z))), (16, (.slice p (0 + n_b + 1 + z) cp))] (wpF_step (op_in (some 18) .i64 (((0 + n_b + 1 + z : Nat) : Int).tmod ((64 : Nat) : Int)) ((0 + n_b + 1 + z) % 64) (tmodN _ _) ?_)))))
  refine wpF_step (op_split (some 19) (((((0 + n_b + 1 + z) % 64 : Nat) : Int) != ((56 : Nat) : Int))) (fun hc19 => ?_) (fun hc19 => ?_))
  · replace hc19 : ¬ ((0 + n_b + 1 + z) % 64 = 56) := by have := of_ne_t hc19; omega
    refine wpF_end (then_code (wpC_true (wpC_skip (then_code (wpC_block (wpC_region (wpF_run 1 [(20, (.slice p (0 + n_b + 1 + z) cp))] (wpF_step (op_new (some 21) (Instr.buildSlice 91 1 #[(0, (vB 0))]) (.slice (pA w6.heap.size 0) 1 1) [(vB 0)] 5 ?_)))))))))
    intro w7 hBw7 hEw7
    have hzw7 := hEw7.size; have hlw7 := hBw7.lt
    have hSw7 : Bs w6.heap.size (w6.heap.size + 1) w7 (pA w6.heap.size 0) 1 1 [0] := Bs.of_blk hBw7 (by kernel_rfl) rfl (Nat.le_refl _) (by decide) (Nat.le_refl _) (Nat.lt_succ_self _)
    refine wpF_step (op_append (some 22) 91 91 5 1 (.int .u8 0) (hO.ext hEw7) hSw7.es (fun _ => rfl) ?_)
    intro a3 c3 w8 hOw8 hCw8
    have hzw8 := hCw8.size
    have hSw8 := hOw8.bs
    refine wpF_run 1 [(3, (.slice a3 (0 + n_b + 1 + z + 1) c3))] (wpF_end (inBlock_normal (then_normal (endR_mk (z + 1, a3, c3) ?_ ?_))))
    · exact ⟨by omega, by have hz := hOw8; rw [List.append_assoc] at hz; rw [List.replicate_succ']; exact hz, (((hB2.ext hEw7)).chg hCw8 (fun hs => by have hn := (hO.ext hEw7).ne hs; omega)), (Ext.ownS (hEl.trans hEw7) hCw8 (fun k hs hk => by have hn := (hO.ext hEw7).ne hs; omega))⟩
    · first | omega | (dsimp only; omega)
  · replace hc19 : (0 + n_b + 1 + z) % 64 = 56 := by have := of_ne_f hc19; omega
    refine wpF_end (then_code (wpC_false (wpC_exit (then_exit (then_exit (inBlock_exit (then_code (wpC_seq (wpC_region ?_)))))))))
    refine wpF_run 3 [(25, (vI n_b)), (24, (.slice a_b n_b c_b)), (23, (.slice p (0 + n_b + 1 + z) cp))] (wpF_step (op_in (some 26) .u64 (IntKind.u64.wrap ((n_b : Nat) : Int)) n_b (wrapUx rfl rfl (by show _ < 2 ^ 64; omega)) ?_))
    refine wpF_step (op_in (some 27) .u64 (IntKind.u64.wrap (((8 : Nat) : Int) * ((n_b : Nat) : Int))) ((8 * n_b) % 2 ^ 64) (wrapU rfl (by simp)) ?_)
    refine wpF_step (op_call (some 28) (c_rPut64 ((8 * n_b) % 2 ^ 64) _ (Nat.mod_lt _ (by decide))) ?_)
    rintro _ w9 ⟨a4, rfl, hFz1_0, hFz1_1, hFz1_2, hFz1_3, hEw9⟩
    have hzw9 := hEw9.size
    have hla4 := hFz1_1.lt; have hna4 := hFz1_3
    have hSa4 : Bs a4 (a4 + 1) w9 (pA a4 0) 8 8 (be ((8 * n_b) % 2 ^ 64) 8) := Bs.of_blk hFz1_1 rfl hFz1_2 (Nat.le_refl _) (le_maxLen hna4) (Nat.le_refl _) (Nat.lt_succ_self _)
    refine wpF_step (op_append (some 29) 91 91 5 1 (.int .u8 0) (hO.ext hEw9) hSa4.es (fun _ => rfl) ?_)
    intro a5 c4 w10 hOw10 hCw10
    have hzw10 := hCw10.size
    have hSw10 := hOw10.bs
    refine wpF_run 1 [(3, (.slice a5 (0 + n_b + 1 + z + 8) c4))] (wpF_end (then_code (wpC_seq (wpC_region (wpF_step (op_call (some 31) (c_rConst _) ?_))))))
    rintro _ w11 ⟨rfl, hEw11⟩
    have hzw11 := hEw11.size
    refine wpF_run 3 [(33, (vA (w8C iniA))), (32, (vA (w64C kA))), (30, (.tuple #[(vA (w64C kA)), (vA (w8C iniA))]))] (wpF_step (op_new (some 4) (Instr.alloc 118 true (.tuple #[])) (vP w11.heap.size 0) (w64C (WA.zero 64)) 118 ?_))
    intro w12 hBw12 hEw12
    have hzw12 := hEw12.size; have hlw12 := hBw12.lt
    refine wpF_step (op_new (some 5) (Instr.alloc 111 true (.tuple #[])) (vP w12.heap.size 0) (w8C (WA.zero 8)) 111 ?_)
    intro w13 hBw13 hEw13
    have hzw13 := hEw13.size; have hlw13 := hBw13.lt
    refine wpF_step (op_store 118 w11.heap.size 0 118 (vA (w64C kA)) (w64C (WA.zero 64)) (w64C kA) (hBw12.ext hEw13) (by rw [w64C_len]; kernel_rfl) (by first | (simp; done) | (simp; omega)) (w64C_one _) ?_)
    intro w14 hBw14 hCw14
    have hzw14 := hCw14.size
    rw [setFrom_all _ _ (by simp)] at hBw14
    refine wpF_step (op_store 111 w12.heap.size 0 111 (vA (w8C iniA)) (w8C (WA.zero 8)) (w8C iniA) ((hBw13).chg hCw14 (fun hs => by have h : _ = _ := hs; omega)) (by rw [w8C_len]; kernel_rfl) (by first | (simp; done) | (simp; omega)) (w8C_one _) ?_)
    intro w15 hBw15 hCw15
    have hzw15 := hCw15.size
    rw [setFrom_all _ _ (by simp)] at hBw15
    refine wpF_end (then_code (wpC_seq (wpC_seq (wpC_region (wpF_run 1 [(6, (vI 0))] (wpF_end (then_code (wpC_block ?_))))))))
    obtain rfl : z = padZ b.length := by omega
    have hK2 := (((((((((hSw10.ext hEw11)).ext hEw12)).ext hEw13)).chg hCw14 (fun k h1 h2 hs => by have h : k = _ := hs; omega))).chg hCw15 (fun k h1 h2 hs => by have h : k = _ := hs; omega))
    have hSp : Bs w1.heap.size w10.heap.size w15 a5 (0 + n_b + 1 + (padZ b.length) + 8) c4 (padB b) := by have hq := hK2; rw [padB_of hlen rfl] at hq; exact hq
    have hpl : (padB b).length = 0 + n_b + 1 + (padZ b.length) + 8 := hSp.len_eq.symm
    have hp64 := padB_len b
    have hK3 := (((((((((((((hB2.ext hEw9)).chg hCw10 (fun hs => by have hn := (hO.ext hEw9).ne hs; omega))).ext hEw11)).ext hEw12)).ext hEw13)).chg hCw14 (fun hs => by have h : _ = _ := hs; omega))).chg hCw15 (fun hs => by have h : _ = _ := hs; omega))
    have hX2 : Ext w1 w15 := (Ext.own (Ext.own ((((Ext.ownS (hEl.trans hEw9) hCw10 (fun k hs hk => by have hn := (hO.ext hEw9).ne hs; omega)).trans hEw11).trans hEw12).trans hEw13) hCw14 (by omega)) hCw15 (by omega))
    refine wpC_loop (X := Nat) (fun k => [(6, (vI (64 * k)))]) [34, 35, 36, 37, 38, 39, 40, 41, 42, 43, 44, 45, 46] (fun k w16 => k ≤ (padB b).length / 64 ∧ Bs w1.heap.size w10.heap.size w16 a5 (0 + n_b + 1 + (padZ b.length) + 8) c4 (padB b) ∧ Blk w16 w12.heap.size (w8C (shaH (padB b) k)) 111 ∧ Blk w16 w.heap.size (digC Dig.zero) 27 ∧ Ext w1 w16) (fun k => (padB b).length / 64 - k) 0 (by kernel_rfl) ⟨Nat.zero_le _, hSp, hBw15, hK3, hX2⟩ ?_
    rintro k dw16 w16 ⟨hk, hSk, hB5, hB2b, hEm⟩
    have hzm := hEm.size
    have hl5 := hB5.lt; have hl2b := hB2b.lt
    have hlk := hSk.le
    refine wpC_seq (wpC_seq (wpC_region (wpF_run 3 [(36, (vI (0 + n_b + 1 + (padZ b.length) + 8))), (35, (.slice a5 (0 + n_b + 1 + (padZ b.length) + 8) c4)), (34, (vI (64 * k)))] (wpF_step (op_split (some 37) (decide (((64 * k : Nat) : Int) < ((0 + n_b + 1 + (padZ b.length) + 8 : Nat) : Int))) (fun hc37 => ?_) (fun hc37 => ?_))))))
    · replace hc37 : 64 * k < 0 + n_b + 1 + (padZ b.length) + 8 := by have := of_d_t hc37; omega
      refine wpF_end (then_code (wpC_true (wpC_skip (then_code (wpC_seq (wpC_block (wpC_drawM (Chg (fun k => k = w12.heap.size) w16.drew) 8 [(41, 32, 0), (42, 8, 0), (43, 64, 0), (44, 64, 0), (45, 8796093022208, 8), (46, 24189255811072, 22), (47, 36283883716608, 33), (0, 70368744177696, 127)] (fun hT155 => ?_))))))))
      have hEw17 : Ext w16 w16.drew := Ext.drew w16
      generalize w16.drew = w17 at hEw17 ⊢
      have hzw17 := hEw17.size
      refine anyM_run (hw := show Chg (fun k => k = w12.heap.size) w17 w17 from (Chg.refl (fun k => k = w12.heap.size) w17)) hT155 [(1, 41, (.slice a5 (0 + n_b + 1 + (padZ b.length) + 8) c4)), (2, 42, (vI (64 * k))), (3, 43, (vI (64 * k)))] 3 14 (anyM_take (hw := show Chg (fun k => k = w12.heap.size) w17 w17 from (Chg.refl (fun k => k = w12.heap.size) w17)) hT155 4 30 (some 44) (vI (64 * k + 64)) (yld_in .i64 (IntKind.i64.wrap (((64 * k : Nat) : Int) + ((64 : Nat) : Int))) (wrapS (by omega) (by omega) (by omega))) ?_)
      obtain ⟨a6, hR1, hS1⟩ := (hSk.ext hEw17).slice Tryd.prog 91 5 (64 * k) (64 * k + 64) c4 (some (vI (64 * k))) (some (vI (64 * k + 64))) none
      refine anyM_take (hw := show Chg (fun k => k = w12.heap.size) w17 w17 from (Chg.refl (fun k => k = w12.heap.size) w17)) hT155 5 62 (some 45) (.slice a6 (64 * k + 64 - (64 * k)) (c4 - (64 * k))) (yld_val (Instr.sliceAt 91 (.slice a5 (0 + n_b + 1 + (padZ b.length) + 8) c4) (some (vI (64 * k))) (some (vI (64 * k + 64))) none) (fun w' hC => hR1 _)) (anyM_one 0 63 (op_v (some 40) (Instr.loadAt 111 (vP w12.heap.size 0)) (vA (w8C (shaH (padB b) k))) (rn_lda (vs := w8C (shaH (padB b) k)) ((hB5.ext hEw17).all) (by rw [w8C_len]; kernel_rfl)) ?_))
      refine ⟨.inr (Chg.refl (fun k => k = w12.heap.size) w17), ?_⟩
      refine anyM_one 6 127 (op_call (some 46) (c_rcmpr (shaH (padB b) k) _ hS1 (by first | omega | decide)) ?_)
      rintro _ w18 ⟨rfl, hEw18⟩
      have hzw18 := hEw18.size
      refine ⟨.inr ((Chg.refl (fun k => k = w12.heap.size) w17).trans hEw18.chg), ?_⟩
      refine anyM_one 7 255 (op_store 111 w12.heap.size 0 111 (vA (w8C (cmpr (shaH (padB b) k) (((padB b).drop (64 * k)).take (64 * k + 64 - (64 * k)))))) (w8C (shaH (padB b) k)) (w8C (cmpr (shaH (padB b) k) (((padB b).drop (64 * k)).take (64 * k + 64 - (64 * k))))) (((hB5.ext hEw17)).ext hEw18) (by rw [w8C_len]; kernel_rfl) (by first | (simp; done) | (simp; omega)) (w8C_one _) ?_)
      intro w19 hBw19 hCw19
      have hzw19 := hCw19.size
      rw [setFrom_all _ _ (by simp)] at hBw19
      refine ⟨.inl (by kernel_rfl), ?_⟩
      refine anyM_done (inBlock_normal (then_code (wpC_region (wpF_run 1 [(38, (vI (64 * k)))] (wpF_step (op_in (some 39) .i64 (IntKind.i64.wrap (((64 * k : Nat) : Int) + ((64 : Nat) : Int))) (64 * k + 64) (wrapS (by omega) (by omega) (by omega)) ?_))))))
      refine wpF_run 1 [(6, (vI (64 * k + 64)))] (wpF_end (then_normal ?_))
      have hK4 := (((((hSk.ext hEw17)).ext hEw18)).chg hCw19 (fun k h1 h2 hs => by have h : k = _ := hs; omega))
      have hK5 := (((((hB2b.ext hEw17)).ext hEw18)).chg hCw19 (fun hs => by have h : _ = _ := hs; omega))
      have hX3 : Ext w1 w19 := (Ext.own ((hEm.trans hEw17).trans hEw18) hCw19 (by omega))
      refine endR_mk (k + 1) ?_ ?_
      · exact ⟨by omega, hK4, by have hz := hBw19; rw [show 64 * k + 64 - (64 * k) = 64 from by omega] at hz; exact hz, hK5, hX3⟩
      · first | omega | (dsimp only; omega)
    · replace hc37 : ¬ (64 * k < 0 + n_b + 1 + (padZ b.length) + 8) := by have := of_d_f hc37; omega
      refine wpF_end (then_code (wpC_false (wpC_exit (then_exit (then_exit (inBlock_exit (then_code (wpC_seq (wpC_region ?_)))))))))
      refine wpF_step (op_new (some 7) (Instr.alloc 27 true (.tuple #[])) (vP w16.heap.size 0) (digC Dig.zero) 27 ?_)
      intro w20 hBw20 hEw20
      have hzw20 := hEw20.size; have hlw20 := hBw20.lt
      refine wpF_end (then_code (wpC_seq (wpC_seq (wpC_region (wpF_run 1 [(8, (vI 0))] (wpF_end (then_code (wpC_block ?_))))))))
      obtain rfl : k = (padB b).length / 64 := by omega
      obtain ⟨H, hH⟩ : ∃ H, H = shaH (padB b) ((padB b).length / 64) := ⟨_, rfl⟩
      have hBH : Blk w20 w12.heap.size (w8C H) 111 := by rw [hH]; exact (hB5.ext hEw20)
      refine wpC_loop (X := Nat) (fun i => [(8, (vI i))]) [9, 10, 47, 48, 49, 50, 51, 52, 53, 54, 55, 56, 57, 58, 59, 60, 61, 62, 63, 64, 65, 66, 67] (fun i w21 => i ≤ 8 ∧ Blk w21 w12.heap.size (w8C H) 111 ∧ Blk w21 w16.heap.size (u8s (dgP H i)) 27 ∧ Blk w21 w.heap.size (digC Dig.zero) 27 ∧ Ext w1 w21) (fun i => 8 - i) 0 (by kernel_rfl) ⟨by omega, hBH, (dgP_zero H).symm ▸ hBw20, (hB2b.ext hEw20), (hEm.trans hEw20)⟩ ?_
      rintro i dw21 w21 ⟨hi, hBh, hBd, hB2c, hEn⟩
      have hzn := hEn.size
      have hlh := hBh.lt; have hld := hBd.lt; have hl2c := hB2c.lt
      have hdl := dgP_len H hi
      refine wpC_seq (wpC_seq (wpC_region (wpF_run 1 [(47, (vI i))] (wpF_step (op_split (some 48) (decide (((i : Nat) : Int) < ((8 : Nat) : Int))) (fun hc48 => ?_) (fun hc48 => ?_))))))
      · replace hc48 : i < 8 := by have := of_d_t hc48; omega
        refine wpF_end (then_code (wpC_true (wpC_skip (then_code (wpC_seq (wpC_block (wpC_seq (wpC_region (wpF_run 1 [(51, (vI i))] ?_)))))))))
        refine wpF_step (op_v (some 52) (Instr.indexAt 111 (vP w12.heap.size 0) (vI i)) (vP w12.heap.size (0 + i * 1)) (rn_ixa (E := 68) (sz := 1) (m := 8) (by omega)) ?_)
        refine wpF_step (op_v (some 53) (Instr.loadAt 68 (vP w12.heap.size (0 + i * 1))) (vW ((H.get i).toNat)) (rn_ld (hBh.cell (w8_cell i (by omega)))) ?_)
        refine wpF_step (op_call (some 54) (c_rPut32 ((H.get i).toNat) _ (UInt32.toNat_lt _)) ?_)
        rintro _ w22 ⟨a7, rfl, hFz4_0, hFz4_1, hFz4_2, hFz4_3, hEw22⟩
        have hzw22 := hEw22.size
        have hla7 := hFz4_1.lt; have hna7 := hFz4_3
        have hSa7 : Bs a7 (a7 + 1) w22 (pA a7 0) 4 4 (be ((H.get i).toNat) 4) := Bs.of_blk hFz4_1 rfl hFz4_2 (Nat.le_refl _) (le_maxLen hna7) (Nat.le_refl _) (Nat.lt_succ_self _)
        refine wpF_run 1 [(9, (.slice (pA a7 0) 4 4))] (wpF_end (then_code (wpC_seq (wpC_region (wpF_run 1 [(10, (vI 0))] (wpF_end (then_code (wpC_block (wpC_loop (X := Nat) (fun j => [(10, (vI j))]) [55, 56, 57, 58, 59, 60, 61, 62, 63, 64, 65, 66, 67] (fun j w23 => j ≤ 4 ∧ Blk w23 w16.heap.size (u8s (dgQ H i j)) 27 ∧ Chg (fun q => q = w16.heap.size) w22 w23) (fun j => 4 - j) 0 (by kernel_rfl) ⟨by omega, by rw [dgQ_zero]; exact (hBd.ext hEw22), Chg.refl _ _⟩ ?_)))))))))
        rintro j dw23 w23 ⟨hj, hBq, hCj⟩
        have hzj := hCj.size
        refine wpC_seq (wpC_seq (wpC_region (wpF_run 1 [(55, (vI j))] (wpF_step (op_split (some 56) (decide (((j : Nat) : Int) < ((4 : Nat) : Int))) (fun hc56 => ?_) (fun hc56 => ?_))))))
        · replace hc56 : j < 4 := by have := of_d_t hc56; omega
          refine wpF_end (then_code (wpC_true (wpC_skip (then_code (wpC_seq (wpC_block (wpC_region (wpF_run 1 [(59, (vI i))] (wpF_step (op_in (some 60) .i64 (IntKind.i64.wrap (((4 : Nat) : Int) * ((i : Nat) : Int))) (4 * i) (wrapS (by omega) (by omega) (by omega)) ?_))))))))))
          refine wpF_run 1 [(61, (vI j))] (wpF_step (op_in (some 62) .i64 (IntKind.i64.wrap (((4 * i : Nat) : Int) + ((j : Nat) : Int))) (4 * i + j) (wrapS (by omega) (by omega) (by omega)) ?_))
          refine wpF_run 2 [(64, (vI j)), (63, (.slice (pA a7 0) 4 4))] (wpF_step (op_v (some 65) (Instr.indexAt 91 (.slice (pA a7 0) 4 4) (vI j)) (vP a7 (0 + j * 1)) (rn_ixs (E := 5) (sz := 1) (by omega)) ?_))
          refine wpF_step (op_v (some 66) (Instr.loadAt 5 (vP a7 (0 + j * 1))) (vB (byt (be ((H.get i).toNat) 4) j)) (rn_ld (((hSa7).chg hCj (fun k h1 h2 hs => by have h : k = _ := hs; omega)).cell1 (by omega))) ?_)
          refine wpF_step (op_v (some 67) (Instr.indexAt 27 (vP w16.heap.size 0) (vI (4 * i + j))) (vP w16.heap.size (0 + (4 * i + j) * 1)) (rn_ixa (E := 5) (sz := 1) (m := 32) (by omega)) ?_)
          refine wpF_step (op_store1 5 w16.heap.size (0 + (4 * i + j) * 1) 27 (vB (byt (be ((H.get i).toNat) 4) j)) (u8s (dgQ H i j)) hBq (by rw [u8s_length, dgQ_len H (by omega) (by omega)]; omega) ?_)
          intro w24 hBw24 hCw24
          have hzw24 := hCw24.size
          rw [show ((u8s (dgQ H i j)).set (0 + (4 * i + j) * 1) (vB (byt (be ((H.get i).toNat) 4) j)) : List Value) = u8s (dgQ H i (j + 1)) from dgQ_set (by omega) (by omega)] at hBw24
          refine wpF_end (inBlock_normal (then_code (wpC_region (wpF_run 1 [(57, (vI j))] (wpF_step (op_in (some 58) .i64 (IntKind.i64.wrap (((j : Nat) : Int) + ((1 : Nat) : Int))) (j + 1) (wrapS (by omega) (by omega) (by omega)) ?_))))))
          refine wpF_run 1 [(10, (vI (j + 1)))] (wpF_end (then_normal (endR_mk (j + 1) ?_ ?_)))
          · exact ⟨by omega, hBw24, (Chg.then (Chg.then (Chg.refl (fun q => q = w16.heap.size) w22) hCj (fun k hk hs => by have h : k = _ := hs; first | exact hs | exact .inl h | exact .inr h | (exfalso; omega))) hCw24 (fun k hk hs => by have h : k = _ := hs; first | exact hs | exact .inl h | exact .inr h | (exfalso; omega)))⟩
          · first | omega | (dsimp only; omega)
        · replace hc56 : ¬ (j < 4) := by have := of_d_f hc56; omega
          refine wpF_end (then_code (wpC_false (wpC_exit (then_exit (then_exit (inBlock_exit (inBlock_normal (then_code (wpC_region ?_)))))))))
          refine wpF_run 1 [(49, (vI i))] (wpF_step (op_in (some 50) .i64 (IntKind.i64.wrap (((i : Nat) : Int) + ((1 : Nat) : Int))) (i + 1) (wrapS (by omega) (by omega) (by omega)) ?_))
          refine wpF_run 1 [(8, (vI (i + 1)))] (wpF_end (then_normal (endR_mk (i + 1) ?_ ?_)))
          · exact ⟨by omega, (((hBh.ext hEw22)).chg hCj (fun hs => by have h : _ = _ := hs; omega)), by have hz := hBq; rw [show j = 4 from by omega, dgQ_four] at hz; exact hz, (((hB2c.ext hEw22)).chg hCj (fun hs => by have h : _ = _ := hs; omega)), (Ext.own (hEn.trans hEw22) hCj (by omega))⟩
          · first | omega | (dsimp only; omega)
      · replace hc48 : ¬ (i < 8) := by have := of_d_f hc48; omega
        refine wpF_end (then_code (wpC_false (wpC_exit (then_exit (then_exit (inBlock_exit (then_code (wpC_seq (wpC_region ?_)))))))))
        obtain rfl : i = 8 := by omega
        have hBe : Blk w21 w16.heap.size (digC (shaD b)) 27 := by have hq := hBd; rw [hH, dgP_all] at hq; exact hq
        refine wpF_step (op_v (some 68) (Instr.loadAt 27 (vP w16.heap.size 0)) (vA (digC (shaD b))) (rn_lda (vs := digC (shaD b)) hBe.all (by rw [digC_len]; kernel_rfl)) ?_)
        refine wpF_step (op_store 27 w.heap.size 0 27 (vA (digC (shaD b))) (digC Dig.zero) (digC (shaD b)) hB2c (by rw [digC_len]; kernel_rfl) (by first | (simp; done) | (simp; omega)) (digC_one _) ?_)
        intro w25 hBw25 hCw25
        have hzw25 := hCw25.size
        rw [setFrom_all _ _ (by simp)] at hBw25
        exact wpF_end (then_code (wpC_ret (body_ret1 (show resVal Tryd.prog 69 _ _ (.cell 2 27) (vA (digC (shaD b))) from ⟨⟨w.heap.size, 0, none⟩, (by kernel_rfl), run_loadVar_agg (T := 27) (vs := digC (shaD b)) (hBw25).all (by rw [digC_len]; kernel_rfl)⟩) (⟨rfl, (Ext.own (hEw1.trans hEn) hCw25 (by omega))⟩))))

end Go.Proofs.YthjplefmfjkhfaaDoor
