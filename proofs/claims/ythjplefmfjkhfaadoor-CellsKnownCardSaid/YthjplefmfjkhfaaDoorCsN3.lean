/- CsN3: what each function does, by its own code. No condition beyond those of each statement. -/
import Derived.Test.YthjplefmfjkhfaaDoorCsN2
namespace Go.Proofs.YthjplefmfjkhfaaDoor
open Go Go.RowKit Go.Cs
set_option maxRecDepth 100000
set_option linter.all false
set_option linter.unusedVariables false

theorem c_rNBytes0 (x : Nod)  (w : World) (hp0 : x.lv = 0) :
    Calls Tryd.prog 38 #[(vA (nodC x))] w (Ret fun r w' => ∃ a0 ca0, r = (.slice a0 185 ca0) ∧ Es u8v w.heap.size w'.heap.size w' a0 185 ca0 (nodB x) ∧ Ext w w') := by
  refine calls_of (n := 45) (σ := [(0, (vA (nodC x)))]) Tryd.func38 rfl ?_
  have hlvx := x.hlv
  have hixx := x.hix
  refine wpC_seq (wpC_region (wpF_step (op_new (some 1) (Instr.box 78 (vA (nodC x))) (vP w.heap.size 0) (nodC x) 78 ?_)))
  intro w1 hBw1 hEw1
  have hzw1 := hEw1.size; have hlw1 := hBw1.lt
  refine wpF_run 1 [(2, (.slice none 0 0))] (wpF_end (then_code (wpC_seq (wpC_region (wpF_run 1 [(5, (vP w.heap.size 0))] (wpF_step (op_v (some 6) (Instr.loadAt 5 (vP w.heap.size 0)) (vB x.lv) (rn_ld (hBw1.cell rfl)) ?_)))))))
  refine wpF_run 1 [(7, (vP w.heap.size 1))] (wpF_step (op_v (some 8) (Instr.loadAt 68 (vP w.heap.size 1)) (vW x.ix) (rn_ld (hBw1.cell rfl)) ?_))
  refine wpF_step (op_in (some 9) .u32 (((x.ix : Nat) : Int).fdiv (2 ^ 24)) (x.ix / 256 ^ 3) (fdivN _ _) ?_)
  refine wpF_step (op_in (some 10) .u8 (IntKind.u8.wrap ((x.ix / 256 ^ 3 : Nat) : Int)) ((x.ix / 256 ^ 3) % 2 ^ 8) (wrapU rfl rfl) ?_)
  refine wpF_run 1 [(11, (vP w.heap.size 1))] (wpF_step (op_v (some 12) (Instr.loadAt 68 (vP w.heap.size 1)) (vW x.ix) (rn_ld (hBw1.cell rfl)) ?_))
  refine wpF_step (op_in (some 13) .u32 (((x.ix : Nat) : Int).fdiv (2 ^ 16)) (x.ix / 256 ^ 2) (fdivN _ _) ?_)
  refine wpF_step (op_in (some 14) .u8 (IntKind.u8.wrap ((x.ix / 256 ^ 2 : Nat) : Int)) ((x.ix / 256 ^ 2) % 2 ^ 8) (wrapU rfl rfl) ?_)
  refine wpF_run 1 [(15, (vP w.heap.size 1))] (wpF_step (op_v (some 16) (Instr.loadAt 68 (vP w.heap.size 1)) (vW x.ix) (rn_ld (hBw1.cell rfl)) ?_))
  refine wpF_step (op_in (some 17) .u32 (((x.ix : Nat) : Int).fdiv (2 ^ 8)) (x.ix / 256 ^ 1) (fdivN _ _) ?_)
  refine wpF_step (op_in (some 18) .u8 (IntKind.u8.wrap ((x.ix / 256 ^ 1 : Nat) : Int)) ((x.ix / 256 ^ 1) % 2 ^ 8) (wrapU rfl rfl) ?_)
  refine wpF_run 1 [(19, (vP w.heap.size 1))] (wpF_step (op_v (some 20) (Instr.loadAt 68 (vP w.heap.size 1)) (vW x.ix) (rn_ld (hBw1.cell rfl)) ?_))
  refine wpF_step (op_in (some 21) .u8 (IntKind.u8.wrap ((x.ix : Nat) : Int)) (x.ix % 2 ^ 8) (wrapU rfl rfl) ?_)
  refine wpF_step (op_new (some 22) (Instr.buildSlice 91 5 #[(0, (vB x.lv)), (1, (vB ((x.ix / 256 ^ 3) % 2 ^ 8))), (2, (vB ((x.ix / 256 ^ 2) % 2 ^ 8))), (3, (vB ((x.ix / 256 ^ 1) % 2 ^ 8))), (4, (vB (x.ix % 2 ^ 8)))]) (.slice (pA w1.heap.size 0) 5 5) [(vB x.lv), (vB ((x.ix / 256 ^ 3) % 2 ^ 8)), (vB ((x.ix / 256 ^ 2) % 2 ^ 8)), (vB ((x.ix / 256 ^ 1) % 2 ^ 8)), (vB (x.ix % 2 ^ 8))] 5 ?_)
  intro w2 hBw2 hEw2
  have hzw2 := hEw2.size; have hlw2 := hBw2.lt
  have hSw2 : Bs w1.heap.size (w1.heap.size + 1) w2 (pA w1.heap.size 0) 5 5 [UInt8.ofNat x.lv, UInt8.ofNat ((x.ix / 256 ^ 3) % 2 ^ 8), UInt8.ofNat ((x.ix / 256 ^ 2) % 2 ^ 8), UInt8.ofNat ((x.ix / 256 ^ 1) % 2 ^ 8), UInt8.ofNat (x.ix % 2 ^ 8)] := Bs.of_blk hBw2 (hed_cells x) rfl (Nat.le_refl _) (by decide) (Nat.le_refl _) (Nat.lt_succ_self _)
  refine wpF_run 1 [(3, (.slice (pA w1.heap.size 0) 5 5))] (wpF_end (then_code (wpC_seq (wpC_seq (wpC_region (wpF_run 1 [(4, (vI 0))] (wpF_end (then_code (wpC_block ?_)))))))))
  have hO1 : Cs.Own u8v w1.heap.size (w1.heap.size + 1) w2 (pA w1.heap.size 0) 5 5 5 ([UInt8.ofNat x.lv, UInt8.ofNat ((x.ix / 256 ^ 3) % 2 ^ 8), UInt8.ofNat ((x.ix / 256 ^ 2) % 2 ^ 8), UInt8.ofNat ((x.ix / 256 ^ 1) % 2 ^ 8), UInt8.ofNat (x.ix % 2 ^ 8)]) := Cs.Own.of_blk hBw2 (by simp) (by first | rfl | exact (hed_cells x)) hSw2.len_eq (Nat.le_refl _) (by simp only [maxLen]; omega) (Nat.le_refl _) (Nat.lt_succ_self _)
  refine wpC_loop (X := Nat × Option Addr × Nat) (fun ⟨i, p, cp⟩ => [(3, (.slice p (5 + 45 * i) cp)), (4, (vI i))]) [23, 24, 25, 26, 27, 28, 29, 30, 31, 32, 33, 34, 35, 36, 37, 38, 39, 40, 41, 42, 43] (fun ⟨i, p, cp⟩ w3 => i ≤ 4 ∧ Cs.Own u8v w1.heap.size w3.heap.size w3 p (5 + 45 * i) cp 5 (hedB x ++ catA recB x.rs.get i) ∧ Ext w1 w3) (fun ⟨i, p, cp⟩ => 4 - i) (0, (pA w1.heap.size 0), 5) (by kernel_rfl) ⟨by omega, by have hz := (hO1).now; rw [hed_l] at hz; rw [catA, List.append_nil]; exact hz.mono (by omega) (Nat.le_refl _), hEw2⟩ ?_
  rintro ⟨i, p, cp⟩ dw3 w3 ⟨hi, hO, hEl⟩
  have hzl := hEl.size
  have hle := hO.es.le
  refine wpC_seq (wpC_seq (wpC_region (wpF_run 1 [(23, (vI i))] (wpF_step (op_split (some 24) (decide (((i : Nat) : Int) < ((4 : Nat) : Int))) (fun hc24 => ?_) (fun hc24 => ?_))))))
  · replace hc24 : i < 4 := by have := of_d_t hc24; omega
    refine wpF_end (then_code (wpC_true (wpC_skip (then_code (wpC_seq (wpC_block (wpC_seq (wpC_region (wpF_run 1 [(27, (vP w.heap.size 0))] ?_)))))))))
    refine wpF_step (op_v (some 28) (Instr.loadAt 5 (vP w.heap.size 0)) (vB x.lv) (rn_ld ((hBw1.ext hEl).cell rfl)) ?_)
    refine wpF_step (op_b (some 29) (((x.lv : Nat) : Int) == ((0 : Nat) : Int)) true (cmpEqT (by omega)) ?_)
    refine wpF_end (then_code (wpC_true (wpC_region (wpF_run 3 [(32, (vP w.heap.size 2)), (31, (vI i)), (30, (.slice p (5 + 45 * i) cp))] (wpF_step (op_v (some 33) (Instr.indexAt 73 (vP w.heap.size 2) (vI i)) (vP w.heap.size (2 + i * 35)) (rn_ixa (E := 72) (sz := 35) (m := 4) (by omega)) ?_))))))
    refine wpF_step (op_v (some 34) (Instr.loadAt 72 (vP w.heap.size (2 + i * 35))) (vA (recC (x.rs.get i))) (rn_lda (vs := recC (x.rs.get i)) ((hBw1.ext hEl).at (2 + i * 35) (recC (x.rs.get i)) (nod_r (by omega))) (by rw [recC_len]; kernel_rfl)) ?_)
    refine wpF_step (op_call (some 35) (c_rRecord (x.rs.get i) _) ?_)
    rintro _ w4 ⟨a1, ca1, rfl, hFz1_0, hEw4⟩
    have hzw4 := hEw4.size
    have hlea1 := hFz1_0.le
    have hba1 := hFz1_0.bs
    refine wpF_step (op_append (some 36) 91 91 5 1 (.int .u8 0) (hO.ext hEw4) hba1.es (fun _ => rfl) ?_)
    intro a2 c1 w5 hOw5 hCw5
    have hzw5 := hCw5.size
    have hSw5 := hOw5.bs
    refine wpF_run 1 [(3, (.slice a2 (5 + 45 * i + 45) c1))] (wpF_end (inBlock_normal (then_code (wpC_region (wpF_run 1 [(25, (vI i))] (wpF_step (op_in (some 26) .i64 (IntKind.i64.wrap (((i : Nat) : Int) + ((1 : Nat) : Int))) (i + 1) (wrapS (by omega) (by omega) (by omega)) ?_)))))))
    refine wpF_run 1 [(4, (vI (i + 1)))] (wpF_end (then_normal ?_))
    rw [show 5 + 45 * i + 45 = 5 + 45 * (i + 1) from by omega]
    refine endR_mk (i + 1, a2, c1) ?_ ?_
    · exact ⟨by omega, by have hz := hOw5; rw [List.append_assoc] at hz; exact (show 5 + 45 * i + 45 = 5 + 45 * (i + 1) from by omega) ▸ hz, (Ext.ownS (hEl.trans hEw4) hCw5 (fun k hs hk => by have hn := (hO.ext hEw4).ne hs; omega))⟩
    · first | omega | (dsimp only; omega)
  · replace hc24 : ¬ (i < 4) := by have := of_d_f hc24; omega
    refine wpF_end (then_code (wpC_false (wpC_exit (then_exit (then_exit (inBlock_exit (then_code (wpC_seq (wpC_region ?_)))))))))
    refine wpF_run 2 [(2, (.slice p (5 + 45 * i) cp)), (44, (.slice p (5 + 45 * i) cp))] (wpF_end (then_code (wpC_ret (body_rets (.slice p (5 + 45 * i) cp) ?_))))
    obtain rfl : i = 4 := by omega
    rw [show nodB x = hedB x ++ catA recB x.rs.get 4 from by unfold nodB; rw [if_pos hp0]]
    exact ⟨_, _, rfl, (hO).es.mono (by omega) (Nat.le_refl _), (hEw1.trans hEl)⟩

theorem c_rNBytes1 (x : Nod)  (w : World) (hp0 : ¬ x.lv = 0) :
    Calls Tryd.prog 38 #[(vA (nodC x))] w (Ret fun r w' => ∃ a0 ca0, r = (.slice a0 137 ca0) ∧ Es u8v w.heap.size w'.heap.size w' a0 137 ca0 (nodB x) ∧ Ext w w') := by
  refine calls_of (n := 45) (σ := [(0, (vA (nodC x)))]) Tryd.func38 rfl ?_
  have hlvx := x.hlv
  have hixx := x.hix
  refine wpC_seq (wpC_region (wpF_step (op_new (some 1) (Instr.box 78 (vA (nodC x))) (vP w.heap.size 0) (nodC x) 78 ?_)))
  intro w1 hBw1 hEw1
  have hzw1 := hEw1.size; have hlw1 := hBw1.lt
  refine wpF_run 1 [(2, (.slice none 0 0))] (wpF_end (then_code (wpC_seq (wpC_region (wpF_run 1 [(5, (vP w.heap.size 0))] (wpF_step (op_v (some 6) (Instr.loadAt 5 (vP w.heap.size 0)) (vB x.lv) (rn_ld (hBw1.cell rfl)) ?_)))))))
  refine wpF_run 1 [(7, (vP w.heap.size 1))] (wpF_step (op_v (some 8) (Instr.loadAt 68 (vP w.heap.size 1)) (vW x.ix) (rn_ld (hBw1.cell rfl)) ?_))
  refine wpF_step (op_in (some 9) .u32 (((x.ix : Nat) : Int).fdiv (2 ^ 24)) (x.ix / 256 ^ 3) (fdivN _ _) ?_)
  refine wpF_step (op_in (some 10) .u8 (IntKind.u8.wrap ((x.ix / 256 ^ 3 : Nat) : Int)) ((x.ix / 256 ^ 3) % 2 ^ 8) (wrapU rfl rfl) ?_)
  refine wpF_run 1 [(11, (vP w.heap.size 1))] (wpF_step (op_v (some 12) (Instr.loadAt 68 (vP w.heap.size 1)) (vW x.ix) (rn_ld (hBw1.cell rfl)) ?_))
  refine wpF_step (op_in (some 13) .u32 (((x.ix : Nat) : Int).fdiv (2 ^ 16)) (x.ix / 256 ^ 2) (fdivN _ _) ?_)
  refine wpF_step (op_in (some 14) .u8 (IntKind.u8.wrap ((x.ix / 256 ^ 2 : Nat) : Int)) ((x.ix / 256 ^ 2) % 2 ^ 8) (wrapU rfl rfl) ?_)
  refine wpF_run 1 [(15, (vP w.heap.size 1))] (wpF_step (op_v (some 16) (Instr.loadAt 68 (vP w.heap.size 1)) (vW x.ix) (rn_ld (hBw1.cell rfl)) ?_))
  refine wpF_step (op_in (some 17) .u32 (((x.ix : Nat) : Int).fdiv (2 ^ 8)) (x.ix / 256 ^ 1) (fdivN _ _) ?_)
  refine wpF_step (op_in (some 18) .u8 (IntKind.u8.wrap ((x.ix / 256 ^ 1 : Nat) : Int)) ((x.ix / 256 ^ 1) % 2 ^ 8) (wrapU rfl rfl) ?_)
  refine wpF_run 1 [(19, (vP w.heap.size 1))] (wpF_step (op_v (some 20) (Instr.loadAt 68 (vP w.heap.size 1)) (vW x.ix) (rn_ld (hBw1.cell rfl)) ?_))
  refine wpF_step (op_in (some 21) .u8 (IntKind.u8.wrap ((x.ix : Nat) : Int)) (x.ix % 2 ^ 8) (wrapU rfl rfl) ?_)
  refine wpF_step (op_new (some 22) (Instr.buildSlice 91 5 #[(0, (vB x.lv)), (1, (vB ((x.ix / 256 ^ 3) % 2 ^ 8))), (2, (vB ((x.ix / 256 ^ 2) % 2 ^ 8))), (3, (vB ((x.ix / 256 ^ 1) % 2 ^ 8))), (4, (vB (x.ix % 2 ^ 8)))]) (.slice (pA w1.heap.size 0) 5 5) [(vB x.lv), (vB ((x.ix / 256 ^ 3) % 2 ^ 8)), (vB ((x.ix / 256 ^ 2) % 2 ^ 8)), (vB ((x.ix / 256 ^ 1) % 2 ^ 8)), (vB (x.ix % 2 ^ 8))] 5 ?_)
  intro w2 hBw2 hEw2
  have hzw2 := hEw2.size; have hlw2 := hBw2.lt
  have hSw2 : Bs w1.heap.size (w1.heap.size + 1) w2 (pA w1.heap.size 0) 5 5 [UInt8.ofNat x.lv, UInt8.ofNat ((x.ix / 256 ^ 3) % 2 ^ 8), UInt8.ofNat ((x.ix / 256 ^ 2) % 2 ^ 8), UInt8.ofNat ((x.ix / 256 ^ 1) % 2 ^ 8), UInt8.ofNat (x.ix % 2 ^ 8)] := Bs.of_blk hBw2 (hed_cells x) rfl (Nat.le_refl _) (by decide) (Nat.le_refl _) (Nat.lt_succ_self _)
  refine wpF_run 1 [(3, (.slice (pA w1.heap.size 0) 5 5))] (wpF_end (then_code (wpC_seq (wpC_seq (wpC_region (wpF_run 1 [(4, (vI 0))] (wpF_end (then_code (wpC_block ?_)))))))))
  have hO1 : Cs.Own u8v w1.heap.size (w1.heap.size + 1) w2 (pA w1.heap.size 0) 5 5 5 ([UInt8.ofNat x.lv, UInt8.ofNat ((x.ix / 256 ^ 3) % 2 ^ 8), UInt8.ofNat ((x.ix / 256 ^ 2) % 2 ^ 8), UInt8.ofNat ((x.ix / 256 ^ 1) % 2 ^ 8), UInt8.ofNat (x.ix % 2 ^ 8)]) := Cs.Own.of_blk hBw2 (by simp) (by first | rfl | exact (hed_cells x)) hSw2.len_eq (Nat.le_refl _) (by simp only [maxLen]; omega) (Nat.le_refl _) (Nat.lt_succ_self _)
  refine wpC_loop (X := Nat × Option Addr × Nat) (fun ⟨i, p, cp⟩ => [(3, (.slice p (5 + 33 * i) cp)), (4, (vI i))]) [23, 24, 25, 26, 27, 28, 29, 30, 31, 32, 33, 34, 35, 36, 37, 38, 39, 40, 41, 42, 43] (fun ⟨i, p, cp⟩ w3 => i ≤ 4 ∧ Cs.Own u8v w1.heap.size w3.heap.size w3 p (5 + 33 * i) cp 5 (hedB x ++ catA entB x.es.get i) ∧ Ext w1 w3) (fun ⟨i, p, cp⟩ => 4 - i) (0, (pA w1.heap.size 0), 5) (by kernel_rfl) ⟨by omega, by have hz := (hO1).now; rw [hed_l] at hz; rw [catA, List.append_nil]; exact hz.mono (by omega) (Nat.le_refl _), hEw2⟩ ?_
  rintro ⟨i, p, cp⟩ dw3 w3 ⟨hi, hO, hEl⟩
  have hzl := hEl.size
  have hle := hO.es.le
  refine wpC_seq (wpC_seq (wpC_region (wpF_run 1 [(23, (vI i))] (wpF_step (op_split (some 24) (decide (((i : Nat) : Int) < ((4 : Nat) : Int))) (fun hc24 => ?_) (fun hc24 => ?_))))))
  · replace hc24 : i < 4 := by have := of_d_t hc24; omega
    refine wpF_end (then_code (wpC_true (wpC_skip (then_code (wpC_seq (wpC_block (wpC_seq (wpC_region (wpF_run 1 [(27, (vP w.heap.size 0))] ?_)))))))))
    refine wpF_step (op_v (some 28) (Instr.loadAt 5 (vP w.heap.size 0)) (vB x.lv) (rn_ld ((hBw1.ext hEl).cell rfl)) ?_)
    refine wpF_step (op_b (some 29) (((x.lv : Nat) : Int) == ((0 : Nat) : Int)) false (cmpEqF (by omega)) ?_)
    refine wpF_end (then_code (wpC_false (wpC_region (wpF_run 3 [(39, (vP w.heap.size 142)), (38, (vI i)), (37, (.slice p (5 + 33 * i) cp))] (wpF_step (op_v (some 40) (Instr.indexAt 76 (vP w.heap.size 142) (vI i)) (vP w.heap.size (142 + i * 33)) (rn_ixa (E := 75) (sz := 33) (m := 4) (by omega)) ?_))))))
    refine wpF_step (op_v (some 41) (Instr.loadAt 75 (vP w.heap.size (142 + i * 33))) (vA (entC (x.es.get i))) (rn_lda (vs := entC (x.es.get i)) ((hBw1.ext hEl).at (142 + i * 33) (entC (x.es.get i)) (nod_e (by omega))) (by rw [entC_len]; kernel_rfl)) ?_)
    refine wpF_step (op_call (some 42) (c_rEntry (x.es.get i) _) ?_)
    rintro _ w4 ⟨a1, ca1, rfl, hFz1_0, hEw4⟩
    have hzw4 := hEw4.size
    have hlea1 := hFz1_0.le
    have hba1 := hFz1_0.bs
    refine wpF_step (op_append (some 43) 91 91 5 1 (.int .u8 0) (hO.ext hEw4) hba1.es (fun _ => rfl) ?_)
    intro a2 c1 w5 hOw5 hCw5
    have hzw5 := hCw5.size
    have hSw5 := hOw5.bs
    refine wpF_run 1 [(3, (.slice a2 (5 + 33 * i + 33) c1))] (wpF_end (inBlock_normal (then_code (wpC_region (wpF_run 1 [(25, (vI i))] (wpF_step (op_in (some 26) .i64 (IntKind.i64.wrap (((i : Nat) : Int) + ((1 : Nat) : Int))) (i + 1) (wrapS (by omega) (by omega) (by omega)) ?_)))))))
    refine wpF_run 1 [(4, (vI (i + 1)))] (wpF_end (then_normal ?_))
    rw [show 5 + 33 * i + 33 = 5 + 33 * (i + 1) from by omega]
    refine endR_mk (i + 1, a2, c1) ?_ ?_
    · exact ⟨by omega, by have hz := hOw5; rw [List.append_assoc] at hz; exact (show 5 + 33 * i + 33 = 5 + 33 * (i + 1) from by omega) ▸ hz, (Ext.ownS (hEl.trans hEw4) hCw5 (fun k hs hk => by have hn := (hO.ext hEw4).ne hs; omega))⟩
    · first | omega | (dsimp only; omega)
  · replace hc24 : ¬ (i < 4) := by have := of_d_f hc24; omega
    refine wpF_end (then_code (wpC_false (wpC_exit (then_exit (then_exit (inBlock_exit (then_code (wpC_seq (wpC_region ?_)))))))))
    refine wpF_run 2 [(2, (.slice p (5 + 33 * i) cp)), (44, (.slice p (5 + 33 * i) cp))] (wpF_end (then_code (wpC_ret (body_rets (.slice p (5 + 33 * i) cp) ?_))))
    obtain rfl : i = 4 := by omega
    rw [show nodB x = hedB x ++ catA entB x.es.get 4 from by unfold nodB; rw [if_neg hp0]]
    exact ⟨_, _, rfl, (hO).es.mono (by omega) (Nat.le_refl _), (hEw1.trans hEl)⟩

theorem c_rNBytes (x : Nod)  (w : World)  :
    Calls Tryd.prog 38 #[(vA (nodC x))] w (Ret fun r w' => ∃ a0 ca0, r = (.slice a0 (nodL x) ca0) ∧ Es u8v w.heap.size w'.heap.size w' a0 (nodL x) ca0 (nodB x) ∧ Ext w w') := by
  by_cases h : x.lv = 0
  · rw [show nodL x = 185 from if_pos h]; exact c_rNBytes0 x w h
  · rw [show nodL x = 137 from if_neg h]; exact c_rNBytes1 x w h

end Go.Proofs.YthjplefmfjkhfaaDoor
