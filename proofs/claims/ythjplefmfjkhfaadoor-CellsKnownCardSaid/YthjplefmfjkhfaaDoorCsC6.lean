/- CsC6: what each function does, by its own code. No condition beyond those of each statement. -/
import Derived.Test.YthjplefmfjkhfaaDoorCsC4
namespace Go.Proofs.YthjplefmfjkhfaaDoor
open Go Go.RowKit Go.Cs
set_option maxRecDepth 100000
set_option linter.all false
set_option linter.unusedVariables false

theorem c_CellsSound (k : Nat) {lo_st hi_st : Nat} {a_st : Option Addr} {n_st c_st : Nat} {st : List (UInt8 × UInt8)} (x : Nat) (y : Nat)  (w : World) (h_st : Ms b2C 2 lo_st hi_st w a_st n_st c_st st) (hp0 : k < 65536) (hp1 : x < 256) (hp2 : y < 256) (hg0 : Gl 0 [vI 45, vI 33] w) (hg1 : Gl 1 (w8C iniA) w) (hg2 : Gl 2 (w64C kA) w) :
    Calls Tryd.prog 6 #[(vA [(vH k), (.slice a_st n_st c_st)]), (vA [(vB x), (vB y)])] w (Ret fun r w' => r = vT ∧ Ext w w') := by
  refine calls_of (n := 197) (σ := [(0, (vA [(vH k), (.slice a_st n_st c_st)])), (1, (vA [(vB x), (vB y)]))]) Tryd.func6 rfl ?_
  replace h_st := h_st.now; have hle_st := h_st.le
  have hgl0 := hg0.lt
  have hgl1 := hg1.lt
  have hgl2 := hg2.lt
  have hn1 : 1 ≤ nof k ∧ nof k ≤ 4096 := by unfold nof; omega
  have hlen := h_st.len_eq
  have hsn := lof_snd (n := nof k) (st := st) (k := min n_st 40) (by omega) (by omega)
  have hnf : noF (lof (nof k) st (min n_st 40)) (min n_st 40 + 1 - 1) := lof_noF (by omega) (by omega)
  have hc0 : (cel (lof (nof k) st (min n_st 40)) 0).ep = 0 := by rw [lof_first]; rfl
  have hcl := com_len hc0 hnf
  dsimp only [cel] at hcl
  have hlep := (cel (lof (nof k) st (min n_st 40)) (min n_st 40 + 1 - 1)).hep
  dsimp only [cel] at hlep
  have hle := com_le (lof (nof k) st (min n_st 40)) (min n_st 40 + 1 - 1)
  have hmx : x % (min n_st 40 + 1) < min n_st 40 + 1 := Nat.mod_lt _ (by omega)
  have hmy : y % (min n_st 40 + 1) < min n_st 40 + 1 := Nat.mod_lt _ (by omega)
  refine wpC_seq (wpC_region (wpF_step (op_new (some 2) (Instr.box 49 (vA [(vH k), (.slice a_st n_st c_st)])) (vP w.heap.size 0) ([(vH k), (.slice a_st n_st c_st)]) 49 ?_)))
  intro w1 hBw1 hEw1
  have hzw1 := hEw1.size; have hlw1 := hBw1.lt
  refine wpF_step (op_new (some 3) (Instr.box 50 (vA [(vB x), (vB y)])) (vP w1.heap.size 0) ([(vB x), (vB y)]) 50 ?_)
  intro w2 hBw2 hEw2
  have hzw2 := hEw2.size; have hlw2 := hBw2.lt
  refine wpF_run 1 [(4, vF)] (wpF_end (then_code (wpC_seq (wpC_region (wpF_step (op_v (some 18) (Instr.loadAt 49 (vP w.heap.size 0)) (vA [(vH k), (.slice a_st n_st c_st)]) (rn_lda (vs := [(vH k), (.slice a_st n_st c_st)]) ((hBw1.ext hEw2).all)) ?_))))))
  refine wpF_step (op_call (some 19) (c_LOf k _ (((h_st.ext hEw1)).ext hEw2) (by omega)) ?_)
  rintro _ w3 ⟨a1, ca1, rfl, hFz1_0, hEw3⟩
  have hzw3 := hEw3.size
  have hlea1 := hFz1_0.le
  refine wpF_run 5 [(6, (.slice a1 (min n_st 40 + 1) ca1)), (5, (vI (nof k))), (21, (.slice a1 (min n_st 40 + 1) ca1)), (20, (vI (nof k))), (17, (.tuple #[(vI (nof k)), (.slice a1 (min n_st 40 + 1) ca1)]))] (wpF_end (then_code (wpC_seq (wpC_region (wpF_run 2 [(24, (.slice a1 (min n_st 40 + 1) ca1)), (23, (vI (nof k)))] ?_)))))
  have hK1 := (((((hg0.ext hEw1)).ext hEw2)).ext hEw3)
  have hK2 := (((((hg1.ext hEw1)).ext hEw2)).ext hEw3)
  have hK3 := (((((hg2.ext hEw1)).ext hEw2)).ext hEw3)
  refine wpF_step (op_call (some 25) (c_Snd (nof k) _ hFz1_0 (by omega) (by omega) hK1 hK2 hK3) ?_)
  rintro _ w4 ⟨rfl, hEw4⟩
  have hzw4 := hEw4.size
  rw [show sndA (nof k) (lof (nof k) st (min n_st 40)) = 0 from hsn.1]
  rw [show sndE (nof k) (lof (nof k) st (min n_st 40)) = 0 from hsn.2]
  refine wpF_run 5 [(8, (vI 0)), (7, (vI 0)), (27, (vI 0)), (26, (vI 0)), (22, (.tuple #[(vI 0), (vI 0)]))] (wpF_end (then_code (wpC_seq (wpC_seq (wpC_region (wpF_run 6 [(33, vF), (32, vF), (31, (vI 0)), (30, vF), (29, vF), (28, (vI 0))] (wpF_end (then_code (wpC_false ?_)))))))))
  refine wpC_skip (then_code (wpC_seq (wpC_region (wpF_run 1 [(34, (.slice a1 (min n_st 40 + 1) ca1))] (wpF_step (op_call (some 35) (c_Commits _ (hFz1_0.ext hEw4) (by first | omega | decide)) ?_))))))
  rintro _ w5 ⟨a2, rfl, hFz3_0, hEw5⟩
  have hzw5 := hEw5.size
  have hlea2 := hFz3_0.le
  refine wpF_run 1 [(9, (.slice a2 ((com (lof (nof k) st (min n_st 40)) ((min n_st 40 + 1) - 1)).length) ((com (lof (nof k) st (min n_st 40)) ((min n_st 40 + 1) - 1)).length)))] (wpF_end (then_code (wpC_seq (wpC_seq (wpC_region (wpF_run 2 [(37, (vI ((com (lof (nof k) st (min n_st 40)) ((min n_st 40 + 1) - 1)).length))), (36, (.slice a2 ((com (lof (nof k) st (min n_st 40)) ((min n_st 40 + 1) - 1)).length) ((com (lof (nof k) st (min n_st 40)) ((min n_st 40 + 1) - 1)).length)))] (wpF_step (op_in (some 38) .u64 (IntKind.u64.wrap (((com (lof (nof k) st (min n_st 40)) ((min n_st 40 + 1) - 1)).length : Nat) : Int)) ((com (lof (nof k) st (min n_st 40)) ((min n_st 40 + 1) - 1)).length) (wrapUx rfl rfl (by show _ < 2 ^ 64; omega)) ?_))))))))
  refine wpF_run 3 [(41, (vI (min n_st 40 + 1))), (40, (.slice a1 (min n_st 40 + 1) ca1)), (39, (.slice a1 (min n_st 40 + 1) ca1))] (wpF_step (op_in (some 42) .i64 (IntKind.i64.wrap (((min n_st 40 + 1 : Nat) : Int) - ((1 : Nat) : Int))) (min n_st 40 + 1 - 1) (wrapS (by omega) (by omega) (by omega)) ?_))
  obtain ⟨b1, o1, rfl⟩ := hFz1_0.addr (by omega) (by decide)
  refine wpF_step (op_v (some 43) (Instr.indexAt 51 (.slice (pA b1 o1) (min n_st 40 + 1) ca1) (vI (min n_st 40 + 1 - 1))) (vP b1 (o1 + (min n_st 40 + 1 - 1) * 34)) (rn_ixs (E := 30) (sz := 34) (by omega)) ?_)
  refine wpF_run 1 [(44, (vP b1 (o1 + (min n_st 40 + 1 - 1) * 34 + 32)))] (wpF_step (op_v (some 45) (Instr.loadAt 28 (vP b1 (o1 + (min n_st 40 + 1 - 1) * 34 + 32))) (vQ (((lof (nof k) st (min n_st 40)).getD (min n_st 40 + 1 - 1) Cel.zero).ep)) (rn_ld ((((hFz1_0.ext hEw4)).ext hEw5).cell (j := 32) Cel.zero (by omega) (cel_ep _))) ?_))
  refine wpF_step (op_b (some 46) ((((com (lof (nof k) st (min n_st 40)) ((min n_st 40 + 1) - 1)).length : Nat) : Int) != ((((lof (nof k) st (min n_st 40)).getD (min n_st 40 + 1 - 1) Cel.zero).ep : Nat) : Int)) false (cmpNeF (by omega)) ?_)
  refine wpF_run 5 [(51, (vI ((com (lof (nof k) st (min n_st 40)) ((min n_st 40 + 1) - 1)).length))), (50, (.slice a2 ((com (lof (nof k) st (min n_st 40)) ((min n_st 40 + 1) - 1)).length) ((com (lof (nof k) st (min n_st 40)) ((min n_st 40 + 1) - 1)).length))), (49, (vI ((com (lof (nof k) st (min n_st 40)) ((min n_st 40 + 1) - 1)).length))), (48, (.slice a2 ((com (lof (nof k) st (min n_st 40)) ((min n_st 40 + 1) - 1)).length) ((com (lof (nof k) st (min n_st 40)) ((min n_st 40 + 1) - 1)).length))), (47, vF)] (wpF_step (op_b (some 52) ((((com (lof (nof k) st (min n_st 40)) ((min n_st 40 + 1) - 1)).length : Nat) : Int) != (((com (lof (nof k) st (min n_st 40)) ((min n_st 40 + 1) - 1)).length : Nat) : Int)) false (cmpNeF (by omega)) ?_))
  refine wpF_run 1 [(53, vF)] (wpF_end (then_code (wpC_false (wpC_skip (then_code (wpC_seq (wpC_seq (wpC_region (wpF_run 1 [(10, (vI 0))] ?_)))))))))
  refine wpF_end (then_code (wpC_block (wpC_loop (X := Nat) (fun t => [(10, (vI t))]) [4, 54, 55, 56, 57, 58, 59, 60, 61, 62, 63, 64, 65, 66, 67, 68, 69, 70, 71, 72, 73, 74, 75, 76, 77, 78, 79, 80, 81, 82, 83, 84, 85, 86, 87, 88, 89, 90, 91, 92, 93, 94, 95, 96, 97, 98, 99, 100, 101] (fun t w6 => t ≤ (com (lof (nof k) st (min n_st 40)) (min n_st 40 + 1 - 1)).length ∧ Ext w5 w6) (fun t => (com (lof (nof k) st (min n_st 40)) (min n_st 40 + 1 - 1)).length - t) 0 (by kernel_rfl) ⟨by omega, Ext.refl _⟩ ?_)))
  rintro t dw6 w6 ⟨ht, hEl⟩
  have hzl := hEl.size
  refine wpC_seq (wpC_seq (wpC_region (wpF_run 3 [(56, (vI ((com (lof (nof k) st (min n_st 40)) ((min n_st 40 + 1) - 1)).length))), (55, (.slice a2 ((com (lof (nof k) st (min n_st 40)) ((min n_st 40 + 1) - 1)).length) ((com (lof (nof k) st (min n_st 40)) ((min n_st 40 + 1) - 1)).length))), (54, (vI t))] (wpF_step (op_split (some 57) (decide (((t : Nat) : Int) < (((com (lof (nof k) st (min n_st 40)) ((min n_st 40 + 1) - 1)).length : Nat) : Int))) (fun hc57 => ?_) (fun hc57 => ?_))))))
  · replace hc57 : t < (com (lof (nof k) st (min n_st 40)) ((min n_st 40 + 1) - 1)).length := by have := of_d_t hc57; omega
    obtain ⟨g1, g2, g3, g4⟩ := com_at hc0 hnf t (by omega)
    dsimp only [cel] at g3 g4
    refine wpF_end (then_code (wpC_true (wpC_skip (then_code (wpC_seq (wpC_block (wpC_seq (wpC_region (wpF_run 2 [(61, (vI t)), (60, (.slice a2 ((com (lof (nof k) st (min n_st 40)) ((min n_st 40 + 1) - 1)).length) ((com (lof (nof k) st (min n_st 40)) ((min n_st 40 + 1) - 1)).length)))] ?_)))))))))
    obtain ⟨b2, o2, rfl⟩ := hFz3_0.addr (by omega)
    refine wpF_step (op_v (some 62) (Instr.indexAt 56 (.slice (pA b2 o2) ((com (lof (nof k) st (min n_st 40)) ((min n_st 40 + 1) - 1)).length) ((com (lof (nof k) st (min n_st 40)) ((min n_st 40 + 1) - 1)).length)) (vI t)) (vP b2 (o2 + t * 1)) (rn_ixs (E := 3) (sz := 1) (by omega)) ?_)
    refine wpF_step (op_v (some 63) (Instr.loadAt 3 (vP b2 (o2 + t * 1))) (vI (gt (com (lof (nof k) st (min n_st 40)) ((min n_st 40 + 1) - 1)) t)) (rn_ld ((hFz3_0.ext hEl).celln (by omega))) ?_)
    refine wpF_step (op_b (some 64) (decide (((gt (com (lof (nof k) st (min n_st 40)) ((min n_st 40 + 1) - 1)) t : Nat) : Int) < ((1 : Nat) : Int))) false (cmpDF (by omega)) ?_)
    refine wpF_run 3 [(67, (vI t)), (66, (.slice (pA b2 o2) ((com (lof (nof k) st (min n_st 40)) ((min n_st 40 + 1) - 1)).length) ((com (lof (nof k) st (min n_st 40)) ((min n_st 40 + 1) - 1)).length))), (65, vF)] (wpF_step (op_v (some 68) (Instr.indexAt 56 (.slice (pA b2 o2) ((com (lof (nof k) st (min n_st 40)) ((min n_st 40 + 1) - 1)).length) ((com (lof (nof k) st (min n_st 40)) ((min n_st 40 + 1) - 1)).length)) (vI t)) (vP b2 (o2 + t * 1)) (rn_ixs (E := 3) (sz := 1) (by omega)) ?_))
    refine wpF_step (op_v (some 69) (Instr.loadAt 3 (vP b2 (o2 + t * 1))) (vI (gt (com (lof (nof k) st (min n_st 40)) ((min n_st 40 + 1) - 1)) t)) (rn_ld ((hFz3_0.ext hEl).celln (by omega))) ?_)
    refine wpF_run 2 [(71, (vI (min n_st 40 + 1))), (70, (.slice (pA b1 o1) (min n_st 40 + 1) ca1))] (wpF_step (op_b (some 72) (decide (((gt (com (lof (nof k) st (min n_st 40)) ((min n_st 40 + 1) - 1)) t : Nat) : Int) ≥ ((min n_st 40 + 1 : Nat) : Int))) false (cmpDF (by omega)) ?_))
    refine wpF_run 5 [(77, (vI t)), (76, (.slice (pA b2 o2) ((com (lof (nof k) st (min n_st 40)) ((min n_st 40 + 1) - 1)).length) ((com (lof (nof k) st (min n_st 40)) ((min n_st 40 + 1) - 1)).length))), (75, (.slice (pA b1 o1) (min n_st 40 + 1) ca1)), (74, vF), (73, vF)] (wpF_step (op_v (some 78) (Instr.indexAt 56 (.slice (pA b2 o2) ((com (lof (nof k) st (min n_st 40)) ((min n_st 40 + 1) - 1)).length) ((com (lof (nof k) st (min n_st 40)) ((min n_st 40 + 1) - 1)).length)) (vI t)) (vP b2 (o2 + t * 1)) (rn_ixs (E := 3) (sz := 1) (by omega)) ?_))
    refine wpF_step (op_v (some 79) (Instr.loadAt 3 (vP b2 (o2 + t * 1))) (vI (gt (com (lof (nof k) st (min n_st 40)) ((min n_st 40 + 1) - 1)) t)) (rn_ld ((hFz3_0.ext hEl).celln (by omega))) ?_)
    refine wpF_step (op_v (some 80) (Instr.indexAt 51 (.slice (pA b1 o1) (min n_st 40 + 1) ca1) (vI (gt (com (lof (nof k) st (min n_st 40)) ((min n_st 40 + 1) - 1)) t))) (vP b1 (o1 + (gt (com (lof (nof k) st (min n_st 40)) ((min n_st 40 + 1) - 1)) t) * 34)) (rn_ixs (E := 30) (sz := 34) (by omega)) ?_)
    refine wpF_run 1 [(81, (vP b1 (o1 + (gt (com (lof (nof k) st (min n_st 40)) ((min n_st 40 + 1) - 1)) t) * 34 + 32)))] ?_
    have hK4 := (((((hFz1_0.ext hEw4)).ext hEw5)).ext hEl)
    refine wpF_step (op_v (some 82) (Instr.loadAt 28 (vP b1 (o1 + (gt (com (lof (nof k) st (min n_st 40)) ((min n_st 40 + 1) - 1)) t) * 34 + 32))) (vQ (((lof (nof k) st (min n_st 40)).getD (gt (com (lof (nof k) st (min n_st 40)) ((min n_st 40 + 1) - 1)) t) Cel.zero).ep)) (rn_ld (hK4.cell (j := 32) Cel.zero (by omega) (cel_ep _))) ?_)
    refine wpF_run 1 [(83, (vI t))] (wpF_step (op_in (some 84) .i64 (IntKind.i64.wrap (((t : Nat) : Int) + ((1 : Nat) : Int))) (t + 1) (wrapS (by omega) (by omega) (by omega)) ?_))
    refine wpF_step (op_in (some 85) .u64 (IntKind.u64.wrap ((t + 1 : Nat) : Int)) (t + 1) (wrapUx rfl rfl (by show _ < 2 ^ 64; omega)) ?_)
    refine wpF_step (op_b (some 86) (((((lof (nof k) st (min n_st 40)).getD (gt (com (lof (nof k) st (min n_st 40)) ((min n_st 40 + 1) - 1)) t) Cel.zero).ep : Nat) : Int) != ((t + 1 : Nat) : Int)) false (cmpNeF (by omega)) ?_)
    refine wpF_run 5 [(91, (vI t)), (90, (.slice (pA b2 o2) ((com (lof (nof k) st (min n_st 40)) ((min n_st 40 + 1) - 1)).length) ((com (lof (nof k) st (min n_st 40)) ((min n_st 40 + 1) - 1)).length))), (89, (.slice (pA b1 o1) (min n_st 40 + 1) ca1)), (88, vF), (87, vF)] (wpF_step (op_v (some 92) (Instr.indexAt 56 (.slice (pA b2 o2) ((com (lof (nof k) st (min n_st 40)) ((min n_st 40 + 1) - 1)).length) ((com (lof (nof k) st (min n_st 40)) ((min n_st 40 + 1) - 1)).length)) (vI t)) (vP b2 (o2 + t * 1)) (rn_ixs (E := 3) (sz := 1) (by omega)) ?_))
    refine wpF_step (op_v (some 93) (Instr.loadAt 3 (vP b2 (o2 + t * 1))) (vI (gt (com (lof (nof k) st (min n_st 40)) ((min n_st 40 + 1) - 1)) t)) (rn_ld ((hFz3_0.ext hEl).celln (by omega))) ?_)
    refine wpF_step (op_in (some 94) .i64 (IntKind.i64.wrap (((gt (com (lof (nof k) st (min n_st 40)) ((min n_st 40 + 1) - 1)) t : Nat) : Int) - ((1 : Nat) : Int))) (gt (com (lof (nof k) st (min n_st 40)) ((min n_st 40 + 1) - 1)) t - 1) (wrapS (by omega) (by omega) (by omega)) ?_)
    refine wpF_step (op_v (some 95) (Instr.indexAt 51 (.slice (pA b1 o1) (min n_st 40 + 1) ca1) (vI (gt (com (lof (nof k) st (min n_st 40)) ((min n_st 40 + 1) - 1)) t - 1))) (vP b1 (o1 + (gt (com (lof (nof k) st (min n_st 40)) ((min n_st 40 + 1) - 1)) t - 1) * 34)) (rn_ixs (E := 30) (sz := 34) (by omega)) ?_)
    refine wpF_run 1 [(96, (vP b1 (o1 + (gt (com (lof (nof k) st (min n_st 40)) ((min n_st 40 + 1) - 1)) t - 1) * 34 + 32)))] (wpF_step (op_v (some 97) (Instr.loadAt 28 (vP b1 (o1 + (gt (com (lof (nof k) st (min n_st 40)) ((min n_st 40 + 1) - 1)) t - 1) * 34 + 32))) (vQ (((lof (nof k) st (min n_st 40)).getD (gt (com (lof (nof k) st (min n_st 40)) ((min n_st 40 + 1) - 1)) t - 1) Cel.zero).ep)) (rn_ld (hK4.cell (j := 32) Cel.zero (by omega) (cel_ep _))) ?_))
    refine wpF_run 1 [(98, (vI t))] (wpF_step (op_in (some 99) .u64 (IntKind.u64.wrap ((t : Nat) : Int)) t (wrapUx rfl rfl (by show _ < 2 ^ 64; omega)) ?_))
    refine wpF_step (op_b (some 100) (((((lof (nof k) st (min n_st 40)).getD (gt (com (lof (nof k) st (min n_st 40)) ((min n_st 40 + 1) - 1)) t - 1) Cel.zero).ep : Nat) : Int) != ((t : Nat) : Int)) false (cmpNeF (by omega)) ?_)
    refine wpF_run 1 [(101, vF)] (wpF_end (then_code (wpC_false (wpC_skip (inBlock_normal (then_code (wpC_region (wpF_run 1 [(58, (vI t))] (wpF_step (op_in (some 59) .i64 (IntKind.i64.wrap (((t : Nat) : Int) + ((1 : Nat) : Int))) (t + 1) (wrapS (by omega) (by omega) (by omega)) ?_))))))))))
    refine wpF_run 1 [(10, (vI (t + 1)))] (wpF_end (then_normal (endR_mk (t + 1) ?_ ?_)))
    · exact ⟨by omega, hEl⟩
    · first | omega | (dsimp only; omega)
  · replace hc57 : ¬ (t < (com (lof (nof k) st (min n_st 40)) ((min n_st 40 + 1) - 1)).length) := by have := of_d_f hc57; omega
    refine wpF_end (then_code (wpC_false (wpC_exit (then_exit (then_exit (inBlock_exit (then_code (wpC_seq (wpC_drawM (Ext w6.drew) 14 [(103, 8, 0), (104, 5070602400912917605986812821504, 1), (105, 10141204801825835211973625643008, 2), (106, 64, 0), (107, 40564819207303340847894502572032, 8), (108, 101412048018258352119736256430080, 20), (109, 8, 0), (110, 324518553658426726783156020576256, 64), (111, 649037107316853453566312041152512, 128), (112, 64, 0), (113, 2596148429267413814265248164610048, 512), (114, 6490371073168534535663120411525120, 1280), (12, 162259276829213363391578010288128, 63), (13, 10384593717069655257060992658440192, 8191)] (fun hT177 => ?_))))))))))
    have hEw7 : Ext w6 w6.drew := Ext.drew w6
    generalize w6.drew = w7 at hEw7 ⊢
    have hzw7 := hEw7.size
    refine anyM_take hT177 0 1 (some 102) (vP w1.heap.size 0) (yld_val (Instr.indexAt 50 (vP w1.heap.size 0) (vI 0)) (fun w' hC => rn_ixa (E := 5) (sz := 1) (m := 2) (by omega))) ?_
    have hK5 := (((((((((hBw2.ext hEw3)).ext hEw4)).ext hEw5)).ext hEl)).ext hEw7)
    refine anyM_take hT177 1 3 (some 103) (vB x) (yld_val (Instr.loadAt 5 (vP w1.heap.size 0)) (fun w' hC => rn_ld ((hK5.ext hC).cell rfl))) (anyM_take hT177 2 7 (some 104) (vI x) (yld_in .i64 (IntKind.i64.wrap ((x : Nat) : Int)) (wrapS rfl (by omega) (by omega))) (anyM_run hT177 [(3, 105, (.slice (pA b1 o1) (min n_st 40 + 1) ca1)), (4, 106, (vI (min n_st 40 + 1)))] 2 31 (anyM_take hT177 5 63 (some 107) (vI (x % (min n_st 40 + 1))) (yld_val (bo .rem 3 (.tmp 104) (.tmp 106) (vI x) (vI (min n_st 40 + 1))) (fun w' hC => run_rem (by omega))) (anyM_take hT177 6 127 (some 108) (vP w1.heap.size 1) (yld_val (Instr.indexAt 50 (vP w1.heap.size 0) (vI 1)) (fun w' hC => rn_ixa (E := 5) (sz := 1) (m := 2) (by omega))) (anyM_take hT177 7 255 (some 109) (vB y) (yld_val (Instr.loadAt 5 (vP w1.heap.size 1)) (fun w' hC => rn_ld ((hK5.ext hC).cell rfl))) (anyM_take hT177 8 511 (some 110) (vI y) (yld_in .i64 (IntKind.i64.wrap ((y : Nat) : Int)) (wrapS rfl (by omega) (by omega))) (anyM_run hT177 [(9, 111, (.slice (pA b1 o1) (min n_st 40 + 1) ca1)), (10, 112, (vI (min n_st 40 + 1)))] 2 2047 (anyM_take hT177 11 4095 (some 113) (vI (y % (min n_st 40 + 1))) (yld_val (bo .rem 3 (.tmp 110) (.tmp 112) (vI y) (vI (min n_st 40 + 1))) (fun w' hC => run_rem (by omega))) (anyM_run hT177 [(12, 11, (vI (x % (min n_st 40 + 1)))), (13, 12, (vI (y % (min n_st 40 + 1))))] 2 16383 ?_)))))))))
    refine anyM_done (then_code (wpC_seq (wpC_region (wpF_run 3 [(117, (vI (y % (min n_st 40 + 1)))), (116, (vI (x % (min n_st 40 + 1)))), (115, (.slice (pA b1 o1) (min n_st 40 + 1) ca1))] ?_))))
    rcases Nat.lt_or_ge (y % (min n_st 40 + 1)) (x % (min n_st 40 + 1)) with hxy | hxy
    · have hK6 := (((((((hFz1_0.ext hEw4)).ext hEw5)).ext hEl)).ext hEw7)
      refine wpF_step (op_call (some 118) (c_BtwBad ((x % (min n_st 40 + 1) : Nat) : Int) ((y % (min n_st 40 + 1) : Nat) : Int) _ hK6 (by omega)) ?_)
      rintro _ w8 ⟨rfl, hEw8⟩
      have hzw8 := hEw8.size
      refine wpF_run 7 [(8, (vI 1)), (14, (vQ 0)), (13, (vQ 0)), (121, (vI 1)), (120, (vQ 0)), (119, (vQ 0)), (114, (.tuple #[(vQ 0), (vQ 0), (vI 1)]))] (wpF_end (then_code (wpC_seq (wpC_seq (wpC_region (wpF_run 2 [(123, (vI (y % (min n_st 40 + 1)))), (122, (vI (x % (min n_st 40 + 1))))] (wpF_step (op_b (some 124) (decide (((x % (min n_st 40 + 1) : Nat) : Int) > ((y % (min n_st 40 + 1) : Nat) : Int))) true (cmpDT (by omega)) ?_))))))))
      refine wpF_end (then_code (wpC_true (wpC_seq (wpC_region (wpF_run 11 [(135, vT), (134, vT), (133, vT), (132, (vQ 0)), (131, vT), (130, vT), (129, vT), (128, (vQ 0)), (127, vT), (126, vT), (125, (vI 1))] ?_)))))
      have hK7 := (((((((((hK1.ext hEw4)).ext hEw5)).ext hEl)).ext hEw7)).ext hEw8)
      have hK8 := (((((((((hK2.ext hEw4)).ext hEw5)).ext hEl)).ext hEw7)).ext hEw8)
      have hK9 := (((((((((hK3.ext hEw4)).ext hEw5)).ext hEl)).ext hEw7)).ext hEw8)
      refine wpF_step (op_call (some 136) (c_lives15 _ hK7 hK8 hK9) ?_)
      rintro _ w9 ⟨rfl, hEw9⟩
      have hzw9 := hEw9.size
      refine wpF_run 2 [(4, vT), (137, vT)] (wpF_end (then_code (wpC_ret (then_ret (body_rets vT ?_)))))
      have hX1 : Ext w w9 := ((((((((hEw1.trans hEw2).trans hEw3).trans hEw4).trans hEw5).trans hEl).trans hEw7).trans hEw8).trans hEw9)
      exact ⟨rfl, hX1⟩
    · obtain ⟨hm1, hm2, hm3⟩ := noF_mono hnf (x % (min n_st 40 + 1)) (y % (min n_st 40 + 1)) hxy (by omega)
      have hp1 := (cel (lof (nof k) st (min n_st 40)) (x % (min n_st 40 + 1))).hep; have hp2 := (cel (lof (nof k) st (min n_st 40)) (y % (min n_st 40 + 1))).hep; have hp3 := (cel (lof (nof k) st (min n_st 40)) (x % (min n_st 40 + 1))).hmk; have hp4 := (cel (lof (nof k) st (min n_st 40)) (y % (min n_st 40 + 1))).hmk
      dsimp only [cel] at hm1 hm2 hm3 hp1 hp2 hp3 hp4
      have hfs : flt (((lof (nof k) st (min n_st 40)).drop (x % (min n_st 40 + 1))).take (y % (min n_st 40 + 1) + 1 - x % (min n_st 40 + 1))) = 0 := flt_none (fun i hi => by rw [fk_take (by simp at hi; omega) (by rw [lof_length]; omega)]; exact hnf _ (by simp at hi; omega))
      have hK10 := (((((((hFz1_0.ext hEw4)).ext hEw5)).ext hEl)).ext hEw7)
      refine wpF_step (op_call (some 118) (c_BtwY (x % (min n_st 40 + 1)) (y % (min n_st 40 + 1)) _ hK10 (by omega) (by omega) (by assumption)) ?_)
      rintro _ w10 ⟨rfl, hEw10⟩
      have hzw10 := hEw10.size
      refine wpF_run 7 [(8, (vI 0)), (14, (vQ (((cel (lof (nof k) st (min n_st 40)) (y % (min n_st 40 + 1))).mark + (2 ^ 64 - (cel (lof (nof k) st (min n_st 40)) (x % (min n_st 40 + 1))).mark)) % 2 ^ 64))), (13, (vQ (((cel (lof (nof k) st (min n_st 40)) (y % (min n_st 40 + 1))).ep + (2 ^ 64 - (cel (lof (nof k) st (min n_st 40)) (x % (min n_st 40 + 1))).ep)) % 2 ^ 64))), (121, (vI 0)), (120, (vQ (((cel (lof (nof k) st (min n_st 40)) (y % (min n_st 40 + 1))).mark + (2 ^ 64 - (cel (lof (nof k) st (min n_st 40)) (x % (min n_st 40 + 1))).mark)) % 2 ^ 64))), (119, (vQ (((cel (lof (nof k) st (min n_st 40)) (y % (min n_st 40 + 1))).ep + (2 ^ 64 - (cel (lof (nof k) st (min n_st 40)) (x % (min n_st 40 + 1))).ep)) % 2 ^ 64))), (114, (.tuple #[(vQ (((cel (lof (nof k) st (min n_st 40)) (y % (min n_st 40 + 1))).ep + (2 ^ 64 - (cel (lof (nof k) st (min n_st 40)) (x % (min n_st 40 + 1))).ep)) % 2 ^ 64)), (vQ (((cel (lof (nof k) st (min n_st 40)) (y % (min n_st 40 + 1))).mark + (2 ^ 64 - (cel (lof (nof k) st (min n_st 40)) (x % (min n_st 40 + 1))).mark)) % 2 ^ 64)), (vI 0)]))] (wpF_end (then_code (wpC_seq (wpC_seq (wpC_region (wpF_run 2 [(123, (vI (y % (min n_st 40 + 1)))), (122, (vI (x % (min n_st 40 + 1))))] (wpF_step (op_b (some 124) (decide (((x % (min n_st 40 + 1) : Nat) : Int) > ((y % (min n_st 40 + 1) : Nat) : Int))) false (cmpDF (by omega)) ?_))))))))
      refine wpF_end (then_code (wpC_false (wpC_skip (then_code (wpC_seq (wpC_drawM (Ext w10.drew) 12 [(139, 64, 0), (140, 2048, 0), (141, 1045347431181122959759486794030391945592832, 3), (142, 1393796574908163946345982392040522594123776, 4), (143, 64, 0), (144, 4096, 0), (145, 16725558898897967356151788704486271129485312, 48), (146, 22300745198530623141535718272648361505980416, 64), (16, 0, 0), (17, 0, 0), (0, 2787593149816327892691964784081045188280320, 783), (0, 44601490397061246283071436545296723012026368, 2047)] (fun hT253 => ?_)))))))
      have hEw11 : Ext w10 w10.drew := Ext.drew w10
      generalize w10.drew = w11 at hEw11 ⊢
      have hzw11 := hEw11.size
      refine anyM_run hT253 [(0, 138, (.slice (pA b1 o1) (min n_st 40 + 1) ca1)), (1, 139, (vI (x % (min n_st 40 + 1))))] 2 3 (anyM_take hT253 2 7 (some 140) (vP b1 (o1 + (x % (min n_st 40 + 1)) * 34)) (yld_val (Instr.indexAt 51 (.slice (pA b1 o1) (min n_st 40 + 1) ca1) (vI (x % (min n_st 40 + 1)))) (fun w' hC => rn_ixs (E := 30) (sz := 34) (by omega))) (anyM_take hT253 3 15 (some 141) (vA (celC ((lof (nof k) st (min n_st 40)).getD (x % (min n_st 40 + 1)) Cel.zero))) (yld_val (Instr.loadAt 30 (vP b1 (o1 + (x % (min n_st 40 + 1)) * 34))) (fun w' hC => rn_lda (vs := celC ((lof (nof k) st (min n_st 40)).getD (x % (min n_st 40 + 1)) Cel.zero)) (((((hK10.ext hEw10)).ext hEw11).ext hC).at Cel.zero (by omega)) (by rw [celC_len]; kernel_rfl))) (anyM_run hT253 [(4, 142, (.slice (pA b1 o1) (min n_st 40 + 1) ca1)), (5, 143, (vI (y % (min n_st 40 + 1))))] 2 63 (anyM_take hT253 6 127 (some 144) (vP b1 (o1 + (y % (min n_st 40 + 1)) * 34)) (yld_val (Instr.indexAt 51 (.slice (pA b1 o1) (min n_st 40 + 1) ca1) (vI (y % (min n_st 40 + 1)))) (fun w' hC => rn_ixs (E := 30) (sz := 34) (by omega))) (anyM_take hT253 7 255 (some 145) (vA (celC ((lof (nof k) st (min n_st 40)).getD (y % (min n_st 40 + 1)) Cel.zero))) (yld_val (Instr.loadAt 30 (vP b1 (o1 + (y % (min n_st 40 + 1)) * 34))) (fun w' hC => rn_lda (vs := celC ((lof (nof k) st (min n_st 40)).getD (y % (min n_st 40 + 1)) Cel.zero)) (((((hK10.ext hEw10)).ext hEw11).ext hC).at Cel.zero (by omega)) (by rw [celC_len]; kernel_rfl))) (anyM_two 8 9 511 767 ?_ ?_))))))
      · refine op_new (some 15) (Instr.alloc 30 true (.tuple #[])) (vP w11.heap.size 0) (celC Cel.zero) 30 ?_
        intro w12 hBw12 hEw12
        have hzw12 := hEw12.size; have hlw12 := hBw12.lt
        refine ⟨.inr hEw12, ?_⟩
        refine anyM_one 9 1023 (op_new (some 16) (Instr.alloc 30 true (.tuple #[])) (vP w12.heap.size 0) (celC Cel.zero) 30 ?_)
        intro w13 hBw13 hEw13
        have hzw13 := hEw13.size; have hlw13 := hBw13.lt
        refine ⟨.inr (hEw12.trans hEw13), ?_⟩
        refine anyM_one 10 2047 (op_store 30 w11.heap.size 0 30 (vA (celC ((lof (nof k) st (min n_st 40)).getD (x % (min n_st 40 + 1)) Cel.zero))) (celC Cel.zero) (celC ((lof (nof k) st (min n_st 40)).getD (x % (min n_st 40 + 1)) Cel.zero)) (hBw12.ext hEw13) (by rw [celC_len]; kernel_rfl) (by first | (simp; done) | (simp; omega)) (celC_one _) ?_)
        intro w14 hBw14 hCw14
        have hzw14 := hCw14.size
        rw [setFrom_all _ _ (by simp)] at hBw14
        refine ⟨.inr (Ext.own (hEw12.trans hEw13) hCw14 (by omega)), ?_⟩
        refine anyM_one 11 4095 (op_store 30 w12.heap.size 0 30 (vA (celC ((lof (nof k) st (min n_st 40)).getD (y % (min n_st 40 + 1)) Cel.zero))) (celC Cel.zero) (celC ((lof (nof k) st (min n_st 40)).getD (y % (min n_st 40 + 1)) Cel.zero)) ((hBw13).chg hCw14 (fun hs => by have h : _ = _ := hs; omega)) (by rw [celC_len]; kernel_rfl) (by first | (simp; done) | (simp; omega)) (celC_one _) ?_)
        intro w15 hBw15 hCw15
        have hzw15 := hCw15.size
        rw [setFrom_all _ _ (by simp)] at hBw15
        refine ⟨.inl (by kernel_rfl), ?_⟩
        refine anyM_done (then_code (wpC_seq (wpC_region (wpF_run 4 [(149, (vP w11.heap.size 32)), (148, vT), (147, vT), (146, (vI 0))] (wpF_step (op_v (some 150) (Instr.loadAt 28 (vP w11.heap.size 32)) (vQ (((lof (nof k) st (min n_st 40)).getD (x % (min n_st 40 + 1)) Cel.zero).ep)) (rn_ld (((hBw14).chg hCw15 (fun hs => by have h : _ = _ := hs; omega)).cell (cel_ep _))) ?_))))))
        refine wpF_run 1 [(151, (vQ (((cel (lof (nof k) st (min n_st 40)) (y % (min n_st 40 + 1))).ep + (2 ^ 64 - (cel (lof (nof k) st (min n_st 40)) (x % (min n_st 40 + 1))).ep)) % 2 ^ 64)))] (wpF_step (op_in (some 152) .u64 (IntKind.u64.wrap (((((lof (nof k) st (min n_st 40)).getD (x % (min n_st 40 + 1)) Cel.zero).ep : Nat) : Int) + ((((cel (lof (nof k) st (min n_st 40)) (y % (min n_st 40 + 1))).ep + (2 ^ 64 - (cel (lof (nof k) st (min n_st 40)) (x % (min n_st 40 + 1))).ep)) % 2 ^ 64 : Nat) : Int))) ((((lof (nof k) st (min n_st 40)).getD (x % (min n_st 40 + 1)) Cel.zero).ep + ((cel (lof (nof k) st (min n_st 40)) (y % (min n_st 40 + 1))).ep + (2 ^ 64 - (cel (lof (nof k) st (min n_st 40)) (x % (min n_st 40 + 1))).ep)) % 2 ^ 64) % 2 ^ 64) (wrapU rfl (by simp)) ?_))
        refine wpF_run 1 [(153, (vP w12.heap.size 32))] (wpF_step (op_v (some 154) (Instr.loadAt 28 (vP w12.heap.size 32)) (vQ (((lof (nof k) st (min n_st 40)).getD (y % (min n_st 40 + 1)) Cel.zero).ep)) (rn_ld (hBw15.cell (cel_ep _))) ?_))
        refine wpF_step (op_b (some 155) ((((((lof (nof k) st (min n_st 40)).getD (x % (min n_st 40 + 1)) Cel.zero).ep + ((cel (lof (nof k) st (min n_st 40)) (y % (min n_st 40 + 1))).ep + (2 ^ 64 - (cel (lof (nof k) st (min n_st 40)) (x % (min n_st 40 + 1))).ep)) % 2 ^ 64) % 2 ^ 64 : Nat) : Int) == ((((lof (nof k) st (min n_st 40)).getD (y % (min n_st 40 + 1)) Cel.zero).ep : Nat) : Int)) true (cmpEqT (congrArg (fun z : Nat => (z : Int)) (sub_back hm1 hp2))) ?_)
        refine wpF_run 3 [(158, (vP w11.heap.size 33)), (157, vT), (156, vT)] (wpF_step (op_v (some 159) (Instr.loadAt 28 (vP w11.heap.size 33)) (vQ (((lof (nof k) st (min n_st 40)).getD (x % (min n_st 40 + 1)) Cel.zero).mark)) (rn_ld (((hBw14).chg hCw15 (fun hs => by have h : _ = _ := hs; omega)).cell (cel_mk _))) ?_))
        refine wpF_run 1 [(160, (vQ (((cel (lof (nof k) st (min n_st 40)) (y % (min n_st 40 + 1))).mark + (2 ^ 64 - (cel (lof (nof k) st (min n_st 40)) (x % (min n_st 40 + 1))).mark)) % 2 ^ 64)))] (wpF_step (op_in (some 161) .u64 (IntKind.u64.wrap (((((lof (nof k) st (min n_st 40)).getD (x % (min n_st 40 + 1)) Cel.zero).mark : Nat) : Int) + ((((cel (lof (nof k) st (min n_st 40)) (y % (min n_st 40 + 1))).mark + (2 ^ 64 - (cel (lof (nof k) st (min n_st 40)) (x % (min n_st 40 + 1))).mark)) % 2 ^ 64 : Nat) : Int))) ((((lof (nof k) st (min n_st 40)).getD (x % (min n_st 40 + 1)) Cel.zero).mark + ((cel (lof (nof k) st (min n_st 40)) (y % (min n_st 40 + 1))).mark + (2 ^ 64 - (cel (lof (nof k) st (min n_st 40)) (x % (min n_st 40 + 1))).mark)) % 2 ^ 64) % 2 ^ 64) (wrapU rfl (by simp)) ?_))
        refine wpF_run 1 [(162, (vP w12.heap.size 33))] (wpF_step (op_v (some 163) (Instr.loadAt 28 (vP w12.heap.size 33)) (vQ (((lof (nof k) st (min n_st 40)).getD (y % (min n_st 40 + 1)) Cel.zero).mark)) (rn_ld (hBw15.cell (cel_mk _))) ?_))
        refine wpF_step (op_b (some 164) ((((((lof (nof k) st (min n_st 40)).getD (x % (min n_st 40 + 1)) Cel.zero).mark + ((cel (lof (nof k) st (min n_st 40)) (y % (min n_st 40 + 1))).mark + (2 ^ 64 - (cel (lof (nof k) st (min n_st 40)) (x % (min n_st 40 + 1))).mark)) % 2 ^ 64) % 2 ^ 64 : Nat) : Int) == ((((lof (nof k) st (min n_st 40)).getD (y % (min n_st 40 + 1)) Cel.zero).mark : Nat) : Int)) true (cmpEqT (congrArg (fun z : Nat => (z : Int)) (sub_back hm2 hp4))) ?_)
        refine wpF_run 3 [(167, (vP w11.heap.size 32)), (166, vT), (165, vT)] (wpF_step (op_v (some 168) (Instr.loadAt 28 (vP w11.heap.size 32)) (vQ (((lof (nof k) st (min n_st 40)).getD (x % (min n_st 40 + 1)) Cel.zero).ep)) (rn_ld (((hBw14).chg hCw15 (fun hs => by have h : _ = _ := hs; omega)).cell (cel_ep _))) ?_))
        refine wpF_run 1 [(169, (vP w12.heap.size 32))] (wpF_step (op_v (some 170) (Instr.loadAt 28 (vP w12.heap.size 32)) (vQ (((lof (nof k) st (min n_st 40)).getD (y % (min n_st 40 + 1)) Cel.zero).ep)) (rn_ld (hBw15.cell (cel_ep _))) ?_))
        refine wpF_step (op_b (some 171) (decide (((((lof (nof k) st (min n_st 40)).getD (x % (min n_st 40 + 1)) Cel.zero).ep : Nat) : Int) ≤ ((((lof (nof k) st (min n_st 40)).getD (y % (min n_st 40 + 1)) Cel.zero).ep : Nat) : Int))) true (cmpDT (by omega)) ?_)
        refine wpF_run 3 [(174, (vP w11.heap.size 33)), (173, vT), (172, vT)] (wpF_step (op_v (some 175) (Instr.loadAt 28 (vP w11.heap.size 33)) (vQ (((lof (nof k) st (min n_st 40)).getD (x % (min n_st 40 + 1)) Cel.zero).mark)) (rn_ld (((hBw14).chg hCw15 (fun hs => by have h : _ = _ := hs; omega)).cell (cel_mk _))) ?_))
        refine wpF_run 1 [(176, (vP w12.heap.size 33))] (wpF_step (op_v (some 177) (Instr.loadAt 28 (vP w12.heap.size 33)) (vQ (((lof (nof k) st (min n_st 40)).getD (y % (min n_st 40 + 1)) Cel.zero).mark)) (rn_ld (hBw15.cell (cel_mk _))) ?_))
        refine wpF_step (op_b (some 178) (decide (((((lof (nof k) st (min n_st 40)).getD (x % (min n_st 40 + 1)) Cel.zero).mark : Nat) : Int) ≤ ((((lof (nof k) st (min n_st 40)).getD (y % (min n_st 40 + 1)) Cel.zero).mark : Nat) : Int))) true (cmpDT (by omega)) ?_)
        refine wpF_run 3 [(181, (vP w11.heap.size 32)), (180, vT), (179, vT)] (wpF_step (op_v (some 182) (Instr.loadAt 28 (vP w11.heap.size 32)) (vQ (((lof (nof k) st (min n_st 40)).getD (x % (min n_st 40 + 1)) Cel.zero).ep)) (rn_ld (((hBw14).chg hCw15 (fun hs => by have h : _ = _ := hs; omega)).cell (cel_ep _))) ?_))
        refine wpF_run 1 [(183, (vP w12.heap.size 32))] (wpF_step (op_v (some 184) (Instr.loadAt 28 (vP w12.heap.size 32)) (vQ (((lof (nof k) st (min n_st 40)).getD (y % (min n_st 40 + 1)) Cel.zero).ep)) (rn_ld (hBw15.cell (cel_ep _))) ?_))
        refine wpF_step (op_split (some 185) ((((((lof (nof k) st (min n_st 40)).getD (x % (min n_st 40 + 1)) Cel.zero).ep : Nat) : Int) != ((((lof (nof k) st (min n_st 40)).getD (y % (min n_st 40 + 1)) Cel.zero).ep : Nat) : Int))) (fun hc185 => ?_) (fun hc185 => ?_))
        · replace hc185 : ¬ (((lof (nof k) st (min n_st 40)).getD (x % (min n_st 40 + 1)) Cel.zero).ep = ((lof (nof k) st (min n_st 40)).getD (y % (min n_st 40 + 1)) Cel.zero).ep) := by have := of_ne_t hc185; omega
          refine wpF_run 9 [(194, vT), (193, vT), (192, vT), (191, undef), (190, undef), (189, undef), (188, undef), (187, undef), (186, vT)] ?_
          have hK11 := (((((((((((((((((((hK1.ext hEw4)).ext hEw5)).ext hEl)).ext hEw7)).ext hEw10)).ext hEw11)).ext hEw12)).ext hEw13)).chg hCw14 (fun hs => by have h : _ = _ := hs; omega))).chg hCw15 (fun hs => by have h : _ = _ := hs; omega))
          have hK12 := (((((((((((((((((((hK2.ext hEw4)).ext hEw5)).ext hEl)).ext hEw7)).ext hEw10)).ext hEw11)).ext hEw12)).ext hEw13)).chg hCw14 (fun hs => by have h : _ = _ := hs; omega))).chg hCw15 (fun hs => by have h : _ = _ := hs; omega))
          have hK13 := (((((((((((((((((((hK3.ext hEw4)).ext hEw5)).ext hEl)).ext hEw7)).ext hEw10)).ext hEw11)).ext hEw12)).ext hEw13)).chg hCw14 (fun hs => by have h : _ = _ := hs; omega))).chg hCw15 (fun hs => by have h : _ = _ := hs; omega))
          refine wpF_step (op_call (some 195) (c_lives15 _ hK11 hK12 hK13) ?_)
          rintro _ w16 ⟨rfl, hEw16⟩
          have hzw16 := hEw16.size
          refine wpF_run 2 [(4, vT), (196, vT)] (wpF_end (then_code (wpC_ret (body_rets vT ?_))))
          have hX2 : Ext w w16 := ((Ext.own (Ext.own ((((((((((hEw1.trans hEw2).trans hEw3).trans hEw4).trans hEw5).trans hEl).trans hEw7).trans hEw10).trans hEw11).trans hEw12).trans hEw13) hCw14 (by omega)) hCw15 (by omega)).trans hEw16)
          exact ⟨rfl, hX2⟩
        · replace hc185 : ((lof (nof k) st (min n_st 40)).getD (x % (min n_st 40 + 1)) Cel.zero).ep = ((lof (nof k) st (min n_st 40)).getD (y % (min n_st 40 + 1)) Cel.zero).ep := by have := of_ne_f hc185; omega
          refine wpF_run 2 [(187, (vP w11.heap.size 0)), (186, vF)] (wpF_step (op_v (some 188) (Instr.loadAt 27 (vP w11.heap.size 0)) (vA (digC ((lof (nof k) st (min n_st 40)).getD (x % (min n_st 40 + 1)) Cel.zero).root)) (rn_lda (vs := digC ((lof (nof k) st (min n_st 40)).getD (x % (min n_st 40 + 1)) Cel.zero).root) (((hBw14).chg hCw15 (fun hs => by have h : _ = _ := hs; omega)).at 0 (digC ((lof (nof k) st (min n_st 40)).getD (x % (min n_st 40 + 1)) Cel.zero).root) (cel_root _)) (by rw [digC_len]; kernel_rfl)) ?_))
          refine wpF_run 1 [(189, (vP w12.heap.size 0))] (wpF_step (op_v (some 190) (Instr.loadAt 27 (vP w12.heap.size 0)) (vA (digC ((lof (nof k) st (min n_st 40)).getD (y % (min n_st 40 + 1)) Cel.zero).root)) (rn_lda (vs := digC ((lof (nof k) st (min n_st 40)).getD (y % (min n_st 40 + 1)) Cel.zero).root) (hBw15.at 0 (digC ((lof (nof k) st (min n_st 40)).getD (y % (min n_st 40 + 1)) Cel.zero).root) (cel_root _)) (by rw [digC_len]; kernel_rfl)) ?_))
          refine wpF_step (op_v (some 191) (bo .eql 27 (.tmp 188) (.tmp 190) (vA (digC ((lof (nof k) st (min n_st 40)).getD (x % (min n_st 40 + 1)) Cel.zero).root)) (vA (digC ((lof (nof k) st (min n_st 40)).getD (y % (min n_st 40 + 1)) Cel.zero).root))) vT (run_eqlAgg (r := true) (T := 27) ((run_eq_dig (dd := 9998) (t := 27) (e := 5) (((lof (nof k) st (min n_st 40)).getD (x % (min n_st 40 + 1)) Cel.zero).root) (((lof (nof k) st (min n_st 40)).getD (y % (min n_st 40 + 1)) Cel.zero).root)).trans (congrArg (fun b => Result.ok b _) (show ((((lof (nof k) st (min n_st 40)).getD (x % (min n_st 40 + 1)) Cel.zero).root).l == (((lof (nof k) st (min n_st 40)).getD (y % (min n_st 40 + 1)) Cel.zero).root).l) = true from by simpa using hm3 (by omega))))) ?_)
          refine wpF_run 3 [(194, vT), (193, vT), (192, vT)] ?_
          have hK14 := (((((((((((((((((((hK1.ext hEw4)).ext hEw5)).ext hEl)).ext hEw7)).ext hEw10)).ext hEw11)).ext hEw12)).ext hEw13)).chg hCw14 (fun hs => by have h : _ = _ := hs; omega))).chg hCw15 (fun hs => by have h : _ = _ := hs; omega))
          have hK15 := (((((((((((((((((((hK2.ext hEw4)).ext hEw5)).ext hEl)).ext hEw7)).ext hEw10)).ext hEw11)).ext hEw12)).ext hEw13)).chg hCw14 (fun hs => by have h : _ = _ := hs; omega))).chg hCw15 (fun hs => by have h : _ = _ := hs; omega))
          have hK16 := (((((((((((((((((((hK3.ext hEw4)).ext hEw5)).ext hEl)).ext hEw7)).ext hEw10)).ext hEw11)).ext hEw12)).ext hEw13)).chg hCw14 (fun hs => by have h : _ = _ := hs; omega))).chg hCw15 (fun hs => by have h : _ = _ := hs; omega))
          refine wpF_step (op_call (some 195) (c_lives15 _ hK14 hK15 hK16) ?_)
          rintro _ w17 ⟨rfl, hEw17⟩
          have hzw17 := hEw17.size
          refine wpF_run 2 [(4, vT), (196, vT)] (wpF_end (then_code (wpC_ret (body_rets vT ?_))))
          have hX3 : Ext w w17 := ((Ext.own (Ext.own ((((((((((hEw1.trans hEw2).trans hEw3).trans hEw4).trans hEw5).trans hEl).trans hEw7).trans hEw10).trans hEw11).trans hEw12).trans hEw13) hCw14 (by omega)) hCw15 (by omega)).trans hEw17)
          exact ⟨rfl, hX3⟩
      · refine op_new (some 16) (Instr.alloc 30 true (.tuple #[])) (vP w11.heap.size 0) (celC Cel.zero) 30 ?_
        intro w18 hBw18 hEw18
        have hzw18 := hEw18.size; have hlw18 := hBw18.lt
        refine ⟨.inr hEw18, ?_⟩
        refine anyM_one 8 1023 (op_new (some 15) (Instr.alloc 30 true (.tuple #[])) (vP w18.heap.size 0) (celC Cel.zero) 30 ?_)
        intro w19 hBw19 hEw19
        have hzw19 := hEw19.size; have hlw19 := hBw19.lt
        refine ⟨.inr (hEw18.trans hEw19), ?_⟩
        refine anyM_one 10 2047 (op_store 30 w18.heap.size 0 30 (vA (celC ((lof (nof k) st (min n_st 40)).getD (x % (min n_st 40 + 1)) Cel.zero))) (celC Cel.zero) (celC ((lof (nof k) st (min n_st 40)).getD (x % (min n_st 40 + 1)) Cel.zero)) hBw19 (by rw [celC_len]; kernel_rfl) (by first | (simp; done) | (simp; omega)) (celC_one _) ?_)
        intro w20 hBw20 hCw20
        have hzw20 := hCw20.size
        rw [setFrom_all _ _ (by simp)] at hBw20
        refine ⟨.inr (Ext.own (hEw18.trans hEw19) hCw20 (by omega)), ?_⟩
        refine anyM_one 11 4095 (op_store 30 w11.heap.size 0 30 (vA (celC ((lof (nof k) st (min n_st 40)).getD (y % (min n_st 40 + 1)) Cel.zero))) (celC Cel.zero) (celC ((lof (nof k) st (min n_st 40)).getD (y % (min n_st 40 + 1)) Cel.zero)) (((hBw18.ext hEw19)).chg hCw20 (fun hs => by have h : _ = _ := hs; omega)) (by rw [celC_len]; kernel_rfl) (by first | (simp; done) | (simp; omega)) (celC_one _) ?_)
        intro w21 hBw21 hCw21
        have hzw21 := hCw21.size
        rw [setFrom_all _ _ (by simp)] at hBw21
        refine ⟨.inl (by kernel_rfl), ?_⟩
        refine anyM_done (then_code (wpC_seq (wpC_region (wpF_run 4 [(149, (vP w18.heap.size 32)), (148, vT), (147, vT), (146, (vI 0))] (wpF_step (op_v (some 150) (Instr.loadAt 28 (vP w18.heap.size 32)) (vQ (((lof (nof k) st (min n_st 40)).getD (x % (min n_st 40 + 1)) Cel.zero).ep)) (rn_ld (((hBw20).chg hCw21 (fun hs => by have h : _ = _ := hs; omega)).cell (cel_ep _))) ?_))))))
        refine wpF_run 1 [(151, (vQ (((cel (lof (nof k) st (min n_st 40)) (y % (min n_st 40 + 1))).ep + (2 ^ 64 - (cel (lof (nof k) st (min n_st 40)) (x % (min n_st 40 + 1))).ep)) % 2 ^ 64)))] (wpF_step (op_in (some 152) .u64 (IntKind.u64.wrap (((((lof (nof k) st (min n_st 40)).getD (x % (min n_st 40 + 1)) Cel.zero).ep : Nat) : Int) + ((((cel (lof (nof k) st (min n_st 40)) (y % (min n_st 40 + 1))).ep + (2 ^ 64 - (cel (lof (nof k) st (min n_st 40)) (x % (min n_st 40 + 1))).ep)) % 2 ^ 64 : Nat) : Int))) ((((lof (nof k) st (min n_st 40)).getD (x % (min n_st 40 + 1)) Cel.zero).ep + ((cel (lof (nof k) st (min n_st 40)) (y % (min n_st 40 + 1))).ep + (2 ^ 64 - (cel (lof (nof k) st (min n_st 40)) (x % (min n_st 40 + 1))).ep)) % 2 ^ 64) % 2 ^ 64) (wrapU rfl (by simp)) ?_))
        refine wpF_run 1 [(153, (vP w11.heap.size 32))] (wpF_step (op_v (some 154) (Instr.loadAt 28 (vP w11.heap.size 32)) (vQ (((lof (nof k) st (min n_st 40)).getD (y % (min n_st 40 + 1)) Cel.zero).ep)) (rn_ld (hBw21.cell (cel_ep _))) ?_))
        refine wpF_step (op_b (some 155) ((((((lof (nof k) st (min n_st 40)).getD (x % (min n_st 40 + 1)) Cel.zero).ep + ((cel (lof (nof k) st (min n_st 40)) (y % (min n_st 40 + 1))).ep + (2 ^ 64 - (cel (lof (nof k) st (min n_st 40)) (x % (min n_st 40 + 1))).ep)) % 2 ^ 64) % 2 ^ 64 : Nat) : Int) == ((((lof (nof k) st (min n_st 40)).getD (y % (min n_st 40 + 1)) Cel.zero).ep : Nat) : Int)) true (cmpEqT (congrArg (fun z : Nat => (z : Int)) (sub_back hm1 hp2))) ?_)
        refine wpF_run 3 [(158, (vP w18.heap.size 33)), (157, vT), (156, vT)] (wpF_step (op_v (some 159) (Instr.loadAt 28 (vP w18.heap.size 33)) (vQ (((lof (nof k) st (min n_st 40)).getD (x % (min n_st 40 + 1)) Cel.zero).mark)) (rn_ld (((hBw20).chg hCw21 (fun hs => by have h : _ = _ := hs; omega)).cell (cel_mk _))) ?_))
        refine wpF_run 1 [(160, (vQ (((cel (lof (nof k) st (min n_st 40)) (y % (min n_st 40 + 1))).mark + (2 ^ 64 - (cel (lof (nof k) st (min n_st 40)) (x % (min n_st 40 + 1))).mark)) % 2 ^ 64)))] (wpF_step (op_in (some 161) .u64 (IntKind.u64.wrap (((((lof (nof k) st (min n_st 40)).getD (x % (min n_st 40 + 1)) Cel.zero).mark : Nat) : Int) + ((((cel (lof (nof k) st (min n_st 40)) (y % (min n_st 40 + 1))).mark + (2 ^ 64 - (cel (lof (nof k) st (min n_st 40)) (x % (min n_st 40 + 1))).mark)) % 2 ^ 64 : Nat) : Int))) ((((lof (nof k) st (min n_st 40)).getD (x % (min n_st 40 + 1)) Cel.zero).mark + ((cel (lof (nof k) st (min n_st 40)) (y % (min n_st 40 + 1))).mark + (2 ^ 64 - (cel (lof (nof k) st (min n_st 40)) (x % (min n_st 40 + 1))).mark)) % 2 ^ 64) % 2 ^ 64) (wrapU rfl (by simp)) ?_))
        refine wpF_run 1 [(162, (vP w11.heap.size 33))] (wpF_step (op_v (some 163) (Instr.loadAt 28 (vP w11.heap.size 33)) (vQ (((lof (nof k) st (min n_st 40)).getD (y % (min n_st 40 + 1)) Cel.zero).mark)) (rn_ld (hBw21.cell (cel_mk _))) ?_))
        refine wpF_step (op_b (some 164) ((((((lof (nof k) st (min n_st 40)).getD (x % (min n_st 40 + 1)) Cel.zero).mark + ((cel (lof (nof k) st (min n_st 40)) (y % (min n_st 40 + 1))).mark + (2 ^ 64 - (cel (lof (nof k) st (min n_st 40)) (x % (min n_st 40 + 1))).mark)) % 2 ^ 64) % 2 ^ 64 : Nat) : Int) == ((((lof (nof k) st (min n_st 40)).getD (y % (min n_st 40 + 1)) Cel.zero).mark : Nat) : Int)) true (cmpEqT (congrArg (fun z : Nat => (z : Int)) (sub_back hm2 hp4))) ?_)
        refine wpF_run 3 [(167, (vP w18.heap.size 32)), (166, vT), (165, vT)] (wpF_step (op_v (some 168) (Instr.loadAt 28 (vP w18.heap.size 32)) (vQ (((lof (nof k) st (min n_st 40)).getD (x % (min n_st 40 + 1)) Cel.zero).ep)) (rn_ld (((hBw20).chg hCw21 (fun hs => by have h : _ = _ := hs; omega)).cell (cel_ep _))) ?_))
        refine wpF_run 1 [(169, (vP w11.heap.size 32))] (wpF_step (op_v (some 170) (Instr.loadAt 28 (vP w11.heap.size 32)) (vQ (((lof (nof k) st (min n_st 40)).getD (y % (min n_st 40 + 1)) Cel.zero).ep)) (rn_ld (hBw21.cell (cel_ep _))) ?_))
        refine wpF_step (op_b (some 171) (decide (((((lof (nof k) st (min n_st 40)).getD (x % (min n_st 40 + 1)) Cel.zero).ep : Nat) : Int) ≤ ((((lof (nof k) st (min n_st 40)).getD (y % (min n_st 40 + 1)) Cel.zero).ep : Nat) : Int))) true (cmpDT (by omega)) ?_)
        refine wpF_run 3 [(174, (vP w18.heap.size 33)), (173, vT), (172, vT)] (wpF_step (op_v (some 175) (Instr.loadAt 28 (vP w18.heap.size 33)) (vQ (((lof (nof k) st (min n_st 40)).getD (x % (min n_st 40 + 1)) Cel.zero).mark)) (rn_ld (((hBw20).chg hCw21 (fun hs => by have h : _ = _ := hs; omega)).cell (cel_mk _))) ?_))
        refine wpF_run 1 [(176, (vP w11.heap.size 33))] (wpF_step (op_v (some 177) (Instr.loadAt 28 (vP w11.heap.size 33)) (vQ (((lof (nof k) st (min n_st 40)).getD (y % (min n_st 40 + 1)) Cel.zero).mark)) (rn_ld (hBw21.cell (cel_mk _))) ?_))
        refine wpF_step (op_b (some 178) (decide (((((lof (nof k) st (min n_st 40)).getD (x % (min n_st 40 + 1)) Cel.zero).mark : Nat) : Int) ≤ ((((lof (nof k) st (min n_st 40)).getD (y % (min n_st 40 + 1)) Cel.zero).mark : Nat) : Int))) true (cmpDT (by omega)) ?_)
        refine wpF_run 3 [(181, (vP w18.heap.size 32)), (180, vT), (179, vT)] (wpF_step (op_v (some 182) (Instr.loadAt 28 (vP w18.heap.size 32)) (vQ (((lof (nof k) st (min n_st 40)).getD (x % (min n_st 40 + 1)) Cel.zero).ep)) (rn_ld (((hBw20).chg hCw21 (fun hs => by have h : _ = _ := hs; omega)).cell (cel_ep _))) ?_))
        refine wpF_run 1 [(183, (vP w11.heap.size 32))] (wpF_step (op_v (some 184) (Instr.loadAt 28 (vP w11.heap.size 32)) (vQ (((lof (nof k) st (min n_st 40)).getD (y % (min n_st 40 + 1)) Cel.zero).ep)) (rn_ld (hBw21.cell (cel_ep _))) ?_))
        refine wpF_step (op_split (some 185) ((((((lof (nof k) st (min n_st 40)).getD (x % (min n_st 40 + 1)) Cel.zero).ep : Nat) : Int) != ((((lof (nof k) st (min n_st 40)).getD (y % (min n_st 40 + 1)) Cel.zero).ep : Nat) : Int))) (fun hc185 => ?_) (fun hc185 => ?_))
        · replace hc185 : ¬ (((lof (nof k) st (min n_st 40)).getD (x % (min n_st 40 + 1)) Cel.zero).ep = ((lof (nof k) st (min n_st 40)).getD (y % (min n_st 40 + 1)) Cel.zero).ep) := by have := of_ne_t hc185; omega
          refine wpF_run 9 [(194, vT), (193, vT), (192, vT), (191, undef), (190, undef), (189, undef), (188, undef), (187, undef), (186, vT)] ?_
          have hK17 := (((((((((((((((((((hK1.ext hEw4)).ext hEw5)).ext hEl)).ext hEw7)).ext hEw10)).ext hEw11)).ext hEw18)).ext hEw19)).chg hCw20 (fun hs => by have h : _ = _ := hs; omega))).chg hCw21 (fun hs => by have h : _ = _ := hs; omega))
          have hK18 := (((((((((((((((((((hK2.ext hEw4)).ext hEw5)).ext hEl)).ext hEw7)).ext hEw10)).ext hEw11)).ext hEw18)).ext hEw19)).chg hCw20 (fun hs => by have h : _ = _ := hs; omega))).chg hCw21 (fun hs => by have h : _ = _ := hs; omega))
          have hK19 := (((((((((((((((((((hK3.ext hEw4)).ext hEw5)).ext hEl)).ext hEw7)).ext hEw10)).ext hEw11)).ext hEw18)).ext hEw19)).chg hCw20 (fun hs => by have h : _ = _ := hs; omega))).chg hCw21 (fun hs => by have h : _ = _ := hs; omega))
          refine wpF_step (op_call (some 195) (c_lives15 _ hK17 hK18 hK19) ?_)
          rintro _ w22 ⟨rfl, hEw22⟩
          have hzw22 := hEw22.size
          refine wpF_run 2 [(4, vT), (196, vT)] (wpF_end (then_code (wpC_ret (body_rets vT ?_))))
          have hX4 : Ext w w22 := ((Ext.own (Ext.own ((((((((((hEw1.trans hEw2).trans hEw3).trans hEw4).trans hEw5).trans hEl).trans hEw7).trans hEw10).trans hEw11).trans hEw18).trans hEw19) hCw20 (by omega)) hCw21 (by omega)).trans hEw22)
          exact ⟨rfl, hX4⟩
        · replace hc185 : ((lof (nof k) st (min n_st 40)).getD (x % (min n_st 40 + 1)) Cel.zero).ep = ((lof (nof k) st (min n_st 40)).getD (y % (min n_st 40 + 1)) Cel.zero).ep := by have := of_ne_f hc185; omega
          refine wpF_run 2 [(187, (vP w18.heap.size 0)), (186, vF)] (wpF_step (op_v (some 188) (Instr.loadAt 27 (vP w18.heap.size 0)) (vA (digC ((lof (nof k) st (min n_st 40)).getD (x % (min n_st 40 + 1)) Cel.zero).root)) (rn_lda (vs := digC ((lof (nof k) st (min n_st 40)).getD (x % (min n_st 40 + 1)) Cel.zero).root) (((hBw20).chg hCw21 (fun hs => by have h : _ = _ := hs; omega)).at 0 (digC ((lof (nof k) st (min n_st 40)).getD (x % (min n_st 40 + 1)) Cel.zero).root) (cel_root _)) (by rw [digC_len]; kernel_rfl)) ?_))
          refine wpF_run 1 [(189, (vP w11.heap.size 0))] (wpF_step (op_v (some 190) (Instr.loadAt 27 (vP w11.heap.size 0)) (vA (digC ((lof (nof k) st (min n_st 40)).getD (y % (min n_st 40 + 1)) Cel.zero).root)) (rn_lda (vs := digC ((lof (nof k) st (min n_st 40)).getD (y % (min n_st 40 + 1)) Cel.zero).root) (hBw21.at 0 (digC ((lof (nof k) st (min n_st 40)).getD (y % (min n_st 40 + 1)) Cel.zero).root) (cel_root _)) (by rw [digC_len]; kernel_rfl)) ?_))
          refine wpF_step (op_v (some 191) (bo .eql 27 (.tmp 188) (.tmp 190) (vA (digC ((lof (nof k) st (min n_st 40)).getD (x % (min n_st 40 + 1)) Cel.zero).root)) (vA (digC ((lof (nof k) st (min n_st 40)).getD (y % (min n_st 40 + 1)) Cel.zero).root))) vT (run_eqlAgg (r := true) (T := 27) ((run_eq_dig (dd := 9998) (t := 27) (e := 5) (((lof (nof k) st (min n_st 40)).getD (x % (min n_st 40 + 1)) Cel.zero).root) (((lof (nof k) st (min n_st 40)).getD (y % (min n_st 40 + 1)) Cel.zero).root)).trans (congrArg (fun b => Result.ok b _) (show ((((lof (nof k) st (min n_st 40)).getD (x % (min n_st 40 + 1)) Cel.zero).root).l == (((lof (nof k) st (min n_st 40)).getD (y % (min n_st 40 + 1)) Cel.zero).root).l) = true from by simpa using hm3 (by omega))))) ?_)
          refine wpF_run 3 [(194, vT), (193, vT), (192, vT)] ?_
          have hK20 := (((((((((((((((((((hK1.ext hEw4)).ext hEw5)).ext hEl)).ext hEw7)).ext hEw10)).ext hEw11)).ext hEw18)).ext hEw19)).chg hCw20 (fun hs => by have h : _ = _ := hs; omega))).chg hCw21 (fun hs => by have h : _ = _ := hs; omega))
          have hK21 := (((((((((((((((((((hK2.ext hEw4)).ext hEw5)).ext hEl)).ext hEw7)).ext hEw10)).ext hEw11)).ext hEw18)).ext hEw19)).chg hCw20 (fun hs => by have h : _ = _ := hs; omega))).chg hCw21 (fun hs => by have h : _ = _ := hs; omega))
          have hK22 := (((((((((((((((((((hK3.ext hEw4)).ext hEw5)).ext hEl)).ext hEw7)).ext hEw10)).ext hEw11)).ext hEw18)).ext hEw19)).chg hCw20 (fun hs => by have h : _ = _ := hs; omega))).chg hCw21 (fun hs => by have h : _ = _ := hs; omega))
          refine wpF_step (op_call (some 195) (c_lives15 _ hK20 hK21 hK22) ?_)
          rintro _ w23 ⟨rfl, hEw23⟩
          have hzw23 := hEw23.size
          refine wpF_run 2 [(4, vT), (196, vT)] (wpF_end (then_code (wpC_ret (body_rets vT ?_))))
          have hX5 : Ext w w23 := ((Ext.own (Ext.own ((((((((((hEw1.trans hEw2).trans hEw3).trans hEw4).trans hEw5).trans hEl).trans hEw7).trans hEw10).trans hEw11).trans hEw18).trans hEw19) hCw20 (by omega)) hCw21 (by omega)).trans hEw23)
          exact ⟨rfl, hX5⟩

end Go.Proofs.YthjplefmfjkhfaaDoor
