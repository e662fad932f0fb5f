/- CsC5: what each function does, by its own code. No condition beyond those of each statement. -/
import Derived.Test.YthjplefmfjkhfaaDoorCsC4
namespace Go.Proofs.YthjplefmfjkhfaaDoor
open Go Go.RowKit Go.Cs
set_option maxRecDepth 100000
set_option linter.all false
set_option linter.unusedVariables false

theorem c_CSt00 (a : Cel) (d : Dig) (x : Nat) (y : Nat)  (w : World) (hp0 : x < 2 ^ 64) (hp1 : y < 2 ^ 64) (hp2 : a.ep ≠ 2 ^ 64 - 1) (hp3 : x = 0) (hg0 : Gl 0 [vI 45, vI 33] w) (hg1 : Gl 1 (w8C iniA) w) (hg2 : Gl 2 (w64C kA) w) :
    Calls Tryd.prog 4 #[(vA (celC a)), (vA (digC d)), (vA [(vQ x), (vQ y)])] w (Ret fun r w' => r = vT ∧ Ext w w') := by
  refine calls_of (n := 127) (σ := [(0, (vA (celC a))), (1, (vA (digC d))), (2, (vA [(vQ x), (vQ y)]))]) Tryd.func4 rfl ?_
  have hgl0 := hg0.lt
  have hgl1 := hg1.lt
  have hgl2 := hg2.lt
  have hep := a.hep; have hmk := a.hmk
  refine wpC_seq (wpC_region (wpF_step (op_new (some 3) (Instr.box 30 (vA (celC a))) (vP w.heap.size 0) (celC a) 30 ?_)))
  intro w1 hBw1 hEw1
  have hzw1 := hEw1.size; have hlw1 := hBw1.lt
  refine wpF_step (op_new (some 4) (Instr.box 27 (vA (digC d))) (vP w1.heap.size 0) (digC d) 27 ?_)
  intro w2 hBw2 hEw2
  have hzw2 := hEw2.size; have hlw2 := hBw2.lt
  refine wpF_step (op_new (some 5) (Instr.box 39 (vA [(vQ x), (vQ y)])) (vP w2.heap.size 0) ([(vQ x), (vQ y)]) 39 ?_)
  intro w3 hBw3 hEw3
  have hzw3 := hEw3.size; have hlw3 := hBw3.lt
  refine wpF_run 1 [(6, vF)] (wpF_end (then_code (wpC_seq (wpC_region (wpF_step (op_v (some 12) (Instr.loadAt 30 (vP w.heap.size 0)) (vA (celC a)) (rn_lda (vs := celC a) ((((hBw1.ext hEw2)).ext hEw3).all) (by rw [celC_len]; kernel_rfl)) ?_))))))
  refine wpF_step (op_v (some 13) (Instr.loadAt 27 (vP w1.heap.size 0)) (vA (digC d)) (rn_lda (vs := digC d) ((hBw2.ext hEw3).all) (by rw [digC_len]; kernel_rfl)) ?_)
  refine wpF_step (op_call (some 14) (c_CNext a d _ (by first | omega | decide)) ?_)
  rintro _ w4 ⟨rfl, hEw4⟩
  have hzw4 := hEw4.size
  refine wpF_run 3 [(16, (vI 0)), (15, (vA (celC (a.nxt d)))), (11, (.tuple #[(vA (celC (a.nxt d))), (vI 0)]))] (wpF_step (op_new (some 7) (Instr.alloc 30 true (.tuple #[])) (vP w4.heap.size 0) (celC Cel.zero) 30 ?_))
  intro w5 hBw5 hEw5
  have hzw5 := hEw5.size; have hlw5 := hBw5.lt
  refine wpF_step (op_store 30 w4.heap.size 0 30 (vA (celC (a.nxt d))) (celC Cel.zero) (celC (a.nxt d)) hBw5 (by rw [celC_len]; kernel_rfl) (by first | (simp; done) | (simp; omega)) (celC_one _) ?_)
  intro w6 hBw6 hCw6
  have hzw6 := hCw6.size
  rw [setFrom_all _ _ (by simp)] at hBw6
  refine wpF_run 1 [(8, (vI 0))] (wpF_end (then_code (wpC_seq (wpC_seq (wpC_drawM (Ext w6.drew) 7 [(18, 8, 0), (19, 131072, 1), (20, 8, 0), (21, 524288, 4), (22, 1048576, 8), (23, 2097152, 16), (24, 4456448, 34)] (fun hT186 => ?_))))))
  have hEw7 : Ext w6 w6.drew := Ext.drew w6
  generalize w6.drew = w7 at hEw7 ⊢
  have hzw7 := hEw7.size
  have hK1 := (((((((((((hBw1.ext hEw2)).ext hEw3)).ext hEw4)).ext hEw5)).chg hCw6 (fun hs => by have h : _ = _ := hs; omega))).ext hEw7)
  refine anyM_take hT186 0 1 (some 17) (vA (celC a)) (yld_val (Instr.loadAt 30 (vP w.heap.size 0)) (fun w' hC => rn_lda (vs := celC a) ((hK1.ext hC).all) (by rw [celC_len]; kernel_rfl))) (anyM_run hT186 [(2, 19, (vP w.heap.size 32))] 1 5 (anyM_take hT186 3 13 (some 20) (vQ a.ep) (yld_val (Instr.loadAt 28 (vP w.heap.size 32)) (fun w' hC => rn_ld ((hK1.ext hC).cell (cel_ep _)))) (anyM_take hT186 4 29 (some 21) (vQ (a.ep % 2)) (yld_in .u64 ((IntKind.u64.wrap ((BitVec.ofInt IntKind.u64.bits ((a.ep : Nat) : Int) &&& BitVec.ofInt IntKind.u64.bits ((1 : Nat) : Int)).toNat : Int))) ((andU .u64 rfl (by show _ < 2 ^ 64; omega) (by decide)).trans (congrArg (fun z : Nat => (z : Int)) (Nat.and_one_is_mod _)))) (anyM_take hT186 5 61 (some 22) (vI (a.ep % 2)) (yld_in .i64 (IntKind.i64.wrap ((a.ep % 2 : Nat) : Int)) (wrapS rfl (by omega) (by omega))) (anyM_one 1 63 (op_call (some 18) (c_CSlot a _) ?_))))))
  rintro _ w8 ⟨rfl, hEw8⟩
  have hzw8 := hEw8.size
  refine ⟨.inr hEw8, ?_⟩
  refine anyM_take (hw := show Ext w7 w8 from hEw8) hT186 6 127 (some 23) vF (yld_b (((a.ep % 2 : Nat) : Int) != ((a.ep % 2 : Nat) : Int)) (cmpNeF (by omega))) (anyM_done (then_code (wpC_false (wpC_skip (then_code (wpC_seq (wpC_seq (wpC_region (wpF_run 1 [(24, (vP w.heap.size 32))] ?_)))))))))
  refine wpF_step (op_v (some 25) (Instr.loadAt 28 (vP w.heap.size 32)) (vQ a.ep) (rn_ld ((hK1.ext hEw8).cell (cel_ep _))) ?_)
  refine wpF_step (op_b (some 26) (((a.ep : Nat) : Int) == ((18446744073709551615 : Nat) : Int)) false (cmpEqF (by omega)) ?_)
  refine wpF_end (then_code (wpC_false (wpC_seq (wpC_region (wpF_run 3 [(36, vF), (35, vF), (34, (vI 0))] (wpF_step (op_v (some 37) (Instr.loadAt 30 (vP w4.heap.size 0)) (vA (celC (a.nxt d))) (rn_lda (vs := celC (a.nxt d)) ((((hBw6.ext hEw7)).ext hEw8).all) (by rw [celC_len]; kernel_rfl)) ?_)))))))
  have hK2 := (((((((((((hBw2.ext hEw3)).ext hEw4)).ext hEw5)).chg hCw6 (fun hs => by have h : _ = _ := hs; omega))).ext hEw7)).ext hEw8)
  refine wpF_step (op_v (some 38) (Instr.loadAt 27 (vP w1.heap.size 0)) (vA (digC d)) (rn_lda (vs := digC d) (hK2.all) (by rw [digC_len]; kernel_rfl)) ?_)
  refine wpF_run 1 [(39, (vP w.heap.size 32))] (wpF_step (op_v (some 40) (Instr.loadAt 28 (vP w.heap.size 32)) (vQ a.ep) (rn_ld ((hK1.ext hEw8).cell (cel_ep _))) ?_))
  refine wpF_step (op_in (some 41) .u64 (IntKind.u64.wrap (((a.ep : Nat) : Int) + ((1 : Nat) : Int))) ((a.ep + 1) % 2 ^ 64) (wrapU rfl (by simp)) ?_)
  refine wpF_run 1 [(42, (vP w.heap.size 33))] (wpF_step (op_v (some 43) (Instr.loadAt 28 (vP w.heap.size 33)) (vQ a.mark) (rn_ld ((hK1.ext hEw8).cell (cel_mk _))) ?_))
  refine wpF_step (op_v (some 44) (Instr.build 30 #[(0, (vA (digC d))), (1, (vQ ((a.ep + 1) % 2 ^ 64))), (2, (vQ a.mark))]) (vA (celC (a.nxt d))) ((run_build_cel d ((a.ep + 1) % 2 ^ 64) a.mark (by omega) (by omega)).trans (congrArg (fun z : Cel => Result.ok (Value.agg (celC z).toArray) _) (show (⟨d, (a.ep + 1) % 2 ^ 64, a.mark, by omega, by omega⟩ : Cel) = a.nxt d from rfl))) ?_)
  refine wpF_step (op_v (some 45) (bo .neq 30 (.tmp 37) (.tmp 44) (vA (celC (a.nxt d))) (vA (celC (a.nxt d)))) vF (run_neqAgg (r := true) (T := 30) ((run_eq_cel (dd := 9997) (t := 30) (td := 27) (e := 5) (t64 := 28) (a.nxt d) (a.nxt d)).trans (congrArg (fun b => Result.ok b _) (show ((a.nxt d).eqb (a.nxt d)) = true from cel_eqb_self _)))) ?_)
  refine wpF_run 2 [(47, vF), (46, vF)] (wpF_step (op_v (some 48) (Instr.loadAt 30 (vP w.heap.size 0)) (vA (celC a)) (rn_lda (vs := celC a) ((hK1.ext hEw8).all) (by rw [celC_len]; kernel_rfl)) ?_))
  refine wpF_step (op_v (some 49) (Instr.loadAt 30 (vP w4.heap.size 0)) (vA (celC (a.nxt d))) (rn_lda (vs := celC (a.nxt d)) ((((hBw6.ext hEw7)).ext hEw8).all) (by rw [celC_len]; kernel_rfl)) ?_)
  refine wpF_step (op_call (some 50) (c_Fol a (a.nxt d) _) ?_)
  rintro _ w9 ⟨rfl, hEw9⟩
  have hzw9 := hEw9.size
  rw [show fol a (a.nxt d) = 1 from fol_nxt hp2]
  refine wpF_run 2 [(52, vF), (51, vF)] (wpF_end (then_code (wpC_false (wpC_skip (then_code (wpC_seq (wpC_region (wpF_step (op_v (some 54) (Instr.loadAt 30 (vP w.heap.size 0)) (vA (celC a)) (rn_lda (vs := celC a) ((((hK1.ext hEw8)).ext hEw9).all) (by rw [celC_len]; kernel_rfl)) ?_)))))))))
  refine wpF_step (op_v (some 55) (Instr.indexAt 39 (vP w2.heap.size 0) (vI 0)) (vP w2.heap.size 0) (rn_ixa (E := 28) (sz := 1) (m := 2) (by omega)) ?_)
  have hK3 := (((((((((((hBw3.ext hEw4)).ext hEw5)).chg hCw6 (fun hs => by have h : _ = _ := hs; omega))).ext hEw7)).ext hEw8)).ext hEw9)
  refine wpF_step (op_v (some 56) (Instr.loadAt 28 (vP w2.heap.size 0)) (vQ x) (rn_ld (hK3.cell rfl)) ?_)
  refine wpF_step (op_v (some 57) (Instr.indexAt 39 (vP w2.heap.size 0) (vI 1)) (vP w2.heap.size 1) (rn_ixa (E := 28) (sz := 1) (m := 2) (by omega)) ?_)
  refine wpF_step (op_v (some 58) (Instr.loadAt 28 (vP w2.heap.size 1)) (vQ y) (rn_ld (hK3.cell rfl)) ?_)
  refine wpF_step (op_call (some 59) (c_RsvArg a x y _ (by omega)) ?_)
  rintro _ w10 ⟨rfl, hEw10⟩
  have hzw10 := hEw10.size
  refine wpF_run 3 [(61, (vI 1)), (60, (vA (celC Cel.zero))), (53, (.tuple #[(vA (celC Cel.zero)), (vI 1)]))] (wpF_step (op_new (some 9) (Instr.alloc 30 true (.tuple #[])) (vP w10.heap.size 0) (celC Cel.zero) 30 ?_))
  intro w11 hBw11 hEw11
  have hzw11 := hEw11.size; have hlw11 := hBw11.lt
  refine wpF_step (op_store 30 w10.heap.size 0 30 (vA (celC Cel.zero)) (celC Cel.zero) (celC Cel.zero) hBw11 (by rw [celC_len]; kernel_rfl) (by first | (simp; done) | (simp; omega)) (celC_one _) ?_)
  intro w12 hBw12 hCw12
  have hzw12 := hCw12.size
  rw [setFrom_all _ _ (by simp)] at hBw12
  refine wpF_run 1 [(8, (vI 1))] (wpF_end (then_code (wpC_seq (wpC_seq (wpC_region (wpF_step (op_v (some 62) (Instr.indexAt 39 (vP w2.heap.size 0) (vI 0)) (vP w2.heap.size 0) (rn_ixa (E := 28) (sz := 1) (m := 2) (by omega)) ?_)))))))
  have hK4 := (((((hK3.ext hEw10)).ext hEw11)).chg hCw12 (fun hs => by have h : _ = _ := hs; omega))
  refine wpF_step (op_v (some 63) (Instr.loadAt 28 (vP w2.heap.size 0)) (vQ x) (rn_ld (hK4.cell rfl)) ?_)
  refine wpF_step (op_b (some 64) (((x : Nat) : Int) == ((0 : Nat) : Int)) true (cmpEqT (by omega)) ?_)
  refine wpF_end (then_code (wpC_true (wpC_seq (wpC_region (wpF_run 3 [(67, vT), (66, vT), (65, (vI 1))] (wpF_step (op_v (some 68) (Instr.loadAt 30 (vP w10.heap.size 0)) (vA (celC Cel.zero)) (rn_lda (vs := celC Cel.zero) (hBw12.all) (by rw [celC_len]; kernel_rfl)) ?_)))))))
  refine wpF_run 1 [(69, (vA (celC Cel.zero)))] (wpF_step (op_v (some 70) (bo .eql 30 (.tmp 68) (.tmp 69) (vA (celC Cel.zero)) (vA (celC Cel.zero))) vT (run_eqlAgg (r := true) (T := 30) ((run_eq_cel (dd := 9997) (t := 30) (td := 27) (e := 5) (t64 := 28) Cel.zero Cel.zero).trans (congrArg (fun b => Result.ok b _) (show (Cel.zero.eqb Cel.zero) = true from cel_eqb_self _)))) ?_))
  refine wpF_run 2 [(72, vT), (71, vT)] ?_
  have hK5 := (((((((((((((((((((((((hg0.ext hEw1)).ext hEw2)).ext hEw3)).ext hEw4)).ext hEw5)).chg hCw6 (fun hs => by have h : _ = _ := hs; omega))).ext hEw7)).ext hEw8)).ext hEw9)).ext hEw10)).ext hEw11)).chg hCw12 (fun hs => by have h : _ = _ := hs; omega))
  have hK6 := (((((((((((((((((((((((hg1.ext hEw1)).ext hEw2)).ext hEw3)).ext hEw4)).ext hEw5)).chg hCw6 (fun hs => by have h : _ = _ := hs; omega))).ext hEw7)).ext hEw8)).ext hEw9)).ext hEw10)).ext hEw11)).chg hCw12 (fun hs => by have h : _ = _ := hs; omega))
  have hK7 := (((((((((((((((((((((((hg2.ext hEw1)).ext hEw2)).ext hEw3)).ext hEw4)).ext hEw5)).chg hCw6 (fun hs => by have h : _ = _ := hs; omega))).ext hEw7)).ext hEw8)).ext hEw9)).ext hEw10)).ext hEw11)).chg hCw12 (fun hs => by have h : _ = _ := hs; omega))
  refine wpF_step (op_call (some 73) (c_lives15 _ hK5 hK6 hK7) ?_)
  rintro _ w13 ⟨rfl, hEw13⟩
  have hzw13 := hEw13.size
  refine wpF_run 2 [(6, vT), (74, vT)] (wpF_end (then_code (wpC_ret (then_ret (body_rets vT ?_)))))
  have hX1 : Ext w w13 := ((Ext.own ((((((Ext.own ((((hEw1.trans hEw2).trans hEw3).trans hEw4).trans hEw5) hCw6 (by omega)).trans hEw7).trans hEw8).trans hEw9).trans hEw10).trans hEw11) hCw12 (by omega)).trans hEw13)
  exact ⟨rfl, hX1⟩

theorem c_CSt01 (a : Cel) (d : Dig) (x : Nat) (y : Nat)  (w : World) (hp0 : x < 2 ^ 64) (hp1 : y < 2 ^ 64) (hp2 : a.ep ≠ 2 ^ 64 - 1) (hp3 : x ≠ 0 ∧ y < a.mark + x) (hg0 : Gl 0 [vI 45, vI 33] w) (hg1 : Gl 1 (w8C iniA) w) (hg2 : Gl 2 (w64C kA) w) :
    Calls Tryd.prog 4 #[(vA (celC a)), (vA (digC d)), (vA [(vQ x), (vQ y)])] w (Ret fun r w' => r = vT ∧ Ext w w') := by
  refine calls_of (n := 127) (σ := [(0, (vA (celC a))), (1, (vA (digC d))), (2, (vA [(vQ x), (vQ y)]))]) Tryd.func4 rfl ?_
  have hgl0 := hg0.lt
  have hgl1 := hg1.lt
  have hgl2 := hg2.lt
  have hep := a.hep; have hmk := a.hmk
  refine wpC_seq (wpC_region (wpF_step (op_new (some 3) (Instr.box 30 (vA (celC a))) (vP w.heap.size 0) (celC a) 30 ?_)))
  intro w1 hBw1 hEw1
  have hzw1 := hEw1.size; have hlw1 := hBw1.lt
  refine wpF_step (op_new (some 4) (Instr.box 27 (vA (digC d))) (vP w1.heap.size 0) (digC d) 27 ?_)
  intro w2 hBw2 hEw2
  have hzw2 := hEw2.size; have hlw2 := hBw2.lt
  refine wpF_step (op_new (some 5) (Instr.box 39 (vA [(vQ x), (vQ y)])) (vP w2.heap.size 0) ([(vQ x), (vQ y)]) 39 ?_)
  intro w3 hBw3 hEw3
  have hzw3 := hEw3.size; have hlw3 := hBw3.lt
  refine wpF_run 1 [(6, vF)] (wpF_end (then_code (wpC_seq (wpC_region (wpF_step (op_v (some 12) (Instr.loadAt 30 (vP w.heap.size 0)) (vA (celC a)) (rn_lda (vs := celC a) ((((hBw1.ext hEw2)).ext hEw3).all) (by rw [celC_len]; kernel_rfl)) ?_))))))
  refine wpF_step (op_v (some 13) (Instr.loadAt 27 (vP w1.heap.size 0)) (vA (digC d)) (rn_lda (vs := digC d) ((hBw2.ext hEw3).all) (by rw [digC_len]; kernel_rfl)) ?_)
  refine wpF_step (op_call (some 14) (c_CNext a d _ (by first | omega | decide)) ?_)
  rintro _ w4 ⟨rfl, hEw4⟩
  have hzw4 := hEw4.size
  refine wpF_run 3 [(16, (vI 0)), (15, (vA (celC (a.nxt d)))), (11, (.tuple #[(vA (celC (a.nxt d))), (vI 0)]))] (wpF_step (op_new (some 7) (Instr.alloc 30 true (.tuple #[])) (vP w4.heap.size 0) (celC Cel.zero) 30 ?_))
  intro w5 hBw5 hEw5
  have hzw5 := hEw5.size; have hlw5 := hBw5.lt
  refine wpF_step (op_store 30 w4.heap.size 0 30 (vA (celC (a.nxt d))) (celC Cel.zero) (celC (a.nxt d)) hBw5 (by rw [celC_len]; kernel_rfl) (by first | (simp; done) | (simp; omega)) (celC_one _) ?_)
  intro w6 hBw6 hCw6
  have hzw6 := hCw6.size
  rw [setFrom_all _ _ (by simp)] at hBw6
  refine wpF_run 1 [(8, (vI 0))] (wpF_end (then_code (wpC_seq (wpC_seq (wpC_drawM (Ext w6.drew) 7 [(18, 8, 0), (19, 131072, 1), (20, 8, 0), (21, 524288, 4), (22, 1048576, 8), (23, 2097152, 16), (24, 4456448, 34)] (fun hT273 => ?_))))))
  have hEw7 : Ext w6 w6.drew := Ext.drew w6
  generalize w6.drew = w7 at hEw7 ⊢
  have hzw7 := hEw7.size
  have hK1 := (((((((((((hBw1.ext hEw2)).ext hEw3)).ext hEw4)).ext hEw5)).chg hCw6 (fun hs => by have h : _ = _ := hs; omega))).ext hEw7)
  refine anyM_take hT273 0 1 (some 17) (vA (celC a)) (yld_val (Instr.loadAt 30 (vP w.heap.size 0)) (fun w' hC => rn_lda (vs := celC a) ((hK1.ext hC).all) (by rw [celC_len]; kernel_rfl))) (anyM_run hT273 [(2, 19, (vP w.heap.size 32))] 1 5 (anyM_take hT273 3 13 (some 20) (vQ a.ep) (yld_val (Instr.loadAt 28 (vP w.heap.size 32)) (fun w' hC => rn_ld ((hK1.ext hC).cell (cel_ep _)))) (anyM_take hT273 4 29 (some 21) (vQ (a.ep % 2)) (yld_in .u64 ((IntKind.u64.wrap ((BitVec.ofInt IntKind.u64.bits ((a.ep : Nat) : Int) &&& BitVec.ofInt IntKind.u64.bits ((1 : Nat) : Int)).toNat : Int))) ((andU .u64 rfl (by show _ < 2 ^ 64; omega) (by decide)).trans (congrArg (fun z : Nat => (z : Int)) (Nat.and_one_is_mod _)))) (anyM_take hT273 5 61 (some 22) (vI (a.ep % 2)) (yld_in .i64 (IntKind.i64.wrap ((a.ep % 2 : Nat) : Int)) (wrapS rfl (by omega) (by omega))) (anyM_one 1 63 (op_call (some 18) (c_CSlot a _) ?_))))))
  rintro _ w8 ⟨rfl, hEw8⟩
  have hzw8 := hEw8.size
  refine ⟨.inr hEw8, ?_⟩
  refine anyM_take (hw := show Ext w7 w8 from hEw8) hT273 6 127 (some 23) vF (yld_b (((a.ep % 2 : Nat) : Int) != ((a.ep % 2 : Nat) : Int)) (cmpNeF (by omega))) (anyM_done (then_code (wpC_false (wpC_skip (then_code (wpC_seq (wpC_seq (wpC_region (wpF_run 1 [(24, (vP w.heap.size 32))] ?_)))))))))
  refine wpF_step (op_v (some 25) (Instr.loadAt 28 (vP w.heap.size 32)) (vQ a.ep) (rn_ld ((hK1.ext hEw8).cell (cel_ep _))) ?_)
  refine wpF_step (op_b (some 26) (((a.ep : Nat) : Int) == ((18446744073709551615 : Nat) : Int)) false (cmpEqF (by omega)) ?_)
  refine wpF_end (then_code (wpC_false (wpC_seq (wpC_region (wpF_run 3 [(36, vF), (35, vF), (34, (vI 0))] (wpF_step (op_v (some 37) (Instr.loadAt 30 (vP w4.heap.size 0)) (vA (celC (a.nxt d))) (rn_lda (vs := celC (a.nxt d)) ((((hBw6.ext hEw7)).ext hEw8).all) (by rw [celC_len]; kernel_rfl)) ?_)))))))
  have hK2 := (((((((((((hBw2.ext hEw3)).ext hEw4)).ext hEw5)).chg hCw6 (fun hs => by have h : _ = _ := hs; omega))).ext hEw7)).ext hEw8)
  refine wpF_step (op_v (some 38) (Instr.loadAt 27 (vP w1.heap.size 0)) (vA (digC d)) (rn_lda (vs := digC d) (hK2.all) (by rw [digC_len]; kernel_rfl)) ?_)
  refine wpF_run 1 [(39, (vP w.heap.size 32))] (wpF_step (op_v (some 40) (Instr.loadAt 28 (vP w.heap.size 32)) (vQ a.ep) (rn_ld ((hK1.ext hEw8).cell (cel_ep _))) ?_))
  refine wpF_step (op_in (some 41) .u64 (IntKind.u64.wrap (((a.ep : Nat) : Int) + ((1 : Nat) : Int))) ((a.ep + 1) % 2 ^ 64) (wrapU rfl (by simp)) ?_)
  refine wpF_run 1 [(42, (vP w.heap.size 33))] (wpF_step (op_v (some 43) (Instr.loadAt 28 (vP w.heap.size 33)) (vQ a.mark) (rn_ld ((hK1.ext hEw8).cell (cel_mk _))) ?_))
  refine wpF_step (op_v (some 44) (Instr.build 30 #[(0, (vA (digC d))), (1, (vQ ((a.ep + 1) % 2 ^ 64))), (2, (vQ a.mark))]) (vA (celC (a.nxt d))) ((run_build_cel d ((a.ep + 1) % 2 ^ 64) a.mark (by omega) (by omega)).trans (congrArg (fun z : Cel => Result.ok (Value.agg (celC z).toArray) _) (show (⟨d, (a.ep + 1) % 2 ^ 64, a.mark, by omega, by omega⟩ : Cel) = a.nxt d from rfl))) ?_)
  refine wpF_step (op_v (some 45) (bo .neq 30 (.tmp 37) (.tmp 44) (vA (celC (a.nxt d))) (vA (celC (a.nxt d)))) vF (run_neqAgg (r := true) (T := 30) ((run_eq_cel (dd := 9997) (t := 30) (td := 27) (e := 5) (t64 := 28) (a.nxt d) (a.nxt d)).trans (congrArg (fun b => Result.ok b _) (show ((a.nxt d).eqb (a.nxt d)) = true from cel_eqb_self _)))) ?_)
  refine wpF_run 2 [(47, vF), (46, vF)] (wpF_step (op_v (some 48) (Instr.loadAt 30 (vP w.heap.size 0)) (vA (celC a)) (rn_lda (vs := celC a) ((hK1.ext hEw8).all) (by rw [celC_len]; kernel_rfl)) ?_))
  refine wpF_step (op_v (some 49) (Instr.loadAt 30 (vP w4.heap.size 0)) (vA (celC (a.nxt d))) (rn_lda (vs := celC (a.nxt d)) ((((hBw6.ext hEw7)).ext hEw8).all) (by rw [celC_len]; kernel_rfl)) ?_)
  refine wpF_step (op_call (some 50) (c_Fol a (a.nxt d) _) ?_)
  rintro _ w9 ⟨rfl, hEw9⟩
  have hzw9 := hEw9.size
  rw [show fol a (a.nxt d) = 1 from fol_nxt hp2]
  refine wpF_run 2 [(52, vF), (51, vF)] (wpF_end (then_code (wpC_false (wpC_skip (then_code (wpC_seq (wpC_region (wpF_step (op_v (some 54) (Instr.loadAt 30 (vP w.heap.size 0)) (vA (celC a)) (rn_lda (vs := celC a) ((((hK1.ext hEw8)).ext hEw9).all) (by rw [celC_len]; kernel_rfl)) ?_)))))))))
  refine wpF_step (op_v (some 55) (Instr.indexAt 39 (vP w2.heap.size 0) (vI 0)) (vP w2.heap.size 0) (rn_ixa (E := 28) (sz := 1) (m := 2) (by omega)) ?_)
  have hK3 := (((((((((((hBw3.ext hEw4)).ext hEw5)).chg hCw6 (fun hs => by have h : _ = _ := hs; omega))).ext hEw7)).ext hEw8)).ext hEw9)
  refine wpF_step (op_v (some 56) (Instr.loadAt 28 (vP w2.heap.size 0)) (vQ x) (rn_ld (hK3.cell rfl)) ?_)
  refine wpF_step (op_v (some 57) (Instr.indexAt 39 (vP w2.heap.size 0) (vI 1)) (vP w2.heap.size 1) (rn_ixa (E := 28) (sz := 1) (m := 2) (by omega)) ?_)
  refine wpF_step (op_v (some 58) (Instr.loadAt 28 (vP w2.heap.size 1)) (vQ y) (rn_ld (hK3.cell rfl)) ?_)
  refine wpF_step (op_call (some 59) (c_RsvBad a x y _ (by omega) (by omega) (by omega)) ?_)
  rintro _ w10 ⟨rfl, hEw10⟩
  have hzw10 := hEw10.size
  refine wpF_run 3 [(61, (vI 8)), (60, (vA (celC Cel.zero))), (53, (.tuple #[(vA (celC Cel.zero)), (vI 8)]))] (wpF_step (op_new (some 9) (Instr.alloc 30 true (.tuple #[])) (vP w10.heap.size 0) (celC Cel.zero) 30 ?_))
  intro w11 hBw11 hEw11
  have hzw11 := hEw11.size; have hlw11 := hBw11.lt
  refine wpF_step (op_store 30 w10.heap.size 0 30 (vA (celC Cel.zero)) (celC Cel.zero) (celC Cel.zero) hBw11 (by rw [celC_len]; kernel_rfl) (by first | (simp; done) | (simp; omega)) (celC_one _) ?_)
  intro w12 hBw12 hCw12
  have hzw12 := hCw12.size
  rw [setFrom_all _ _ (by simp)] at hBw12
  refine wpF_run 1 [(8, (vI 8))] (wpF_end (then_code (wpC_seq (wpC_seq (wpC_region (wpF_step (op_v (some 62) (Instr.indexAt 39 (vP w2.heap.size 0) (vI 0)) (vP w2.heap.size 0) (rn_ixa (E := 28) (sz := 1) (m := 2) (by omega)) ?_)))))))
  have hK4 := (((((hK3.ext hEw10)).ext hEw11)).chg hCw12 (fun hs => by have h : _ = _ := hs; omega))
  refine wpF_step (op_v (some 63) (Instr.loadAt 28 (vP w2.heap.size 0)) (vQ x) (rn_ld (hK4.cell rfl)) ?_)
  refine wpF_step (op_b (some 64) (((x : Nat) : Int) == ((0 : Nat) : Int)) false (cmpEqF (by omega)) ?_)
  refine wpF_end (then_code (wpC_false (wpC_skip (then_code (wpC_seq (wpC_region (wpF_run 1 [(75, (vP w.heap.size 33))] ?_)))))))
  have hK5 := (((((((((hK1.ext hEw8)).ext hEw9)).ext hEw10)).ext hEw11)).chg hCw12 (fun hs => by have h : _ = _ := hs; omega))
  refine wpF_step (op_v (some 76) (Instr.loadAt 28 (vP w.heap.size 33)) (vQ a.mark) (rn_ld (hK5.cell (cel_mk _))) ?_)
  refine wpF_step (op_v (some 77) (Instr.indexAt 39 (vP w2.heap.size 0) (vI 0)) (vP w2.heap.size 0) (rn_ixa (E := 28) (sz := 1) (m := 2) (by omega)) ?_)
  refine wpF_step (op_v (some 78) (Instr.loadAt 28 (vP w2.heap.size 0)) (vQ x) (rn_ld (hK4.cell rfl)) ?_)
  refine wpF_step (op_in (some 79) .u64 (IntKind.u64.wrap (((a.mark : Nat) : Int) + ((x : Nat) : Int))) ((a.mark + x) % 2 ^ 64) (wrapU rfl (by simp)) ?_)
  refine wpF_run 1 [(10, (vQ ((a.mark + x) % 2 ^ 64)))] (wpF_end (then_code (wpC_seq (wpC_seq (wpC_region (wpF_run 2 [(81, (vP w.heap.size 33)), (80, (vQ ((a.mark + x) % 2 ^ 64)))] (wpF_step (op_v (some 82) (Instr.loadAt 28 (vP w.heap.size 33)) (vQ a.mark) (rn_ld (hK5.cell (cel_mk _))) ?_))))))))
  refine wpF_step (op_split (some 83) (decide ((((a.mark + x) % 2 ^ 64 : Nat) : Int) < ((a.mark : Nat) : Int))) (fun hc83 => ?_) (fun hc83 => ?_))
  · replace hc83 : (a.mark + x) % 2 ^ 64 < a.mark := by have := of_d_t hc83; omega
    refine wpF_run 6 [(89, vT), (88, undef), (87, undef), (86, undef), (85, undef), (84, vT)] (wpF_end (then_code (wpC_true (wpC_seq (wpC_region (wpF_run 3 [(92, vT), (91, vT), (90, (vI 8))] (wpF_step (op_v (some 93) (Instr.loadAt 30 (vP w10.heap.size 0)) (vA (celC Cel.zero)) (rn_lda (vs := celC Cel.zero) (hBw12.all) (by rw [celC_len]; kernel_rfl)) ?_))))))))
    refine wpF_run 1 [(94, (vA (celC Cel.zero)))] (wpF_step (op_v (some 95) (bo .eql 30 (.tmp 93) (.tmp 94) (vA (celC Cel.zero)) (vA (celC Cel.zero))) vT (run_eqlAgg (r := true) (T := 30) ((run_eq_cel (dd := 9997) (t := 30) (td := 27) (e := 5) (t64 := 28) Cel.zero Cel.zero).trans (congrArg (fun b => Result.ok b _) (show (Cel.zero.eqb Cel.zero) = true from cel_eqb_self _)))) ?_))
    refine wpF_run 2 [(97, vT), (96, vT)] ?_
    have hK6 := (((((((((((((((((((((((hg0.ext hEw1)).ext hEw2)).ext hEw3)).ext hEw4)).ext hEw5)).chg hCw6 (fun hs => by have h : _ = _ := hs; omega))).ext hEw7)).ext hEw8)).ext hEw9)).ext hEw10)).ext hEw11)).chg hCw12 (fun hs => by have h : _ = _ := hs; omega))
    have hK7 := (((((((((((((((((((((((hg1.ext hEw1)).ext hEw2)).ext hEw3)).ext hEw4)).ext hEw5)).chg hCw6 (fun hs => by have h : _ = _ := hs; omega))).ext hEw7)).ext hEw8)).ext hEw9)).ext hEw10)).ext hEw11)).chg hCw12 (fun hs => by have h : _ = _ := hs; omega))
    have hK8 := (((((((((((((((((((((((hg2.ext hEw1)).ext hEw2)).ext hEw3)).ext hEw4)).ext hEw5)).chg hCw6 (fun hs => by have h : _ = _ := hs; omega))).ext hEw7)).ext hEw8)).ext hEw9)).ext hEw10)).ext hEw11)).chg hCw12 (fun hs => by have h : _ = _ := hs; omega))
    refine wpF_step (op_call (some 98) (c_lives15 _ hK6 hK7 hK8) ?_)
    rintro _ w13 ⟨rfl, hEw13⟩
    have hzw13 := hEw13.size
    refine wpF_run 2 [(6, vT), (99, vT)] (wpF_end (then_code (wpC_ret (then_ret (body_rets vT ?_)))))
    have hX1 : Ext w w13 := ((Ext.own ((((((Ext.own ((((hEw1.trans hEw2).trans hEw3).trans hEw4).trans hEw5) hCw6 (by omega)).trans hEw7).trans hEw8).trans hEw9).trans hEw10).trans hEw11) hCw12 (by omega)).trans hEw13)
    exact ⟨rfl, hX1⟩
  · replace hc83 : ¬ ((a.mark + x) % 2 ^ 64 < a.mark) := by have := of_d_f hc83; omega
    refine wpF_run 2 [(85, (vQ ((a.mark + x) % 2 ^ 64))), (84, vF)] (wpF_step (op_v (some 86) (Instr.indexAt 39 (vP w2.heap.size 0) (vI 1)) (vP w2.heap.size 1) (rn_ixa (E := 28) (sz := 1) (m := 2) (by omega)) ?_))
    refine wpF_step (op_v (some 87) (Instr.loadAt 28 (vP w2.heap.size 1)) (vQ y) (rn_ld (hK4.cell rfl)) ?_)
    refine wpF_step (op_b (some 88) (decide ((((a.mark + x) % 2 ^ 64 : Nat) : Int) > ((y : Nat) : Int))) true (cmpDT (by omega)) ?_)
    refine wpF_run 1 [(89, vT)] (wpF_end (then_code (wpC_true (wpC_seq (wpC_region (wpF_run 3 [(92, vT), (91, vT), (90, (vI 8))] (wpF_step (op_v (some 93) (Instr.loadAt 30 (vP w10.heap.size 0)) (vA (celC Cel.zero)) (rn_lda (vs := celC Cel.zero) (hBw12.all) (by rw [celC_len]; kernel_rfl)) ?_))))))))
    refine wpF_run 1 [(94, (vA (celC Cel.zero)))] (wpF_step (op_v (some 95) (bo .eql 30 (.tmp 93) (.tmp 94) (vA (celC Cel.zero)) (vA (celC Cel.zero))) vT (run_eqlAgg (r := true) (T := 30) ((run_eq_cel (dd := 9997) (t := 30) (td := 27) (e := 5) (t64 := 28) Cel.zero Cel.zero).trans (congrArg (fun b => Result.ok b _) (show (Cel.zero.eqb Cel.zero) = true from cel_eqb_self _)))) ?_))
    refine wpF_run 2 [(97, vT), (96, vT)] ?_
    have hK9 := (((((((((((((((((((((((hg0.ext hEw1)).ext hEw2)).ext hEw3)).ext hEw4)).ext hEw5)).chg hCw6 (fun hs => by have h : _ = _ := hs; omega))).ext hEw7)).ext hEw8)).ext hEw9)).ext hEw10)).ext hEw11)).chg hCw12 (fun hs => by have h : _ = _ := hs; omega))
    have hK10 := (((((((((((((((((((((((hg1.ext hEw1)).ext hEw2)).ext hEw3)).ext hEw4)).ext hEw5)).chg hCw6 (fun hs => by have h : _ = _ := hs; omega))).ext hEw7)).ext hEw8)).ext hEw9)).ext hEw10)).ext hEw11)).chg hCw12 (fun hs => by have h : _ = _ := hs; omega))
    have hK11 := (((((((((((((((((((((((hg2.ext hEw1)).ext hEw2)).ext hEw3)).ext hEw4)).ext hEw5)).chg hCw6 (fun hs => by have h : _ = _ := hs; omega))).ext hEw7)).ext hEw8)).ext hEw9)).ext hEw10)).ext hEw11)).chg hCw12 (fun hs => by have h : _ = _ := hs; omega))
    refine wpF_step (op_call (some 98) (c_lives15 _ hK9 hK10 hK11) ?_)
    rintro _ w14 ⟨rfl, hEw14⟩
    have hzw14 := hEw14.size
    refine wpF_run 2 [(6, vT), (99, vT)] (wpF_end (then_code (wpC_ret (then_ret (body_rets vT ?_)))))
    have hX2 : Ext w w14 := ((Ext.own ((((((Ext.own ((((hEw1.trans hEw2).trans hEw3).trans hEw4).trans hEw5) hCw6 (by omega)).trans hEw7).trans hEw8).trans hEw9).trans hEw10).trans hEw11) hCw12 (by omega)).trans hEw14)
    exact ⟨rfl, hX2⟩

theorem c_CSt02 (a : Cel) (d : Dig) (x : Nat) (y : Nat)  (w : World) (hp0 : x < 2 ^ 64) (hp1 : y < 2 ^ 64) (hp2 : a.ep ≠ 2 ^ 64 - 1) (hp3 : x ≠ 0 ∧ a.mark + x ≤ y) (hg0 : Gl 0 [vI 45, vI 33] w) (hg1 : Gl 1 (w8C iniA) w) (hg2 : Gl 2 (w64C kA) w) :
    Calls Tryd.prog 4 #[(vA (celC a)), (vA (digC d)), (vA [(vQ x), (vQ y)])] w (Ret fun r w' => r = vT ∧ Ext w w') := by
  refine calls_of (n := 127) (σ := [(0, (vA (celC a))), (1, (vA (digC d))), (2, (vA [(vQ x), (vQ y)]))]) Tryd.func4 rfl ?_
  have hgl0 := hg0.lt
  have hgl1 := hg1.lt
  have hgl2 := hg2.lt
  have hep := a.hep; have hmk := a.hmk
  refine wpC_seq (wpC_region (wpF_step (op_new (some 3) (Instr.box 30 (vA (celC a))) (vP w.heap.size 0) (celC a) 30 ?_)))
  intro w1 hBw1 hEw1
  have hzw1 := hEw1.size; have hlw1 := hBw1.lt
  refine wpF_step (op_new (some 4) (Instr.box 27 (vA (digC d))) (vP w1.heap.size 0) (digC d) 27 ?_)
  intro w2 hBw2 hEw2
  have hzw2 := hEw2.size; have hlw2 := hBw2.lt
  refine wpF_step (op_new (some 5) (Instr.box 39 (vA [(vQ x), (vQ y)])) (vP w2.heap.size 0) ([(vQ x), (vQ y)]) 39 ?_)
  intro w3 hBw3 hEw3
  have hzw3 := hEw3.size; have hlw3 := hBw3.lt
  refine wpF_run 1 [(6, vF)] (wpF_end (then_code (wpC_seq (wpC_region (wpF_step (op_v (some 12) (Instr.loadAt 30 (vP w.heap.size 0)) (vA (celC a)) (rn_lda (vs := celC a) ((((hBw1.ext hEw2)).ext hEw3).all) (by rw [celC_len]; kernel_rfl)) ?_))))))
  refine wpF_step (op_v (some 13) (Instr.loadAt 27 (vP w1.heap.size 0)) (vA (digC d)) (rn_lda (vs := digC d) ((hBw2.ext hEw3).all) (by rw [digC_len]; kernel_rfl)) ?_)
  refine wpF_step (op_call (some 14) (c_CNext a d _ (by first | omega | decide)) ?_)
  rintro _ w4 ⟨rfl, hEw4⟩
  have hzw4 := hEw4.size
  refine wpF_run 3 [(16, (vI 0)), (15, (vA (celC (a.nxt d)))), (11, (.tuple #[(vA (celC (a.nxt d))), (vI 0)]))] (wpF_step (op_new (some 7) (Instr.alloc 30 true (.tuple #[])) (vP w4.heap.size 0) (celC Cel.zero) 30 ?_))
  intro w5 hBw5 hEw5
  have hzw5 := hEw5.size; have hlw5 := hBw5.lt
  refine wpF_step (op_store 30 w4.heap.size 0 30 (vA (celC (a.nxt d))) (celC Cel.zero) (celC (a.nxt d)) hBw5 (by rw [celC_len]; kernel_rfl) (by first | (simp; done) | (simp; omega)) (celC_one _) ?_)
  intro w6 hBw6 hCw6
  have hzw6 := hCw6.size
  rw [setFrom_all _ _ (by simp)] at hBw6
  refine wpF_run 1 [(8, (vI 0))] (wpF_end (then_code (wpC_seq (wpC_seq (wpC_drawM (Ext w6.drew) 7 [(18, 8, 0), (19, 131072, 1), (20, 8, 0), (21, 524288, 4), (22, 1048576, 8), (23, 2097152, 16), (24, 4456448, 34)] (fun hT385 => ?_))))))
  have hEw7 : Ext w6 w6.drew := Ext.drew w6
  generalize w6.drew = w7 at hEw7 ⊢
  have hzw7 := hEw7.size
  have hK1 := (((((((((((hBw1.ext hEw2)).ext hEw3)).ext hEw4)).ext hEw5)).chg hCw6 (fun hs => by have h : _ = _ := hs; omega))).ext hEw7)
  refine anyM_take hT385 0 1 (some 17) (vA (celC a)) (yld_val (Instr.loadAt 30 (vP w.heap.size 0)) (fun w' hC => rn_lda (vs := celC a) ((hK1.ext hC).all) (by rw [celC_len]; kernel_rfl))) (anyM_run hT385 [(2, 19, (vP w.heap.size 32))] 1 5 (anyM_take hT385 3 13 (some 20) (vQ a.ep) (yld_val (Instr.loadAt 28 (vP w.heap.size 32)) (fun w' hC => rn_ld ((hK1.ext hC).cell (cel_ep _)))) (anyM_take hT385 4 29 (some 21) (vQ (a.ep % 2)) (yld_in .u64 ((IntKind.u64.wrap ((BitVec.ofInt IntKind.u64.bits ((a.ep : Nat) : Int) &&& BitVec.ofInt IntKind.u64.bits ((1 : Nat) : Int)).toNat : Int))) ((andU .u64 rfl (by show _ < 2 ^ 64; omega) (by decide)).trans (congrArg (fun z : Nat => (z : Int)) (Nat.and_one_is_mod _)))) (anyM_take hT385 5 61 (some 22) (vI (a.ep % 2)) (yld_in .i64 (IntKind.i64.wrap ((a.ep % 2 : Nat) : Int)) (wrapS rfl (by omega) (by omega))) (anyM_one 1 63 (op_call (some 18) (c_CSlot a _) ?_))))))
  rintro _ w8 ⟨rfl, hEw8⟩
  have hzw8 := hEw8.size
  refine ⟨.inr hEw8, ?_⟩
  refine anyM_take (hw := show Ext w7 w8 from hEw8) hT385 6 127 (some 23) vF (yld_b (((a.ep % 2 : Nat) : Int) != ((a.ep % 2 : Nat) : Int)) (cmpNeF (by omega))) (anyM_done (then_code (wpC_false (wpC_skip (then_code (wpC_seq (wpC_seq (wpC_region (wpF_run 1 [(24, (vP w.heap.size 32))] ?_)))))))))
  refine wpF_step (op_v (some 25) (Instr.loadAt 28 (vP w.heap.size 32)) (vQ a.ep) (rn_ld ((hK1.ext hEw8).cell (cel_ep _))) ?_)
  refine wpF_step (op_b (some 26) (((a.ep : Nat) : Int) == ((18446744073709551615 : Nat) : Int)) false (cmpEqF (by omega)) ?_)
  refine wpF_end (then_code (wpC_false (wpC_seq (wpC_region (wpF_run 3 [(36, vF), (35, vF), (34, (vI 0))] (wpF_step (op_v (some 37) (Instr.loadAt 30 (vP w4.heap.size 0)) (vA (celC (a.nxt d))) (rn_lda (vs := celC (a.nxt d)) ((((hBw6.ext hEw7)).ext hEw8).all) (by rw [celC_len]; kernel_rfl)) ?_)))))))
  have hK2 := (((((((((((hBw2.ext hEw3)).ext hEw4)).ext hEw5)).chg hCw6 (fun hs => by have h : _ = _ := hs; omega))).ext hEw7)).ext hEw8)
  refine wpF_step (op_v (some 38) (Instr.loadAt 27 (vP w1.heap.size 0)) (vA (digC d)) (rn_lda (vs := digC d) (hK2.all) (by rw [digC_len]; kernel_rfl)) ?_)
  refine wpF_run 1 [(39, (vP w.heap.size 32))] (wpF_step (op_v (some 40) (Instr.loadAt 28 (vP w.heap.size 32)) (vQ a.ep) (rn_ld ((hK1.ext hEw8).cell (cel_ep _))) ?_))
  refine wpF_step (op_in (some 41) .u64 (IntKind.u64.wrap (((a.ep : Nat) : Int) + ((1 : Nat) : Int))) ((a.ep + 1) % 2 ^ 64) (wrapU rfl (by simp)) ?_)
  refine wpF_run 1 [(42, (vP w.heap.size 33))] (wpF_step (op_v (some 43) (Instr.loadAt 28 (vP w.heap.size 33)) (vQ a.mark) (rn_ld ((hK1.ext hEw8).cell (cel_mk _))) ?_))
  refine wpF_step (op_v (some 44) (Instr.build 30 #[(0, (vA (digC d))), (1, (vQ ((a.ep + 1) % 2 ^ 64))), (2, (vQ a.mark))]) (vA (celC (a.nxt d))) ((run_build_cel d ((a.ep + 1) % 2 ^ 64) a.mark (by omega) (by omega)).trans (congrArg (fun z : Cel => Result.ok (Value.agg (celC z).toArray) _) (show (⟨d, (a.ep + 1) % 2 ^ 64, a.mark, by omega, by omega⟩ : Cel) = a.nxt d from rfl))) ?_)
  refine wpF_step (op_v (some 45) (bo .neq 30 (.tmp 37) (.tmp 44) (vA (celC (a.nxt d))) (vA (celC (a.nxt d)))) vF (run_neqAgg (r := true) (T := 30) ((run_eq_cel (dd := 9997) (t := 30) (td := 27) (e := 5) (t64 := 28) (a.nxt d) (a.nxt d)).trans (congrArg (fun b => Result.ok b _) (show ((a.nxt d).eqb (a.nxt d)) = true from cel_eqb_self _)))) ?_)
  refine wpF_run 2 [(47, vF), (46, vF)] (wpF_step (op_v (some 48) (Instr.loadAt 30 (vP w.heap.size 0)) (vA (celC a)) (rn_lda (vs := celC a) ((hK1.ext hEw8).all) (by rw [celC_len]; kernel_rfl)) ?_))
  refine wpF_step (op_v (some 49) (Instr.loadAt 30 (vP w4.heap.size 0)) (vA (celC (a.nxt d))) (rn_lda (vs := celC (a.nxt d)) ((((hBw6.ext hEw7)).ext hEw8).all) (by rw [celC_len]; kernel_rfl)) ?_)
  refine wpF_step (op_call (some 50) (c_Fol a (a.nxt d) _) ?_)
  rintro _ w9 ⟨rfl, hEw9⟩
  have hzw9 := hEw9.size
  rw [show fol a (a.nxt d) = 1 from fol_nxt hp2]
  refine wpF_run 2 [(52, vF), (51, vF)] (wpF_end (then_code (wpC_false (wpC_skip (then_code (wpC_seq (wpC_region (wpF_step (op_v (some 54) (Instr.loadAt 30 (vP w.heap.size 0)) (vA (celC a)) (rn_lda (vs := celC a) ((((hK1.ext hEw8)).ext hEw9).all) (by rw [celC_len]; kernel_rfl)) ?_)))))))))
  refine wpF_step (op_v (some 55) (Instr.indexAt 39 (vP w2.heap.size 0) (vI 0)) (vP w2.heap.size 0) (rn_ixa (E := 28) (sz := 1) (m := 2) (by omega)) ?_)
  have hK3 := (((((((((((hBw3.ext hEw4)).ext hEw5)).chg hCw6 (fun hs => by have h : _ = _ := hs; omega))).ext hEw7)).ext hEw8)).ext hEw9)
  refine wpF_step (op_v (some 56) (Instr.loadAt 28 (vP w2.heap.size 0)) (vQ x) (rn_ld (hK3.cell rfl)) ?_)
  refine wpF_step (op_v (some 57) (Instr.indexAt 39 (vP w2.heap.size 0) (vI 1)) (vP w2.heap.size 1) (rn_ixa (E := 28) (sz := 1) (m := 2) (by omega)) ?_)
  refine wpF_step (op_v (some 58) (Instr.loadAt 28 (vP w2.heap.size 1)) (vQ y) (rn_ld (hK3.cell rfl)) ?_)
  refine wpF_step (op_call (some 59) (c_Rsv a x y _ (by omega) (by omega) (by omega)) ?_)
  rintro _ w10 ⟨rfl, hEw10⟩
  have hzw10 := hEw10.size
  refine wpF_run 3 [(61, (vI 0)), (60, (vA (celC (a.rsv x)))), (53, (.tuple #[(vA (celC (a.rsv x))), (vI 0)]))] (wpF_step (op_new (some 9) (Instr.alloc 30 true (.tuple #[])) (vP w10.heap.size 0) (celC Cel.zero) 30 ?_))
  intro w11 hBw11 hEw11
  have hzw11 := hEw11.size; have hlw11 := hBw11.lt
  refine wpF_step (op_store 30 w10.heap.size 0 30 (vA (celC (a.rsv x))) (celC Cel.zero) (celC (a.rsv x)) hBw11 (by rw [celC_len]; kernel_rfl) (by first | (simp; done) | (simp; omega)) (celC_one _) ?_)
  intro w12 hBw12 hCw12
  have hzw12 := hCw12.size
  rw [setFrom_all _ _ (by simp)] at hBw12
  refine wpF_run 1 [(8, (vI 0))] (wpF_end (then_code (wpC_seq (wpC_seq (wpC_region (wpF_step (op_v (some 62) (Instr.indexAt 39 (vP w2.heap.size 0) (vI 0)) (vP w2.heap.size 0) (rn_ixa (E := 28) (sz := 1) (m := 2) (by omega)) ?_)))))))
  have hK4 := (((((hK3.ext hEw10)).ext hEw11)).chg hCw12 (fun hs => by have h : _ = _ := hs; omega))
  refine wpF_step (op_v (some 63) (Instr.loadAt 28 (vP w2.heap.size 0)) (vQ x) (rn_ld (hK4.cell rfl)) ?_)
  refine wpF_step (op_b (some 64) (((x : Nat) : Int) == ((0 : Nat) : Int)) false (cmpEqF (by omega)) ?_)
  refine wpF_end (then_code (wpC_false (wpC_skip (then_code (wpC_seq (wpC_region (wpF_run 1 [(75, (vP w.heap.size 33))] ?_)))))))
  have hK5 := (((((((((hK1.ext hEw8)).ext hEw9)).ext hEw10)).ext hEw11)).chg hCw12 (fun hs => by have h : _ = _ := hs; omega))
  refine wpF_step (op_v (some 76) (Instr.loadAt 28 (vP w.heap.size 33)) (vQ a.mark) (rn_ld (hK5.cell (cel_mk _))) ?_)
  refine wpF_step (op_v (some 77) (Instr.indexAt 39 (vP w2.heap.size 0) (vI 0)) (vP w2.heap.size 0) (rn_ixa (E := 28) (sz := 1) (m := 2) (by omega)) ?_)
  refine wpF_step (op_v (some 78) (Instr.loadAt 28 (vP w2.heap.size 0)) (vQ x) (rn_ld (hK4.cell rfl)) ?_)
  refine wpF_step (op_in (some 79) .u64 (IntKind.u64.wrap (((a.mark : Nat) : Int) + ((x : Nat) : Int))) ((a.mark + x) % 2 ^ 64) (wrapU rfl (by simp)) ?_)
  refine wpF_run 1 [(10, (vQ ((a.mark + x) % 2 ^ 64)))] (wpF_end (then_code (wpC_seq (wpC_seq (wpC_region (wpF_run 2 [(81, (vP w.heap.size 33)), (80, (vQ ((a.mark + x) % 2 ^ 64)))] (wpF_step (op_v (some 82) (Instr.loadAt 28 (vP w.heap.size 33)) (vQ a.mark) (rn_ld (hK5.cell (cel_mk _))) ?_))))))))
  refine wpF_step (op_b (some 83) (decide ((((a.mark + x) % 2 ^ 64 : Nat) : Int) < ((a.mark : Nat) : Int))) false (cmpDF (by omega)) ?_)
  refine wpF_run 2 [(85, (vQ ((a.mark + x) % 2 ^ 64))), (84, vF)] (wpF_step (op_v (some 86) (Instr.indexAt 39 (vP w2.heap.size 0) (vI 1)) (vP w2.heap.size 1) (rn_ixa (E := 28) (sz := 1) (m := 2) (by omega)) ?_))
  refine wpF_step (op_v (some 87) (Instr.loadAt 28 (vP w2.heap.size 1)) (vQ y) (rn_ld (hK4.cell rfl)) ?_)
  refine wpF_step (op_b (some 88) (decide ((((a.mark + x) % 2 ^ 64 : Nat) : Int) > ((y : Nat) : Int))) false (cmpDF (by omega)) ?_)
  refine wpF_run 1 [(89, vF)] (wpF_end (then_code (wpC_false (wpC_skip (then_code (wpC_seq (wpC_region (wpF_run 3 [(102, vT), (101, vT), (100, (vI 0))] (wpF_step (op_v (some 103) (Instr.loadAt 30 (vP w10.heap.size 0)) (vA (celC (a.rsv x))) (rn_lda (vs := celC (a.rsv x)) (hBw12.all) (by rw [celC_len]; kernel_rfl)) ?_))))))))))
  refine wpF_run 1 [(104, (vP w.heap.size 0))] (wpF_step (op_v (some 105) (Instr.loadAt 27 (vP w.heap.size 0)) (vA (digC a.root)) (rn_lda (vs := digC a.root) (hK5.at 0 (digC a.root) (cel_root _)) (by rw [digC_len]; kernel_rfl)) ?_))
  refine wpF_run 1 [(106, (vP w.heap.size 32))] (wpF_step (op_v (some 107) (Instr.loadAt 28 (vP w.heap.size 32)) (vQ a.ep) (rn_ld (hK5.cell (cel_ep _))) ?_))
  refine wpF_run 1 [(108, (vQ ((a.mark + x) % 2 ^ 64)))] (wpF_step (op_v (some 109) (Instr.build 30 #[(0, (vA (digC a.root))), (1, (vQ a.ep)), (2, (vQ ((a.mark + x) % 2 ^ 64)))]) (vA (celC (a.rsv x))) ((run_build_cel a.root a.ep ((a.mark + x) % 2 ^ 64) (by omega) (by omega)).trans (congrArg (fun z : Cel => Result.ok (Value.agg (celC z).toArray) _) (show (⟨a.root, a.ep, (a.mark + x) % 2 ^ 64, by omega, by omega⟩ : Cel) = a.rsv x from rfl))) ?_))
  refine wpF_step (op_v (some 110) (bo .eql 30 (.tmp 103) (.tmp 109) (vA (celC (a.rsv x))) (vA (celC (a.rsv x)))) vT (run_eqlAgg (r := true) (T := 30) ((run_eq_cel (dd := 9997) (t := 30) (td := 27) (e := 5) (t64 := 28) (a.rsv x) (a.rsv x)).trans (congrArg (fun b => Result.ok b _) (show ((a.rsv x).eqb (a.rsv x)) = true from cel_eqb_self _)))) ?_)
  refine wpF_run 2 [(112, vT), (111, vT)] (wpF_step (op_v (some 113) (Instr.loadAt 30 (vP w.heap.size 0)) (vA (celC a)) (rn_lda (vs := celC a) (hK5.all) (by rw [celC_len]; kernel_rfl)) ?_))
  refine wpF_step (op_v (some 114) (Instr.loadAt 30 (vP w10.heap.size 0)) (vA (celC (a.rsv x))) (rn_lda (vs := celC (a.rsv x)) (hBw12.all) (by rw [celC_len]; kernel_rfl)) ?_)
  refine wpF_step (op_call (some 115) (c_Fol a (a.rsv x) _) ?_)
  rintro _ w13 ⟨rfl, hEw13⟩
  have hzw13 := hEw13.size
  rw [show fol a (a.rsv x) = 2 from fol_rsv hp3.1 (by omega)]
  refine wpF_run 3 [(118, vT), (117, vT), (116, vT)] (wpF_step (op_v (some 119) (Instr.loadAt 30 (vP w10.heap.size 0)) (vA (celC (a.rsv x))) (rn_lda (vs := celC (a.rsv x)) ((hBw12.ext hEw13).all) (by rw [celC_len]; kernel_rfl)) ?_))
  refine wpF_step (op_v (some 120) (Instr.loadAt 30 (vP w.heap.size 0)) (vA (celC a)) (rn_lda (vs := celC a) ((hK5.ext hEw13).all) (by rw [celC_len]; kernel_rfl)) ?_)
  refine wpF_step (op_call (some 121) (c_Fol (a.rsv x) a _) ?_)
  rintro _ w14 ⟨rfl, hEw14⟩
  have hzw14 := hEw14.size
  rw [show fol (a.rsv x) a = 0 from fol_back hp3.1 (by omega)]
  refine wpF_run 3 [(124, vT), (123, vT), (122, vT)] ?_
  have hK6 := (((((((((((((((((((((((((((hg0.ext hEw1)).ext hEw2)).ext hEw3)).ext hEw4)).ext hEw5)).chg hCw6 (fun hs => by have h : _ = _ := hs; omega))).ext hEw7)).ext hEw8)).ext hEw9)).ext hEw10)).ext hEw11)).chg hCw12 (fun hs => by have h : _ = _ := hs; omega))).ext hEw13)).ext hEw14)
  have hK7 := (((((((((((((((((((((((((((hg1.ext hEw1)).ext hEw2)).ext hEw3)).ext hEw4)).ext hEw5)).chg hCw6 (fun hs => by have h : _ = _ := hs; omega))).ext hEw7)).ext hEw8)).ext hEw9)).ext hEw10)).ext hEw11)).chg hCw12 (fun hs => by have h : _ = _ := hs; omega))).ext hEw13)).ext hEw14)
  have hK8 := (((((((((((((((((((((((((((hg2.ext hEw1)).ext hEw2)).ext hEw3)).ext hEw4)).ext hEw5)).chg hCw6 (fun hs => by have h : _ = _ := hs; omega))).ext hEw7)).ext hEw8)).ext hEw9)).ext hEw10)).ext hEw11)).chg hCw12 (fun hs => by have h : _ = _ := hs; omega))).ext hEw13)).ext hEw14)
  refine wpF_step (op_call (some 125) (c_lives15 _ hK6 hK7 hK8) ?_)
  rintro _ w15 ⟨rfl, hEw15⟩
  have hzw15 := hEw15.size
  refine wpF_run 2 [(6, vT), (126, vT)] (wpF_end (then_code (wpC_ret (body_rets vT ?_))))
  have hX1 : Ext w w15 := ((((Ext.own ((((((Ext.own ((((hEw1.trans hEw2).trans hEw3).trans hEw4).trans hEw5) hCw6 (by omega)).trans hEw7).trans hEw8).trans hEw9).trans hEw10).trans hEw11) hCw12 (by omega)).trans hEw13).trans hEw14).trans hEw15)
  exact ⟨rfl, hX1⟩

theorem c_CSt10 (a : Cel) (d : Dig) (x : Nat) (y : Nat)  (w : World) (hp0 : x < 2 ^ 64) (hp1 : y < 2 ^ 64) (hp2 : a.ep = 2 ^ 64 - 1) (hp3 : x = 0) (hg0 : Gl 0 [vI 45, vI 33] w) (hg1 : Gl 1 (w8C iniA) w) (hg2 : Gl 2 (w64C kA) w) :
    Calls Tryd.prog 4 #[(vA (celC a)), (vA (digC d)), (vA [(vQ x), (vQ y)])] w (Ret fun r w' => r = vT ∧ Ext w w') := by
  refine calls_of (n := 127) (σ := [(0, (vA (celC a))), (1, (vA (digC d))), (2, (vA [(vQ x), (vQ y)]))]) Tryd.func4 rfl ?_
  have hgl0 := hg0.lt
  have hgl1 := hg1.lt
  have hgl2 := hg2.lt
  have hep := a.hep; have hmk := a.hmk
  refine wpC_seq (wpC_region (wpF_step (op_new (some 3) (Instr.box 30 (vA (celC a))) (vP w.heap.size 0) (celC a) 30 ?_)))
  intro w1 hBw1 hEw1
  have hzw1 := hEw1.size; have hlw1 := hBw1.lt
  refine wpF_step (op_new (some 4) (Instr.box 27 (vA (digC d))) (vP w1.heap.size 0) (digC d) 27 ?_)
  intro w2 hBw2 hEw2
  have hzw2 := hEw2.size; have hlw2 := hBw2.lt
  refine wpF_step (op_new (some 5) (Instr.box 39 (vA [(vQ x), (vQ y)])) (vP w2.heap.size 0) ([(vQ x), (vQ y)]) 39 ?_)
  intro w3 hBw3 hEw3
  have hzw3 := hEw3.size; have hlw3 := hBw3.lt
  refine wpF_run 1 [(6, vF)] (wpF_end (then_code (wpC_seq (wpC_region (wpF_step (op_v (some 12) (Instr.loadAt 30 (vP w.heap.size 0)) (vA (celC a)) (rn_lda (vs := celC a) ((((hBw1.ext hEw2)).ext hEw3).all) (by rw [celC_len]; kernel_rfl)) ?_))))))
  refine wpF_step (op_v (some 13) (Instr.loadAt 27 (vP w1.heap.size 0)) (vA (digC d)) (rn_lda (vs := digC d) ((hBw2.ext hEw3).all) (by rw [digC_len]; kernel_rfl)) ?_)
  refine wpF_step (op_call (some 14) (c_CNextBad a d _ (by first | omega | decide)) ?_)
  rintro _ w4 ⟨rfl, hEw4⟩
  have hzw4 := hEw4.size
  refine wpF_run 3 [(16, (vI 3)), (15, (vA (celC Cel.zero))), (11, (.tuple #[(vA (celC Cel.zero)), (vI 3)]))] (wpF_step (op_new (some 7) (Instr.alloc 30 true (.tuple #[])) (vP w4.heap.size 0) (celC Cel.zero) 30 ?_))
  intro w5 hBw5 hEw5
  have hzw5 := hEw5.size; have hlw5 := hBw5.lt
  refine wpF_step (op_store 30 w4.heap.size 0 30 (vA (celC Cel.zero)) (celC Cel.zero) (celC Cel.zero) hBw5 (by rw [celC_len]; kernel_rfl) (by first | (simp; done) | (simp; omega)) (celC_one _) ?_)
  intro w6 hBw6 hCw6
  have hzw6 := hCw6.size
  rw [setFrom_all _ _ (by simp)] at hBw6
  refine wpF_run 1 [(8, (vI 3))] (wpF_end (then_code (wpC_seq (wpC_seq (wpC_drawM (Ext w6.drew) 7 [(18, 8, 0), (19, 131072, 1), (20, 8, 0), (21, 524288, 4), (22, 1048576, 8), (23, 2097152, 16), (24, 4456448, 34)] (fun hT498 => ?_))))))
  have hEw7 : Ext w6 w6.drew := Ext.drew w6
  generalize w6.drew = w7 at hEw7 ⊢
  have hzw7 := hEw7.size
  have hK1 := (((((((((((hBw1.ext hEw2)).ext hEw3)).ext hEw4)).ext hEw5)).chg hCw6 (fun hs => by have h : _ = _ := hs; omega))).ext hEw7)
  refine anyM_take hT498 0 1 (some 17) (vA (celC a)) (yld_val (Instr.loadAt 30 (vP w.heap.size 0)) (fun w' hC => rn_lda (vs := celC a) ((hK1.ext hC).all) (by rw [celC_len]; kernel_rfl))) (anyM_run hT498 [(2, 19, (vP w.heap.size 32))] 1 5 (anyM_take hT498 3 13 (some 20) (vQ a.ep) (yld_val (Instr.loadAt 28 (vP w.heap.size 32)) (fun w' hC => rn_ld ((hK1.ext hC).cell (cel_ep _)))) (anyM_take hT498 4 29 (some 21) (vQ (a.ep % 2)) (yld_in .u64 ((IntKind.u64.wrap ((BitVec.ofInt IntKind.u64.bits ((a.ep : Nat) : Int) &&& BitVec.ofInt IntKind.u64.bits ((1 : Nat) : Int)).toNat : Int))) ((andU .u64 rfl (by show _ < 2 ^ 64; omega) (by decide)).trans (congrArg (fun z : Nat => (z : Int)) (Nat.and_one_is_mod _)))) (anyM_take hT498 5 61 (some 22) (vI (a.ep % 2)) (yld_in .i64 (IntKind.i64.wrap ((a.ep % 2 : Nat) : Int)) (wrapS rfl (by omega) (by omega))) (anyM_one 1 63 (op_call (some 18) (c_CSlot a _) ?_))))))
  rintro _ w8 ⟨rfl, hEw8⟩
  have hzw8 := hEw8.size
  refine ⟨.inr hEw8, ?_⟩
  refine anyM_take (hw := show Ext w7 w8 from hEw8) hT498 6 127 (some 23) vF (yld_b (((a.ep % 2 : Nat) : Int) != ((a.ep % 2 : Nat) : Int)) (cmpNeF (by omega))) (anyM_done (then_code (wpC_false (wpC_skip (then_code (wpC_seq (wpC_seq (wpC_region (wpF_run 1 [(24, (vP w.heap.size 32))] ?_)))))))))
  refine wpF_step (op_v (some 25) (Instr.loadAt 28 (vP w.heap.size 32)) (vQ a.ep) (rn_ld ((hK1.ext hEw8).cell (cel_ep _))) ?_)
  refine wpF_step (op_b (some 26) (((a.ep : Nat) : Int) == ((18446744073709551615 : Nat) : Int)) true (cmpEqT (by omega)) ?_)
  refine wpF_end (then_code (wpC_true (wpC_seq (wpC_region (wpF_run 3 [(29, vF), (28, vF), (27, (vI 3))] (wpF_step (op_v (some 30) (Instr.loadAt 30 (vP w4.heap.size 0)) (vA (celC Cel.zero)) (rn_lda (vs := celC Cel.zero) ((((hBw6.ext hEw7)).ext hEw8).all) (by rw [celC_len]; kernel_rfl)) ?_)))))))
  refine wpF_run 1 [(31, (vA (celC Cel.zero)))] (wpF_step (op_v (some 32) (bo .neq 30 (.tmp 30) (.tmp 31) (vA (celC Cel.zero)) (vA (celC Cel.zero))) vF (run_neqAgg (r := true) (T := 30) ((run_eq_cel (dd := 9997) (t := 30) (td := 27) (e := 5) (t64 := 28) Cel.zero Cel.zero).trans (congrArg (fun b => Result.ok b _) (show (Cel.zero.eqb Cel.zero) = true from cel_eqb_self _)))) ?_))
  refine wpF_run 1 [(33, vF)] (wpF_end (then_code (wpC_false (wpC_skip (then_code (wpC_seq (wpC_region (wpF_step (op_v (some 54) (Instr.loadAt 30 (vP w.heap.size 0)) (vA (celC a)) (rn_lda (vs := celC a) ((hK1.ext hEw8).all) (by rw [celC_len]; kernel_rfl)) ?_)))))))))
  refine wpF_step (op_v (some 55) (Instr.indexAt 39 (vP w2.heap.size 0) (vI 0)) (vP w2.heap.size 0) (rn_ixa (E := 28) (sz := 1) (m := 2) (by omega)) ?_)
  have hK2 := (((((((((hBw3.ext hEw4)).ext hEw5)).chg hCw6 (fun hs => by have h : _ = _ := hs; omega))).ext hEw7)).ext hEw8)
  refine wpF_step (op_v (some 56) (Instr.loadAt 28 (vP w2.heap.size 0)) (vQ x) (rn_ld (hK2.cell rfl)) ?_)
  refine wpF_step (op_v (some 57) (Instr.indexAt 39 (vP w2.heap.size 0) (vI 1)) (vP w2.heap.size 1) (rn_ixa (E := 28) (sz := 1) (m := 2) (by omega)) ?_)
  refine wpF_step (op_v (some 58) (Instr.loadAt 28 (vP w2.heap.size 1)) (vQ y) (rn_ld (hK2.cell rfl)) ?_)
  refine wpF_step (op_call (some 59) (c_RsvArg a x y _ (by omega)) ?_)
  rintro _ w9 ⟨rfl, hEw9⟩
  have hzw9 := hEw9.size
  refine wpF_run 3 [(61, (vI 1)), (60, (vA (celC Cel.zero))), (53, (.tuple #[(vA (celC Cel.zero)), (vI 1)]))] (wpF_step (op_new (some 9) (Instr.alloc 30 true (.tuple #[])) (vP w9.heap.size 0) (celC Cel.zero) 30 ?_))
  intro w10 hBw10 hEw10
  have hzw10 := hEw10.size; have hlw10 := hBw10.lt
  refine wpF_step (op_store 30 w9.heap.size 0 30 (vA (celC Cel.zero)) (celC Cel.zero) (celC Cel.zero) hBw10 (by rw [celC_len]; kernel_rfl) (by first | (simp; done) | (simp; omega)) (celC_one _) ?_)
  intro w11 hBw11 hCw11
  have hzw11 := hCw11.size
  rw [setFrom_all _ _ (by simp)] at hBw11
  refine wpF_run 1 [(8, (vI 1))] (wpF_end (then_code (wpC_seq (wpC_seq (wpC_region (wpF_step (op_v (some 62) (Instr.indexAt 39 (vP w2.heap.size 0) (vI 0)) (vP w2.heap.size 0) (rn_ixa (E := 28) (sz := 1) (m := 2) (by omega)) ?_)))))))
  have hK3 := (((((hK2.ext hEw9)).ext hEw10)).chg hCw11 (fun hs => by have h : _ = _ := hs; omega))
  refine wpF_step (op_v (some 63) (Instr.loadAt 28 (vP w2.heap.size 0)) (vQ x) (rn_ld (hK3.cell rfl)) ?_)
  refine wpF_step (op_b (some 64) (((x : Nat) : Int) == ((0 : Nat) : Int)) true (cmpEqT (by omega)) ?_)
  refine wpF_end (then_code (wpC_true (wpC_seq (wpC_region (wpF_run 3 [(67, vT), (66, vT), (65, (vI 1))] (wpF_step (op_v (some 68) (Instr.loadAt 30 (vP w9.heap.size 0)) (vA (celC Cel.zero)) (rn_lda (vs := celC Cel.zero) (hBw11.all) (by rw [celC_len]; kernel_rfl)) ?_)))))))
  refine wpF_run 1 [(69, (vA (celC Cel.zero)))] (wpF_step (op_v (some 70) (bo .eql 30 (.tmp 68) (.tmp 69) (vA (celC Cel.zero)) (vA (celC Cel.zero))) vT (run_eqlAgg (r := true) (T := 30) ((run_eq_cel (dd := 9997) (t := 30) (td := 27) (e := 5) (t64 := 28) Cel.zero Cel.zero).trans (congrArg (fun b => Result.ok b _) (show (Cel.zero.eqb Cel.zero) = true from cel_eqb_self _)))) ?_))
  refine wpF_run 2 [(72, vT), (71, vT)] ?_
  have hK4 := (((((((((((((((((((((hg0.ext hEw1)).ext hEw2)).ext hEw3)).ext hEw4)).ext hEw5)).chg hCw6 (fun hs => by have h : _ = _ := hs; omega))).ext hEw7)).ext hEw8)).ext hEw9)).ext hEw10)).chg hCw11 (fun hs => by have h : _ = _ := hs; omega))
  have hK5 := (((((((((((((((((((((hg1.ext hEw1)).ext hEw2)).ext hEw3)).ext hEw4)).ext hEw5)).chg hCw6 (fun hs => by have h : _ = _ := hs; omega))).ext hEw7)).ext hEw8)).ext hEw9)).ext hEw10)).chg hCw11 (fun hs => by have h : _ = _ := hs; omega))
  have hK6 := (((((((((((((((((((((hg2.ext hEw1)).ext hEw2)).ext hEw3)).ext hEw4)).ext hEw5)).chg hCw6 (fun hs => by have h : _ = _ := hs; omega))).ext hEw7)).ext hEw8)).ext hEw9)).ext hEw10)).chg hCw11 (fun hs => by have h : _ = _ := hs; omega))
  refine wpF_step (op_call (some 73) (c_lives15 _ hK4 hK5 hK6) ?_)
  rintro _ w12 ⟨rfl, hEw12⟩
  have hzw12 := hEw12.size
  refine wpF_run 2 [(6, vT), (74, vT)] (wpF_end (then_code (wpC_ret (then_ret (body_rets vT ?_)))))
  have hX1 : Ext w w12 := ((Ext.own (((((Ext.own ((((hEw1.trans hEw2).trans hEw3).trans hEw4).trans hEw5) hCw6 (by omega)).trans hEw7).trans hEw8).trans hEw9).trans hEw10) hCw11 (by omega)).trans hEw12)
  exact ⟨rfl, hX1⟩

theorem c_CSt11 (a : Cel) (d : Dig) (x : Nat) (y : Nat)  (w : World) (hp0 : x < 2 ^ 64) (hp1 : y < 2 ^ 64) (hp2 : a.ep = 2 ^ 64 - 1) (hp3 : x ≠ 0 ∧ y < a.mark + x) (hg0 : Gl 0 [vI 45, vI 33] w) (hg1 : Gl 1 (w8C iniA) w) (hg2 : Gl 2 (w64C kA) w) :
    Calls Tryd.prog 4 #[(vA (celC a)), (vA (digC d)), (vA [(vQ x), (vQ y)])] w (Ret fun r w' => r = vT ∧ Ext w w') := by
  refine calls_of (n := 127) (σ := [(0, (vA (celC a))), (1, (vA (digC d))), (2, (vA [(vQ x), (vQ y)]))]) Tryd.func4 rfl ?_
  have hgl0 := hg0.lt
  have hgl1 := hg1.lt
  have hgl2 := hg2.lt
  have hep := a.hep; have hmk := a.hmk
  refine wpC_seq (wpC_region (wpF_step (op_new (some 3) (Instr.box 30 (vA (celC a))) (vP w.heap.size 0) (celC a) 30 ?_)))
  intro w1 hBw1 hEw1
  have hzw1 := hEw1.size; have hlw1 := hBw1.lt
  refine wpF_step (op_new (some 4) (Instr.box 27 (vA (digC d))) (vP w1.heap.size 0) (digC d) 27 ?_)
  intro w2 hBw2 hEw2
  have hzw2 := hEw2.size; have hlw2 := hBw2.lt
  refine wpF_step (op_new (some 5) (Instr.box 39 (vA [(vQ x), (vQ y)])) (vP w2.heap.size 0) ([(vQ x), (vQ y)]) 39 ?_)
  intro w3 hBw3 hEw3
  have hzw3 := hEw3.size; have hlw3 := hBw3.lt
  refine wpF_run 1 [(6, vF)] (wpF_end (then_code (wpC_seq (wpC_region (wpF_step (op_v (some 12) (Instr.loadAt 30 (vP w.heap.size 0)) (vA (celC a)) (rn_lda (vs := celC a) ((((hBw1.ext hEw2)).ext hEw3).all) (by rw [celC_len]; kernel_rfl)) ?_))))))
  refine wpF_step (op_v (some 13) (Instr.loadAt 27 (vP w1.heap.size 0)) (vA (digC d)) (rn_lda (vs := digC d) ((hBw2.ext hEw3).all) (by rw [digC_len]; kernel_rfl)) ?_)
  refine wpF_step (op_call (some 14) (c_CNextBad a d _ (by first | omega | decide)) ?_)
  rintro _ w4 ⟨rfl, hEw4⟩
  have hzw4 := hEw4.size
  refine wpF_run 3 [(16, (vI 3)), (15, (vA (celC Cel.zero))), (11, (.tuple #[(vA (celC Cel.zero)), (vI 3)]))] (wpF_step (op_new (some 7) (Instr.alloc 30 true (.tuple #[])) (vP w4.heap.size 0) (celC Cel.zero) 30 ?_))
  intro w5 hBw5 hEw5
  have hzw5 := hEw5.size; have hlw5 := hBw5.lt
  refine wpF_step (op_store 30 w4.heap.size 0 30 (vA (celC Cel.zero)) (celC Cel.zero) (celC Cel.zero) hBw5 (by rw [celC_len]; kernel_rfl) (by first | (simp; done) | (simp; omega)) (celC_one _) ?_)
  intro w6 hBw6 hCw6
  have hzw6 := hCw6.size
  rw [setFrom_all _ _ (by simp)] at hBw6
  refine wpF_run 1 [(8, (vI 3))] (wpF_end (then_code (wpC_seq (wpC_seq (wpC_drawM (Ext w6.drew) 7 [(18, 8, 0), (19, 131072, 1), (20, 8, 0), (21, 524288, 4), (22, 1048576, 8), (23, 2097152, 16), (24, 4456448, 34)] (fun hT573 => ?_))))))
  have hEw7 : Ext w6 w6.drew := Ext.drew w6
  generalize w6.drew = w7 at hEw7 ⊢
  have hzw7 := hEw7.size
  have hK1 := (((((((((((hBw1.ext hEw2)).ext hEw3)).ext hEw4)).ext hEw5)).chg hCw6 (fun hs => by have h : _ = _ := hs; omega))).ext hEw7)
  refine anyM_take hT573 0 1 (some 17) (vA (celC a)) (yld_val (Instr.loadAt 30 (vP w.heap.size 0)) (fun w' hC => rn_lda (vs := celC a) ((hK1.ext hC).all) (by rw [celC_len]; kernel_rfl))) (anyM_run hT573 [(2, 19, (vP w.heap.size 32))] 1 5 (anyM_take hT573 3 13 (some 20) (vQ a.ep) (yld_val (Instr.loadAt 28 (vP w.heap.size 32)) (fun w' hC => rn_ld ((hK1.ext hC).cell (cel_ep _)))) (anyM_take hT573 4 29 (some 21) (vQ (a.ep % 2)) (yld_in .u64 ((IntKind.u64.wrap ((BitVec.ofInt IntKind.u64.bits ((a.ep : Nat) : Int) &&& BitVec.ofInt IntKind.u64.bits ((1 : Nat) : Int)).toNat : Int))) ((andU .u64 rfl (by show _ < 2 ^ 64; omega) (by decide)).trans (congrArg (fun z : Nat => (z : Int)) (Nat.and_one_is_mod _)))) (anyM_take hT573 5 61 (some 22) (vI (a.ep % 2)) (yld_in .i64 (IntKind.i64.wrap ((a.ep % 2 : Nat) : Int)) (wrapS rfl (by omega) (by omega))) (anyM_one 1 63 (op_call (some 18) (c_CSlot a _) ?_))))))
  rintro _ w8 ⟨rfl, hEw8⟩
  have hzw8 := hEw8.size
  refine ⟨.inr hEw8, ?_⟩
  refine anyM_take (hw := show Ext w7 w8 from hEw8) hT573 6 127 (some 23) vF (yld_b (((a.ep % 2 : Nat) : Int) != ((a.ep % 2 : Nat) : Int)) (cmpNeF (by omega))) (anyM_done (then_code (wpC_false (wpC_skip (then_code (wpC_seq (wpC_seq (wpC_region (wpF_run 1 [(24, (vP w.heap.size 32))] ?_)))))))))
  refine wpF_step (op_v (some 25) (Instr.loadAt 28 (vP w.heap.size 32)) (vQ a.ep) (rn_ld ((hK1.ext hEw8).cell (cel_ep _))) ?_)
  refine wpF_step (op_b (some 26) (((a.ep : Nat) : Int) == ((18446744073709551615 : Nat) : Int)) true (cmpEqT (by omega)) ?_)
  refine wpF_end (then_code (wpC_true (wpC_seq (wpC_region (wpF_run 3 [(29, vF), (28, vF), (27, (vI 3))] (wpF_step (op_v (some 30) (Instr.loadAt 30 (vP w4.heap.size 0)) (vA (celC Cel.zero)) (rn_lda (vs := celC Cel.zero) ((((hBw6.ext hEw7)).ext hEw8).all) (by rw [celC_len]; kernel_rfl)) ?_)))))))
  refine wpF_run 1 [(31, (vA (celC Cel.zero)))] (wpF_step (op_v (some 32) (bo .neq 30 (.tmp 30) (.tmp 31) (vA (celC Cel.zero)) (vA (celC Cel.zero))) vF (run_neqAgg (r := true) (T := 30) ((run_eq_cel (dd := 9997) (t := 30) (td := 27) (e := 5) (t64 := 28) Cel.zero Cel.zero).trans (congrArg (fun b => Result.ok b _) (show (Cel.zero.eqb Cel.zero) = true from cel_eqb_self _)))) ?_))
  refine wpF_run 1 [(33, vF)] (wpF_end (then_code (wpC_false (wpC_skip (then_code (wpC_seq (wpC_region (wpF_step (op_v (some 54) (Instr.loadAt 30 (vP w.heap.size 0)) (vA (celC a)) (rn_lda (vs := celC a) ((hK1.ext hEw8).all) (by rw [celC_len]; kernel_rfl)) ?_)))))))))
  refine wpF_step (op_v (some 55) (Instr.indexAt 39 (vP w2.heap.size 0) (vI 0)) (vP w2.heap.size 0) (rn_ixa (E := 28) (sz := 1) (m := 2) (by omega)) ?_)
  have hK2 := (((((((((hBw3.ext hEw4)).ext hEw5)).chg hCw6 (fun hs => by have h : _ = _ := hs; omega))).ext hEw7)).ext hEw8)
  refine wpF_step (op_v (some 56) (Instr.loadAt 28 (vP w2.heap.size 0)) (vQ x) (rn_ld (hK2.cell rfl)) ?_)
  refine wpF_step (op_v (some 57) (Instr.indexAt 39 (vP w2.heap.size 0) (vI 1)) (vP w2.heap.size 1) (rn_ixa (E := 28) (sz := 1) (m := 2) (by omega)) ?_)
  refine wpF_step (op_v (some 58) (Instr.loadAt 28 (vP w2.heap.size 1)) (vQ y) (rn_ld (hK2.cell rfl)) ?_)
  refine wpF_step (op_call (some 59) (c_RsvBad a x y _ (by omega) (by omega) (by omega)) ?_)
  rintro _ w9 ⟨rfl, hEw9⟩
  have hzw9 := hEw9.size
  refine wpF_run 3 [(61, (vI 8)), (60, (vA (celC Cel.zero))), (53, (.tuple #[(vA (celC Cel.zero)), (vI 8)]))] (wpF_step (op_new (some 9) (Instr.alloc 30 true (.tuple #[])) (vP w9.heap.size 0) (celC Cel.zero) 30 ?_))
  intro w10 hBw10 hEw10
  have hzw10 := hEw10.size; have hlw10 := hBw10.lt
  refine wpF_step (op_store 30 w9.heap.size 0 30 (vA (celC Cel.zero)) (celC Cel.zero) (celC Cel.zero) hBw10 (by rw [celC_len]; kernel_rfl) (by first | (simp; done) | (simp; omega)) (celC_one _) ?_)
  intro w11 hBw11 hCw11
  have hzw11 := hCw11.size
  rw [setFrom_all _ _ (by simp)] at hBw11
  refine wpF_run 1 [(8, (vI 8))] (wpF_end (then_code (wpC_seq (wpC_seq (wpC_region (wpF_step (op_v (some 62) (Instr.indexAt 39 (vP w2.heap.size 0) (vI 0)) (vP w2.heap.size 0) (rn_ixa (E := 28) (sz := 1) (m := 2) (by omega)) ?_)))))))
  have hK3 := (((((hK2.ext hEw9)).ext hEw10)).chg hCw11 (fun hs => by have h : _ = _ := hs; omega))
  refine wpF_step (op_v (some 63) (Instr.loadAt 28 (vP w2.heap.size 0)) (vQ x) (rn_ld (hK3.cell rfl)) ?_)
  refine wpF_step (op_b (some 64) (((x : Nat) : Int) == ((0 : Nat) : Int)) false (cmpEqF (by omega)) ?_)
  refine wpF_end (then_code (wpC_false (wpC_skip (then_code (wpC_seq (wpC_region (wpF_run 1 [(75, (vP w.heap.size 33))] ?_)))))))
  have hK4 := (((((((hK1.ext hEw8)).ext hEw9)).ext hEw10)).chg hCw11 (fun hs => by have h : _ = _ := hs; omega))
  refine wpF_step (op_v (some 76) (Instr.loadAt 28 (vP w.heap.size 33)) (vQ a.mark) (rn_ld (hK4.cell (cel_mk _))) ?_)
  refine wpF_step (op_v (some 77) (Instr.indexAt 39 (vP w2.heap.size 0) (vI 0)) (vP w2.heap.size 0) (rn_ixa (E := 28) (sz := 1) (m := 2) (by omega)) ?_)
  refine wpF_step (op_v (some 78) (Instr.loadAt 28 (vP w2.heap.size 0)) (vQ x) (rn_ld (hK3.cell rfl)) ?_)
  refine wpF_step (op_in (some 79) .u64 (IntKind.u64.wrap (((a.mark : Nat) : Int) + ((x : Nat) : Int))) ((a.mark + x) % 2 ^ 64) (wrapU rfl (by simp)) ?_)
  refine wpF_run 1 [(10, (vQ ((a.mark + x) % 2 ^ 64)))] (wpF_end (then_code (wpC_seq (wpC_seq (wpC_region (wpF_run 2 [(81, (vP w.heap.size 33)), (80, (vQ ((a.mark + x) % 2 ^ 64)))] (wpF_step (op_v (some 82) (Instr.loadAt 28 (vP w.heap.size 33)) (vQ a.mark) (rn_ld (hK4.cell (cel_mk _))) ?_))))))))
  refine wpF_step (op_split (some 83) (decide ((((a.mark + x) % 2 ^ 64 : Nat) : Int) < ((a.mark : Nat) : Int))) (fun hc83 => ?_) (fun hc83 => ?_))
  · replace hc83 : (a.mark + x) % 2 ^ 64 < a.mark := by have := of_d_t hc83; omega
    refine wpF_run 6 [(89, vT), (88, undef), (87, undef), (86, undef), (85, undef), (84, vT)] (wpF_end (then_code (wpC_true (wpC_seq (wpC_region (wpF_run 3 [(92, vT), (91, vT), (90, (vI 8))] (wpF_step (op_v (some 93) (Instr.loadAt 30 (vP w9.heap.size 0)) (vA (celC Cel.zero)) (rn_lda (vs := celC Cel.zero) (hBw11.all) (by rw [celC_len]; kernel_rfl)) ?_))))))))
    refine wpF_run 1 [(94, (vA (celC Cel.zero)))] (wpF_step (op_v (some 95) (bo .eql 30 (.tmp 93) (.tmp 94) (vA (celC Cel.zero)) (vA (celC Cel.zero))) vT (run_eqlAgg (r := true) (T := 30) ((run_eq_cel (dd := 9997) (t := 30) (td := 27) (e := 5) (t64 := 28) Cel.zero Cel.zero).trans (congrArg (fun b => Result.ok b _) (show (Cel.zero.eqb Cel.zero) = true from cel_eqb_self _)))) ?_))
    refine wpF_run 2 [(97, vT), (96, vT)] ?_
    have hK5 := (((((((((((((((((((((hg0.ext hEw1)).ext hEw2)).ext hEw3)).ext hEw4)).ext hEw5)).chg hCw6 (fun hs => by have h : _ = _ := hs; omega))).ext hEw7)).ext hEw8)).ext hEw9)).ext hEw10)).chg hCw11 (fun hs => by have h : _ = _ := hs; omega))
    have hK6 := (((((((((((((((((((((hg1.ext hEw1)).ext hEw2)).ext hEw3)).ext hEw4)).ext hEw5)).chg hCw6 (fun hs => by have h : _ = _ := hs; omega))).ext hEw7)).ext hEw8)).ext hEw9)).ext hEw10)).chg hCw11 (fun hs => by have h : _ = _ := hs; omega))
    have hK7 := (((((((((((((((((((((hg2.ext hEw1)).ext hEw2)).ext hEw3)).ext hEw4)).ext hEw5)).chg hCw6 (fun hs => by have h : _ = _ := hs; omega))).ext hEw7)).ext hEw8)).ext hEw9)).ext hEw10)).chg hCw11 (fun hs => by have h : _ = _ := hs; omega))
    refine wpF_step (op_call (some 98) (c_lives15 _ hK5 hK6 hK7) ?_)
    rintro _ w12 ⟨rfl, hEw12⟩
    have hzw12 := hEw12.size
    refine wpF_run 2 [(6, vT), (99, vT)] (wpF_end (then_code (wpC_ret (then_ret (body_rets vT ?_)))))
    have hX1 : Ext w w12 := ((Ext.own (((((Ext.own ((((hEw1.trans hEw2).trans hEw3).trans hEw4).trans hEw5) hCw6 (by omega)).trans hEw7).trans hEw8).trans hEw9).trans hEw10) hCw11 (by omega)).trans hEw12)
    exact ⟨rfl, hX1⟩
  · replace hc83 : ¬ ((a.mark + x) % 2 ^ 64 < a.mark) := by have := of_d_f hc83; omega
    refine wpF_run 2 [(85, (vQ ((a.mark + x) % 2 ^ 64))), (84, vF)] (wpF_step (op_v (some 86) (Instr.indexAt 39 (vP w2.heap.size 0) (vI 1)) (vP w2.heap.size 1) (rn_ixa (E := 28) (sz := 1) (m := 2) (by omega)) ?_))
    refine wpF_step (op_v (some 87) (Instr.loadAt 28 (vP w2.heap.size 1)) (vQ y) (rn_ld (hK3.cell rfl)) ?_)
    refine wpF_step (op_b (some 88) (decide ((((a.mark + x) % 2 ^ 64 : Nat) : Int) > ((y : Nat) : Int))) true (cmpDT (by omega)) ?_)
    refine wpF_run 1 [(89, vT)] (wpF_end (then_code (wpC_true (wpC_seq (wpC_region (wpF_run 3 [(92, vT), (91, vT), (90, (vI 8))] (wpF_step (op_v (some 93) (Instr.loadAt 30 (vP w9.heap.size 0)) (vA (celC Cel.zero)) (rn_lda (vs := celC Cel.zero) (hBw11.all) (by rw [celC_len]; kernel_rfl)) ?_))))))))
    refine wpF_run 1 [(94, (vA (celC Cel.zero)))] (wpF_step (op_v (some 95) (bo .eql 30 (.tmp 93) (.tmp 94) (vA (celC Cel.zero)) (vA (celC Cel.zero))) vT (run_eqlAgg (r := true) (T := 30) ((run_eq_cel (dd := 9997) (t := 30) (td := 27) (e := 5) (t64 := 28) Cel.zero Cel.zero).trans (congrArg (fun b => Result.ok b _) (show (Cel.zero.eqb Cel.zero) = true from cel_eqb_self _)))) ?_))
    refine wpF_run 2 [(97, vT), (96, vT)] ?_
    have hK8 := (((((((((((((((((((((hg0.ext hEw1)).ext hEw2)).ext hEw3)).ext hEw4)).ext hEw5)).chg hCw6 (fun hs => by have h : _ = _ := hs; omega))).ext hEw7)).ext hEw8)).ext hEw9)).ext hEw10)).chg hCw11 (fun hs => by have h : _ = _ := hs; omega))
    have hK9 := (((((((((((((((((((((hg1.ext hEw1)).ext hEw2)).ext hEw3)).ext hEw4)).ext hEw5)).chg hCw6 (fun hs => by have h : _ = _ := hs; omega))).ext hEw7)).ext hEw8)).ext hEw9)).ext hEw10)).chg hCw11 (fun hs => by have h : _ = _ := hs; omega))
    have hK10 := (((((((((((((((((((((hg2.ext hEw1)).ext hEw2)).ext hEw3)).ext hEw4)).ext hEw5)).chg hCw6 (fun hs => by have h : _ = _ := hs; omega))).ext hEw7)).ext hEw8)).ext hEw9)).ext hEw10)).chg hCw11 (fun hs => by have h : _ = _ := hs; omega))
    refine wpF_step (op_call (some 98) (c_lives15 _ hK8 hK9 hK10) ?_)
    rintro _ w13 ⟨rfl, hEw13⟩
    have hzw13 := hEw13.size
    refine wpF_run 2 [(6, vT), (99, vT)] (wpF_end (then_code (wpC_ret (then_ret (body_rets vT ?_)))))
    have hX2 : Ext w w13 := ((Ext.own (((((Ext.own ((((hEw1.trans hEw2).trans hEw3).trans hEw4).trans hEw5) hCw6 (by omega)).trans hEw7).trans hEw8).trans hEw9).trans hEw10) hCw11 (by omega)).trans hEw13)
    exact ⟨rfl, hX2⟩

theorem c_CSt12 (a : Cel) (d : Dig) (x : Nat) (y : Nat)  (w : World) (hp0 : x < 2 ^ 64) (hp1 : y < 2 ^ 64) (hp2 : a.ep = 2 ^ 64 - 1) (hp3 : x ≠ 0 ∧ a.mark + x ≤ y) (hg0 : Gl 0 [vI 45, vI 33] w) (hg1 : Gl 1 (w8C iniA) w) (hg2 : Gl 2 (w64C kA) w) :
    Calls Tryd.prog 4 #[(vA (celC a)), (vA (digC d)), (vA [(vQ x), (vQ y)])] w (Ret fun r w' => r = vT ∧ Ext w w') := by
  refine calls_of (n := 127) (σ := [(0, (vA (celC a))), (1, (vA (digC d))), (2, (vA [(vQ x), (vQ y)]))]) Tryd.func4 rfl ?_
  have hgl0 := hg0.lt
  have hgl1 := hg1.lt
  have hgl2 := hg2.lt
  have hep := a.hep; have hmk := a.hmk
  refine wpC_seq (wpC_region (wpF_step (op_new (some 3) (Instr.box 30 (vA (celC a))) (vP w.heap.size 0) (celC a) 30 ?_)))
  intro w1 hBw1 hEw1
  have hzw1 := hEw1.size; have hlw1 := hBw1.lt
  refine wpF_step (op_new (some 4) (Instr.box 27 (vA (digC d))) (vP w1.heap.size 0) (digC d) 27 ?_)
  intro w2 hBw2 hEw2
  have hzw2 := hEw2.size; have hlw2 := hBw2.lt
  refine wpF_step (op_new (some 5) (Instr.box 39 (vA [(vQ x), (vQ y)])) (vP w2.heap.size 0) ([(vQ x), (vQ y)]) 39 ?_)
  intro w3 hBw3 hEw3
  have hzw3 := hEw3.size; have hlw3 := hBw3.lt
  refine wpF_run 1 [(6, vF)] (wpF_end (then_code (wpC_seq (wpC_region (wpF_step (op_v (some 12) (Instr.loadAt 30 (vP w.heap.size 0)) (vA (celC a)) (rn_lda (vs := celC a) ((((hBw1.ext hEw2)).ext hEw3).all) (by rw [celC_len]; kernel_rfl)) ?_))))))
  refine wpF_step (op_v (some 13) (Instr.loadAt 27 (vP w1.heap.size 0)) (vA (digC d)) (rn_lda (vs := digC d) ((hBw2.ext hEw3).all) (by rw [digC_len]; kernel_rfl)) ?_)
  refine wpF_step (op_call (some 14) (c_CNextBad a d _ (by first | omega | decide)) ?_)
  rintro _ w4 ⟨rfl, hEw4⟩
  have hzw4 := hEw4.size
  refine wpF_run 3 [(16, (vI 3)), (15, (vA (celC Cel.zero))), (11, (.tuple #[(vA (celC Cel.zero)), (vI 3)]))] (wpF_step (op_new (some 7) (Instr.alloc 30 true (.tuple #[])) (vP w4.heap.size 0) (celC Cel.zero) 30 ?_))
  intro w5 hBw5 hEw5
  have hzw5 := hEw5.size; have hlw5 := hBw5.lt
  refine wpF_step (op_store 30 w4.heap.size 0 30 (vA (celC Cel.zero)) (celC Cel.zero) (celC Cel.zero) hBw5 (by rw [celC_len]; kernel_rfl) (by first | (simp; done) | (simp; omega)) (celC_one _) ?_)
  intro w6 hBw6 hCw6
  have hzw6 := hCw6.size
  rw [setFrom_all _ _ (by simp)] at hBw6
  refine wpF_run 1 [(8, (vI 3))] (wpF_end (then_code (wpC_seq (wpC_seq (wpC_drawM (Ext w6.drew) 7 [(18, 8, 0), (19, 131072, 1), (20, 8, 0), (21, 524288, 4), (22, 1048576, 8), (23, 2097152, 16), (24, 4456448, 34)] (fun hT673 => ?_))))))
  have hEw7 : Ext w6 w6.drew := Ext.drew w6
  generalize w6.drew = w7 at hEw7 ⊢
  have hzw7 := hEw7.size
  have hK1 := (((((((((((hBw1.ext hEw2)).ext hEw3)).ext hEw4)).ext hEw5)).chg hCw6 (fun hs => by have h : _ = _ := hs; omega))).ext hEw7)
  refine anyM_take hT673 0 1 (some 17) (vA (celC a)) (yld_val (Instr.loadAt 30 (vP w.heap.size 0)) (fun w' hC => rn_lda (vs := celC a) ((hK1.ext hC).all) (by rw [celC_len]; kernel_rfl))) (anyM_run hT673 [(2, 19, (vP w.heap.size 32))] 1 5 (anyM_take hT673 3 13 (some 20) (vQ a.ep) (yld_val (Instr.loadAt 28 (vP w.heap.size 32)) (fun w' hC => rn_ld ((hK1.ext hC).cell (cel_ep _)))) (anyM_take hT673 4 29 (some 21) (vQ (a.ep % 2)) (yld_in .u64 ((IntKind.u64.wrap ((BitVec.ofInt IntKind.u64.bits ((a.ep : Nat) : Int) &&& BitVec.ofInt IntKind.u64.bits ((1 : Nat) : Int)).toNat : Int))) ((andU .u64 rfl (by show _ < 2 ^ 64; omega) (by decide)).trans (congrArg (fun z : Nat => (z : Int)) (Nat.and_one_is_mod _)))) (anyM_take hT673 5 61 (some 22) (vI (a.ep % 2)) (yld_in .i64 (IntKind.i64.wrap ((a.ep % 2 : Nat) : Int)) (wrapS rfl (by omega) (by omega))) (anyM_one 1 63 (op_call (some 18) (c_CSlot a _) ?_))))))
  rintro _ w8 ⟨rfl, hEw8⟩
  have hzw8 := hEw8.size
  refine ⟨.inr hEw8, ?_⟩
  refine anyM_take (hw := show Ext w7 w8 from hEw8) hT673 6 127 (some 23) vF (yld_b (((a.ep % 2 : Nat) : Int) != ((a.ep % 2 : Nat) : Int)) (cmpNeF (by omega))) (anyM_done (then_code (wpC_false (wpC_skip (then_code (wpC_seq (wpC_seq (wpC_region (wpF_run 1 [(24, (vP w.heap.size 32))] ?_)))))))))
  refine wpF_step (op_v (some 25) (Instr.loadAt 28 (vP w.heap.size 32)) (vQ a.ep) (rn_ld ((hK1.ext hEw8).cell (cel_ep _))) ?_)
  refine wpF_step (op_b (some 26) (((a.ep : Nat) : Int) == ((18446744073709551615 : Nat) : Int)) true (cmpEqT (by omega)) ?_)
  refine wpF_end (then_code (wpC_true (wpC_seq (wpC_region (wpF_run 3 [(29, vF), (28, vF), (27, (vI 3))] (wpF_step (op_v (some 30) (Instr.loadAt 30 (vP w4.heap.size 0)) (vA (celC Cel.zero)) (rn_lda (vs := celC Cel.zero) ((((hBw6.ext hEw7)).ext hEw8).all) (by rw [celC_len]; kernel_rfl)) ?_)))))))
  refine wpF_run 1 [(31, (vA (celC Cel.zero)))] (wpF_step (op_v (some 32) (bo .neq 30 (.tmp 30) (.tmp 31) (vA (celC Cel.zero)) (vA (celC Cel.zero))) vF (run_neqAgg (r := true) (T := 30) ((run_eq_cel (dd := 9997) (t := 30) (td := 27) (e := 5) (t64 := 28) Cel.zero Cel.zero).trans (congrArg (fun b => Result.ok b _) (show (Cel.zero.eqb Cel.zero) = true from cel_eqb_self _)))) ?_))
  refine wpF_run 1 [(33, vF)] (wpF_end (then_code (wpC_false (wpC_skip (then_code (wpC_seq (wpC_region (wpF_step (op_v (some 54) (Instr.loadAt 30 (vP w.heap.size 0)) (vA (celC a)) (rn_lda (vs := celC a) ((hK1.ext hEw8).all) (by rw [celC_len]; kernel_rfl)) ?_)))))))))
  refine wpF_step (op_v (some 55) (Instr.indexAt 39 (vP w2.heap.size 0) (vI 0)) (vP w2.heap.size 0) (rn_ixa (E := 28) (sz := 1) (m := 2) (by omega)) ?_)
  have hK2 := (((((((((hBw3.ext hEw4)).ext hEw5)).chg hCw6 (fun hs => by have h : _ = _ := hs; omega))).ext hEw7)).ext hEw8)
  refine wpF_step (op_v (some 56) (Instr.loadAt 28 (vP w2.heap.size 0)) (vQ x) (rn_ld (hK2.cell rfl)) ?_)
  refine wpF_step (op_v (some 57) (Instr.indexAt 39 (vP w2.heap.size 0) (vI 1)) (vP w2.heap.size 1) (rn_ixa (E := 28) (sz := 1) (m := 2) (by omega)) ?_)
  refine wpF_step (op_v (some 58) (Instr.loadAt 28 (vP w2.heap.size 1)) (vQ y) (rn_ld (hK2.cell rfl)) ?_)
  refine wpF_step (op_call (some 59) (c_Rsv a x y _ (by omega) (by omega) (by omega)) ?_)
  rintro _ w9 ⟨rfl, hEw9⟩
  have hzw9 := hEw9.size
  refine wpF_run 3 [(61, (vI 0)), (60, (vA (celC (a.rsv x)))), (53, (.tuple #[(vA (celC (a.rsv x))), (vI 0)]))] (wpF_step (op_new (some 9) (Instr.alloc 30 true (.tuple #[])) (vP w9.heap.size 0) (celC Cel.zero) 30 ?_))
  intro w10 hBw10 hEw10
  have hzw10 := hEw10.size; have hlw10 := hBw10.lt
  refine wpF_step (op_store 30 w9.heap.size 0 30 (vA (celC (a.rsv x))) (celC Cel.zero) (celC (a.rsv x)) hBw10 (by rw [celC_len]; kernel_rfl) (by first | (simp; done) | (simp; omega)) (celC_one _) ?_)
  intro w11 hBw11 hCw11
  have hzw11 := hCw11.size
  rw [setFrom_all _ _ (by simp)] at hBw11
  refine wpF_run 1 [(8, (vI 0))] (wpF_end (then_code (wpC_seq (wpC_seq (wpC_region (wpF_step (op_v (some 62) (Instr.indexAt 39 (vP w2.heap.size 0) (vI 0)) (vP w2.heap.size 0) (rn_ixa (E := 28) (sz := 1) (m := 2) (by omega)) ?_)))))))
  have hK3 := (((((hK2.ext hEw9)).ext hEw10)).chg hCw11 (fun hs => by have h : _ = _ := hs; omega))
  refine wpF_step (op_v (some 63) (Instr.loadAt 28 (vP w2.heap.size 0)) (vQ x) (rn_ld (hK3.cell rfl)) ?_)
  refine wpF_step (op_b (some 64) (((x : Nat) : Int) == ((0 : Nat) : Int)) false (cmpEqF (by omega)) ?_)
  refine wpF_end (then_code (wpC_false (wpC_skip (then_code (wpC_seq (wpC_region (wpF_run 1 [(75, (vP w.heap.size 33))] ?_)))))))
  have hK4 := (((((((hK1.ext hEw8)).ext hEw9)).ext hEw10)).chg hCw11 (fun hs => by have h : _ = _ := hs; omega))
  refine wpF_step (op_v (some 76) (Instr.loadAt 28 (vP w.heap.size 33)) (vQ a.mark) (rn_ld (hK4.cell (cel_mk _))) ?_)
  refine wpF_step (op_v (some 77) (Instr.indexAt 39 (vP w2.heap.size 0) (vI 0)) (vP w2.heap.size 0) (rn_ixa (E := 28) (sz := 1) (m := 2) (by omega)) ?_)
  refine wpF_step (op_v (some 78) (Instr.loadAt 28 (vP w2.heap.size 0)) (vQ x) (rn_ld (hK3.cell rfl)) ?_)
  refine wpF_step (op_in (some 79) .u64 (IntKind.u64.wrap (((a.mark : Nat) : Int) + ((x : Nat) : Int))) ((a.mark + x) % 2 ^ 64) (wrapU rfl (by simp)) ?_)
  refine wpF_run 1 [(10, (vQ ((a.mark + x) % 2 ^ 64)))] (wpF_end (then_code (wpC_seq (wpC_seq (wpC_region (wpF_run 2 [(81, (vP w.heap.size 33)), (80, (vQ ((a.mark + x) % 2 ^ 64)))] (wpF_step (op_v (some 82) (Instr.loadAt 28 (vP w.heap.size 33)) (vQ a.mark) (rn_ld (hK4.cell (cel_mk _))) ?_))))))))
  refine wpF_step (op_b (some 83) (decide ((((a.mark + x) % 2 ^ 64 : Nat) : Int) < ((a.mark : Nat) : Int))) false (cmpDF (by omega)) ?_)
  refine wpF_run 2 [(85, (vQ ((a.mark + x) % 2 ^ 64))), (84, vF)] (wpF_step (op_v (some 86) (Instr.indexAt 39 (vP w2.heap.size 0) (vI 1)) (vP w2.heap.size 1) (rn_ixa (E := 28) (sz := 1) (m := 2) (by omega)) ?_))
  refine wpF_step (op_v (some 87) (Instr.loadAt 28 (vP w2.heap.size 1)) (vQ y) (rn_ld (hK3.cell rfl)) ?_)
  refine wpF_step (op_b (some 88) (decide ((((a.mark + x) % 2 ^ 64 : Nat) : Int) > ((y : Nat) : Int))) false (cmpDF (by omega)) ?_)
  refine wpF_run 1 [(89, vF)] (wpF_end (then_code (wpC_false (wpC_skip (then_code (wpC_seq (wpC_region (wpF_run 3 [(102, vT), (101, vT), (100, (vI 0))] (wpF_step (op_v (some 103) (Instr.loadAt 30 (vP w9.heap.size 0)) (vA (celC (a.rsv x))) (rn_lda (vs := celC (a.rsv x)) (hBw11.all) (by rw [celC_len]; kernel_rfl)) ?_))))))))))
  refine wpF_run 1 [(104, (vP w.heap.size 0))] (wpF_step (op_v (some 105) (Instr.loadAt 27 (vP w.heap.size 0)) (vA (digC a.root)) (rn_lda (vs := digC a.root) (hK4.at 0 (digC a.root) (cel_root _)) (by rw [digC_len]; kernel_rfl)) ?_))
  refine wpF_run 1 [(106, (vP w.heap.size 32))] (wpF_step (op_v (some 107) (Instr.loadAt 28 (vP w.heap.size 32)) (vQ a.ep) (rn_ld (hK4.cell (cel_ep _))) ?_))
  refine wpF_run 1 [(108, (vQ ((a.mark + x) % 2 ^ 64)))] (wpF_step (op_v (some 109) (Instr.build 30 #[(0, (vA (digC a.root))), (1, (vQ a.ep)), (2, (vQ ((a.mark + x) % 2 ^ 64)))]) (vA (celC (a.rsv x))) ((run_build_cel a.root a.ep ((a.mark + x) % 2 ^ 64) (by omega) (by omega)).trans (congrArg (fun z : Cel => Result.ok (Value.agg (celC z).toArray) _) (show (⟨a.root, a.ep, (a.mark + x) % 2 ^ 64, by omega, by omega⟩ : Cel) = a.rsv x from rfl))) ?_))
  refine wpF_step (op_v (some 110) (bo .eql 30 (.tmp 103) (.tmp 109) (vA (celC (a.rsv x))) (vA (celC (a.rsv x)))) vT (run_eqlAgg (r := true) (T := 30) ((run_eq_cel (dd := 9997) (t := 30) (td := 27) (e := 5) (t64 := 28) (a.rsv x) (a.rsv x)).trans (congrArg (fun b => Result.ok b _) (show ((a.rsv x).eqb (a.rsv x)) = true from cel_eqb_self _)))) ?_)
  refine wpF_run 2 [(112, vT), (111, vT)] (wpF_step (op_v (some 113) (Instr.loadAt 30 (vP w.heap.size 0)) (vA (celC a)) (rn_lda (vs := celC a) (hK4.all) (by rw [celC_len]; kernel_rfl)) ?_))
  refine wpF_step (op_v (some 114) (Instr.loadAt 30 (vP w9.heap.size 0)) (vA (celC (a.rsv x))) (rn_lda (vs := celC (a.rsv x)) (hBw11.all) (by rw [celC_len]; kernel_rfl)) ?_)
  refine wpF_step (op_call (some 115) (c_Fol a (a.rsv x) _) ?_)
  rintro _ w12 ⟨rfl, hEw12⟩
  have hzw12 := hEw12.size
  rw [show fol a (a.rsv x) = 2 from fol_rsv hp3.1 (by omega)]
  refine wpF_run 3 [(118, vT), (117, vT), (116, vT)] (wpF_step (op_v (some 119) (Instr.loadAt 30 (vP w9.heap.size 0)) (vA (celC (a.rsv x))) (rn_lda (vs := celC (a.rsv x)) ((hBw11.ext hEw12).all) (by rw [celC_len]; kernel_rfl)) ?_))
  refine wpF_step (op_v (some 120) (Instr.loadAt 30 (vP w.heap.size 0)) (vA (celC a)) (rn_lda (vs := celC a) ((hK4.ext hEw12).all) (by rw [celC_len]; kernel_rfl)) ?_)
  refine wpF_step (op_call (some 121) (c_Fol (a.rsv x) a _) ?_)
  rintro _ w13 ⟨rfl, hEw13⟩
  have hzw13 := hEw13.size
  rw [show fol (a.rsv x) a = 0 from fol_back hp3.1 (by omega)]
  refine wpF_run 3 [(124, vT), (123, vT), (122, vT)] ?_
  have hK5 := (((((((((((((((((((((((((hg0.ext hEw1)).ext hEw2)).ext hEw3)).ext hEw4)).ext hEw5)).chg hCw6 (fun hs => by have h : _ = _ := hs; omega))).ext hEw7)).ext hEw8)).ext hEw9)).ext hEw10)).chg hCw11 (fun hs => by have h : _ = _ := hs; omega))).ext hEw12)).ext hEw13)
  have hK6 := (((((((((((((((((((((((((hg1.ext hEw1)).ext hEw2)).ext hEw3)).ext hEw4)).ext hEw5)).chg hCw6 (fun hs => by have h : _ = _ := hs; omega))).ext hEw7)).ext hEw8)).ext hEw9)).ext hEw10)).chg hCw11 (fun hs => by have h : _ = _ := hs; omega))).ext hEw12)).ext hEw13)
  have hK7 := (((((((((((((((((((((((((hg2.ext hEw1)).ext hEw2)).ext hEw3)).ext hEw4)).ext hEw5)).chg hCw6 (fun hs => by have h : _ = _ := hs; omega))).ext hEw7)).ext hEw8)).ext hEw9)).ext hEw10)).chg hCw11 (fun hs => by have h : _ = _ := hs; omega))).ext hEw12)).ext hEw13)
  refine wpF_step (op_call (some 125) (c_lives15 _ hK5 hK6 hK7) ?_)
  rintro _ w14 ⟨rfl, hEw14⟩
  have hzw14 := hEw14.size
  refine wpF_run 2 [(6, vT), (126, vT)] (wpF_end (then_code (wpC_ret (body_rets vT ?_))))
  have hX1 : Ext w w14 := ((((Ext.own (((((Ext.own ((((hEw1.trans hEw2).trans hEw3).trans hEw4).trans hEw5) hCw6 (by omega)).trans hEw7).trans hEw8).trans hEw9).trans hEw10) hCw11 (by omega)).trans hEw12).trans hEw13).trans hEw14)
  exact ⟨rfl, hX1⟩

theorem c_CellsStep (a : Cel) (d : Dig) (x : Nat) (y : Nat)  (w : World) (hp0 : x < 2 ^ 64) (hp1 : y < 2 ^ 64) (hg0 : Gl 0 [vI 45, vI 33] w) (hg1 : Gl 1 (w8C iniA) w) (hg2 : Gl 2 (w64C kA) w) :
    Calls Tryd.prog 4 #[(vA (celC a)), (vA (digC d)), (vA [(vQ x), (vQ y)])] w (Ret fun r w' => r = vT ∧ Ext w w') := by
  by_cases h : a.ep = 2 ^ 64 - 1
  · by_cases h2 : x = 0
    · exact c_CSt10 a d x y w hp0 hp1 h h2 hg0 hg1 hg2
    by_cases h3 : y < a.mark + x
    · exact c_CSt11 a d x y w hp0 hp1 h ⟨h2, h3⟩ hg0 hg1 hg2
    · exact c_CSt12 a d x y w hp0 hp1 h ⟨h2, by omega⟩ hg0 hg1 hg2
  · by_cases h2 : x = 0
    · exact c_CSt00 a d x y w hp0 hp1 h h2 hg0 hg1 hg2
    by_cases h3 : y < a.mark + x
    · exact c_CSt01 a d x y w hp0 hp1 h ⟨h2, h3⟩ hg0 hg1 hg2
    · exact c_CSt02 a d x y w hp0 hp1 h ⟨h2, by omega⟩ hg0 hg1 hg2


end Go.Proofs.YthjplefmfjkhfaaDoor
