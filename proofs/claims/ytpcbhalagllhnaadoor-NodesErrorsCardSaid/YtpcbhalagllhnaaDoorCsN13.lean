/- CsN13: what each function does, by its own code. No condition beyond those of each statement. -/
import Derived.Test.YtpcbhalagllhnaaDoorCsN12
namespace Go.Proofs.YtpcbhalagllhnaaDoor
open Go Go.RowKit Go.Cs
set_option maxRecDepth 100000
set_option linter.all false
set_option linter.unusedVariables false

theorem c_NE00 (x : Nod) (n : Nat) (p : Int)  (w : World) (hp0 : chkN x = 0) (hp1 : 1 ≤ n) (hp2 : n ≤ 4096) (hg0 : Gl 0 [vI 45, vI 33] w) (hg1 : Gl 1 (w8C iniA) w) (hg2 : Gl 2 (w64C kA) w) :
    Calls Tryd.prog 8 #[(vA (nodC x)), (vI n), (.int .i64 p)] w (Ret fun r w' => r = vT ∧ Ext w w') := by
  refine calls_of (n := 179) (σ := [(0, (vA (nodC x))), (1, (vI n)), (2, (.int .i64 p))]) Tryd.func8 rfl ?_
  have hgl0 := hg0.lt
  have hgl1 := hg1.lt
  have hgl2 := hg2.lt
  have hlvx := x.hlv
  have hixx := x.hix
  refine wpC_seq (wpC_region (wpF_step (op_new (some 3) (Instr.box 41 (vA (nodC x))) (vP w.heap.size 0) (nodC x) 41 ?_)))
  intro w1 hBw1 hEw1
  have hzw1 := hEw1.size; have hlw1 := hBw1.lt
  refine wpF_run 1 [(6, vF)] (wpF_end (then_code (wpC_seq (wpC_region (wpF_step (op_v (some 18) (Instr.loadAt 41 (vP w.heap.size 0)) (vA (nodC x)) (rn_lda (vs := nodC x) (hBw1.all) (by rw [nodC_len]; kernel_rfl)) ?_))))))
  refine wpF_step (op_call (some 19) (c_rNCheck x _) ?_)
  rintro _ w2 ⟨rfl, hEw2⟩
  have hzw2 := hEw2.size
  rw [show chkN x = 0 from hp0]
  refine wpF_run 1 [(7, (vI 0))] (wpF_end (then_code (wpC_seq (wpC_region (wpF_step (op_v (some 21) (Instr.loadAt 41 (vP w.heap.size 0)) (vA (nodC x)) (rn_lda (vs := nodC x) ((hBw1.ext hEw2).all) (by rw [nodC_len]; kernel_rfl)) ?_))))))
  refine wpF_step (op_call (some 22) (c_NPut x _ (by assumption) (((hg0.ext hEw1)).ext hEw2)) ?_)
  rintro _ w3 ⟨a1, rfl, hFz2_0, hFz2_1, hFz2_2, hFz2_3, hEw3⟩
  have hzw3 := hEw3.size
  have hla1 := hFz2_1.lt; have hna1 := hFz2_3
  have hSa1 : Bs a1 (a1 + 1) w3 (pA a1 0) (nodL x) (nodL x) (nodB x) := Bs.of_blk hFz2_1 rfl hFz2_2 (Nat.le_refl _) (le_maxLen hna1) (Nat.le_refl _) (Nat.lt_succ_self _)
  refine wpF_run 5 [(9, (vI 0)), (8, (.slice (pA a1 0) (nodL x) (nodL x))), (24, (vI 0)), (23, (.slice (pA a1 0) (nodL x) (nodL x))), (20, (.tuple #[(.slice (pA a1 0) (nodL x) (nodL x)), (vI 0)]))] (wpF_end (then_code (wpC_seq (wpC_region (wpF_step (op_v (some 26) (Instr.loadAt 41 (vP w.heap.size 0)) (vA (nodC x)) (rn_lda (vs := nodC x) ((((hBw1.ext hEw2)).ext hEw3).all) (by rw [nodC_len]; kernel_rfl)) ?_))))))
  have hK1 := (((((hg0.ext hEw1)).ext hEw2)).ext hEw3)
  have hK2 := (((((hg1.ext hEw1)).ext hEw2)).ext hEw3)
  have hK3 := (((((hg2.ext hEw1)).ext hEw2)).ext hEw3)
  refine wpF_step (op_call (some 27) (c_NDigest x _ (by assumption) hK1 hK2 hK3) ?_)
  rintro _ w4 ⟨rfl, hEw4⟩
  have hzw4 := hEw4.size
  refine wpF_run 3 [(29, (vI 0)), (28, (vA (digC (shaD (nodB x))))), (25, (.tuple #[(vA (digC (shaD (nodB x)))), (vI 0)]))] (wpF_step (op_new (some 10) (Instr.alloc 33 true (.tuple #[])) (vP w4.heap.size 0) (digC Dig.zero) 33 ?_))
  intro w5 hBw5 hEw5
  have hzw5 := hEw5.size; have hlw5 := hBw5.lt
  refine wpF_step (op_store 33 w4.heap.size 0 33 (vA (digC (shaD (nodB x)))) (digC Dig.zero) (digC (shaD (nodB x))) hBw5 (by rw [digC_len]; kernel_rfl) (by first | (simp; done) | (simp; omega)) (digC_one _) ?_)
  intro w6 hBw6 hCw6
  have hzw6 := hCw6.size
  rw [setFrom_all _ _ (by simp)] at hBw6
  refine wpF_run 1 [(11, (vI 0))] (wpF_end (then_code (wpC_seq (wpC_seq (wpC_drawM (Ext w6.drew) 37 [(31, 8, 0), (32, 1073741824, 1), (33, 128, 0), (34, 6442450944, 6), (35, 8589934592, 10), (36, 17179869696, 16), (37, 17179869312, 16), (38, 120259084288, 112), (39, 154618822656, 144), (40, 274877906944, 272), (41, 549755815936, 512), (42, 549755814016, 512), (43, 3848290697216, 3584), (44, 4947802324992, 4608), (45, 8796093022208, 8704), (46, 17592186044418, 16384), (47, 17592186044424, 16384), (48, 123145302310912, 114688), (49, 17592186044418, 16384), (50, 17592186044424, 16384), (51, 862017116176384, 933888), (52, 1284229581242368, 1196032), (53, 2269391999729664, 2113536), (54, 4503599627370496, 5242880), (55, 9007199254741120, 8388608), (56, 27021597764222976, 25165824), (57, 45035996273704960, 41943040), (58, 72057594037928192, 67108864), (59, 216172782113783808, 201326592), (60, 360287970189639680, 335544320), (61, 648518346341351424, 603979776), (62, 1152921504606848000, 1073741824), (63, 1152921504606846976, 1073741824), (64, 8070450532247928832, 7516192768), (65, 10448351135499550720, 9730785280), (66, 18527808867002220544, 17255366656), (67, 36902495346673844224, 34368126976)] (fun hT59 => ?_))))))
  have hEw7 : Ext w6 w6.drew := Ext.drew w6
  generalize w6.drew = w7 at hEw7 ⊢
  have hzw7 := hEw7.size
  have hK4 := (((((((((((hBw1.ext hEw2)).ext hEw3)).ext hEw4)).ext hEw5)).chg hCw6 (fun hs => by have h : _ = _ := hs; omega))).ext hEw7)
  refine anyM_take hT59 0 1 (some 30) (vA (nodC x)) (yld_val (Instr.loadAt 41 (vP w.heap.size 0)) (fun w' hC => rn_lda (vs := nodC x) ((hK4.ext hC).all) (by rw [nodC_len]; kernel_rfl))) (anyM_run hT59 [(2, 32, (vI 0))] 1 5 (anyM_one 1 7 (op_call (some 31) (c_NCheck x _) ?_)))
  rintro _ w8 ⟨rfl, hEw8⟩
  have hzw8 := hEw8.size
  rw [show chkN x = 0 from hp0]
  refine ⟨.inr hEw8, ?_⟩
  refine anyM_run (hw := show Ext w7 w8 from hEw8) hT59 [(3, 33, vF), (4, 34, vF), (5, 35, (vI 0)), (6, 36, (vI 0)), (7, 37, vF), (8, 38, vF), (9, 39, vF), (10, 40, (vI 0)), (11, 41, (vI 0)), (12, 42, vF), (13, 43, vF), (14, 44, vF), (15, 45, (vI n))] 13 65535 (anyM_take (hw := show Ext w7 w8 from hEw8) hT59 16 131071 (some 46) (vA (nodC x)) (yld_val (Instr.loadAt 41 (vP w.heap.size 0)) (fun w' hC => rn_lda (vs := nodC x) ((hK4.ext hC).all) (by rw [nodC_len]; kernel_rfl))) (anyM_run (hw := show Ext w7 w8 from hEw8) hT59 [(18, 48, (vI n))] 1 393215 (anyM_take (hw := show Ext w7 w8 from hEw8) hT59 19 917503 (some 49) (vA (nodC x)) (yld_val (Instr.loadAt 41 (vP w.heap.size 0)) (fun w' hC => rn_lda (vs := nodC x) ((hK4.ext hC).all) (by rw [nodC_len]; kernel_rfl))) (anyM_one 17 1048575 (op_call (some 47) (c_NFits n x _ (by omega) (by omega)) ?_)))))
  rintro _ w9 ⟨rfl, hEw9⟩
  have hzw9 := hEw9.size
  refine ⟨.inr (hEw8.trans hEw9), ?_⟩
  refine anyM_one 20 2097151 (op_call (some 50) (c_rNFits n x _ (by omega) (by omega)) ?_)
  rintro _ w10 ⟨rfl, hEw10⟩
  have hzw10 := hEw10.size
  refine ⟨.inr ((hEw8.trans hEw9).trans hEw10), ?_⟩
  refine anyM_take (hw := show Ext w7 w10 from ((hEw8.trans hEw9).trans hEw10)) hT59 21 4194303 (some 51) vF (yld_b (((fitV n x : Nat) : Int) != ((fitV n x : Nat) : Int)) (cmpNeF (by omega))) (anyM_run (hw := show Ext w7 w10 from ((hEw8.trans hEw9).trans hEw10)) hT59 [(22, 52, vF), (23, 53, vF), (24, 54, (vI 0)), (25, 55, vF), (26, 56, vF), (27, 57, undef), (28, 58, undef), (29, 59, undef), (30, 60, undef), (31, 61, undef), (32, 62, undef), (33, 63, undef), (34, 64, undef), (35, 65, vF), (36, 66, vF)] 15 137438953471 (anyM_done (then_code (wpC_false (wpC_skip (then_code (wpC_seq (wpC_region (wpF_run 1 [(12, (vI 0))] ?_)))))))))
  refine wpF_end (then_code (wpC_seq (wpC_seq (wpC_region (wpF_run 1 [(13, (vI 0))] (wpF_end (then_code (wpC_block ?_))))))))
  have hK5 := (((((hK4.ext hEw8)).ext hEw9)).ext hEw10)
  have hX1 : Ext w w10 := (((((Ext.own ((((hEw1.trans hEw2).trans hEw3).trans hEw4).trans hEw5) hCw6 (by omega)).trans hEw7).trans hEw8).trans hEw9).trans hEw10)
  refine wpC_loop (X := Nat) (fun i => [(12, (vI (usd x i))), (13, (vI i))]) [67, 68, 69, 70, 71, 72, 73, 74, 75, 76, 77, 78, 79, 80, 81, 82, 83, 84, 85, 86, 87, 88, 89, 90, 91, 92, 93, 94, 95, 96] (fun i w11 => i ≤ 4 ∧ Blk w11 w.heap.size (nodC x) 41 ∧ Ext w w11) (fun i => 4 - i) 0 (by kernel_rfl) ⟨by omega, hK5, hX1⟩ ?_
  rintro i dw11 w11 ⟨hi, hBx, hEl⟩
  have hzl := hEl.size
  have hlx := hBx.lt
  have hul := usd_le x i
  refine wpC_seq (wpC_seq (wpC_region (wpF_run 1 [(67, (vI i))] (wpF_step (op_split (some 68) (decide (((i : Nat) : Int) < ((4 : Nat) : Int))) (fun hc68 => ?_) (fun hc68 => ?_))))))
  · replace hc68 : i < 4 := by have := of_d_t hc68; omega
    refine wpF_end (then_code (wpC_true (wpC_skip (then_code (wpC_seq (wpC_block (wpC_seq (wpC_region (wpF_run 1 [(71, (vP w.heap.size 0))] ?_)))))))))
    refine wpF_step (op_v (some 72) (Instr.loadAt 5 (vP w.heap.size 0)) (vB x.lv) (rn_ld (hBx.cell rfl)) ?_)
    refine wpF_step (op_split (some 73) ((((x.lv : Nat) : Int) == ((0 : Nat) : Int))) (fun hc73 => ?_) (fun hc73 => ?_))
    · replace hc73 : x.lv = 0 := by have := of_eq_t hc73; omega
      refine wpF_run 3 [(76, (vP w.heap.size 2)), (75, (vI i)), (74, vT)] (wpF_step (op_v (some 77) (Instr.indexAt 36 (vP w.heap.size 2) (vI i)) (vP w.heap.size (2 + i * 35)) (rn_ixa (E := 35) (sz := 35) (m := 4) (by omega)) ?_))
      refine wpF_run 1 [(78, (vP w.heap.size (2 + i * 35)))] (wpF_step (op_v (some 79) (Instr.loadAt 5 (vP w.heap.size (2 + i * 35))) (vB ((x.rs.get i).st)) (rn_ld (hBx.cell (nod_rst (by omega)))) ?_))
      refine wpF_step (op_split (some 80) (decide ((((x.rs.get i).st : Nat) : Int) > ((0 : Nat) : Int))) (fun hc80 => ?_) (fun hc80 => ?_))
      · replace hc80 : (x.rs.get i).st > 0 := by have := of_d_t hc80; omega
        refine wpF_run 14 [(94, vT), (93, undef), (92, undef), (91, undef), (90, undef), (89, undef), (88, undef), (87, undef), (86, undef), (85, undef), (84, undef), (83, undef), (82, vT), (81, vT)] (wpF_end (then_code (wpC_true (wpC_region (wpF_run 1 [(95, (vI (usd x i)))] (wpF_step (op_in (some 96) .i64 (IntKind.i64.wrap (((usd x i : Nat) : Int) + ((1 : Nat) : Int))) (usd x i + 1) (wrapS (by omega) (by omega) (by omega)) ?_)))))))
        refine wpF_run 1 [(12, (vI (usd x i + 1)))] (wpF_end (inBlock_normal (then_code (wpC_region (wpF_run 1 [(69, (vI i))] (wpF_step (op_in (some 70) .i64 (IntKind.i64.wrap (((i : Nat) : Int) + ((1 : Nat) : Int))) (i + 1) (wrapS (by omega) (by omega) (by omega)) ?_)))))))
        refine wpF_run 1 [(13, (vI (i + 1)))] (wpF_end (then_normal ?_))
        rw [show usd x i + 1 = usd x (i + 1) from by rw [usd]; (repeat' split) <;> omega]
        refine endR_mk (i + 1) ?_ ?_
        · exact ⟨by omega, hBx, hEl⟩
        · first | omega | (dsimp only; omega)
      · replace hc80 : ¬ ((x.rs.get i).st > 0) := by have := of_d_f hc80; omega
        refine wpF_run 3 [(83, (vP w.heap.size 0)), (82, vF), (81, vF)] (wpF_step (op_v (some 84) (Instr.loadAt 5 (vP w.heap.size 0)) (vB x.lv) (rn_ld (hBx.cell rfl)) ?_))
        refine wpF_step (op_b (some 85) (decide (((x.lv : Nat) : Int) > ((0 : Nat) : Int))) false (cmpDF (by omega)) ?_)
        refine wpF_run 9 [(94, vF), (93, vF), (92, undef), (91, undef), (90, undef), (89, undef), (88, undef), (87, undef), (86, vF)] (wpF_end (then_code (wpC_false (wpC_skip (inBlock_normal (then_code (wpC_region (wpF_run 1 [(69, (vI i))] (wpF_step (op_in (some 70) .i64 (IntKind.i64.wrap (((i : Nat) : Int) + ((1 : Nat) : Int))) (i + 1) (wrapS (by omega) (by omega) (by omega)) ?_))))))))))
        refine wpF_run 1 [(13, (vI (i + 1)))] (wpF_end (then_normal ?_))
        rw [show usd x i = usd x (i + 1) from by rw [usd]; (repeat' split) <;> omega]
        refine endR_mk (i + 1) ?_ ?_
        · exact ⟨by omega, hBx, hEl⟩
        · first | omega | (dsimp only; omega)
    · replace hc73 : ¬ (x.lv = 0) := by have := of_eq_f hc73; omega
      refine wpF_run 10 [(83, (vP w.heap.size 0)), (82, vF), (81, vF), (80, undef), (79, undef), (78, undef), (77, undef), (76, undef), (75, undef), (74, vF)] (wpF_step (op_v (some 84) (Instr.loadAt 5 (vP w.heap.size 0)) (vB x.lv) (rn_ld (hBx.cell rfl)) ?_))
      refine wpF_step (op_b (some 85) (decide (((x.lv : Nat) : Int) > ((0 : Nat) : Int))) true (cmpDT (by omega)) ?_)
      refine wpF_run 3 [(88, (vP w.heap.size 142)), (87, (vI i)), (86, vT)] (wpF_step (op_v (some 89) (Instr.indexAt 39 (vP w.heap.size 142) (vI i)) (vP w.heap.size (142 + i * 33)) (rn_ixa (E := 38) (sz := 33) (m := 4) (by omega)) ?_))
      refine wpF_run 1 [(90, (vP w.heap.size (142 + i * 33)))] (wpF_step (op_v (some 91) (Instr.loadAt 5 (vP w.heap.size (142 + i * 33))) (vB ((x.es.get i).st)) (rn_ld (hBx.cell (nod_est (by omega)))) ?_))
      refine wpF_step (op_split (some 92) (decide ((((x.es.get i).st : Nat) : Int) > ((0 : Nat) : Int))) (fun hc92 => ?_) (fun hc92 => ?_))
      · replace hc92 : (x.es.get i).st > 0 := by have := of_d_t hc92; omega
        refine wpF_run 2 [(94, vT), (93, vT)] (wpF_end (then_code (wpC_true (wpC_region (wpF_run 1 [(95, (vI (usd x i)))] (wpF_step (op_in (some 96) .i64 (IntKind.i64.wrap (((usd x i : Nat) : Int) + ((1 : Nat) : Int))) (usd x i + 1) (wrapS (by omega) (by omega) (by omega)) ?_)))))))
        refine wpF_run 1 [(12, (vI (usd x i + 1)))] (wpF_end (inBlock_normal (then_code (wpC_region (wpF_run 1 [(69, (vI i))] (wpF_step (op_in (some 70) .i64 (IntKind.i64.wrap (((i : Nat) : Int) + ((1 : Nat) : Int))) (i + 1) (wrapS (by omega) (by omega) (by omega)) ?_)))))))
        refine wpF_run 1 [(13, (vI (i + 1)))] (wpF_end (then_normal ?_))
        rw [show usd x i + 1 = usd x (i + 1) from by rw [usd]; (repeat' split) <;> omega]
        refine endR_mk (i + 1) ?_ ?_
        · exact ⟨by omega, hBx, hEl⟩
        · first | omega | (dsimp only; omega)
      · replace hc92 : ¬ ((x.es.get i).st > 0) := by have := of_d_f hc92; omega
        refine wpF_run 2 [(94, vF), (93, vF)] (wpF_end (then_code (wpC_false (wpC_skip (inBlock_normal (then_code (wpC_region (wpF_run 1 [(69, (vI i))] (wpF_step (op_in (some 70) .i64 (IntKind.i64.wrap (((i : Nat) : Int) + ((1 : Nat) : Int))) (i + 1) (wrapS (by omega) (by omega) (by omega)) ?_))))))))))
        refine wpF_run 1 [(13, (vI (i + 1)))] (wpF_end (then_normal ?_))
        rw [show usd x i = usd x (i + 1) from by rw [usd]; (repeat' split) <;> omega]
        refine endR_mk (i + 1) ?_ ?_
        · exact ⟨by omega, hBx, hEl⟩
        · first | omega | (dsimp only; omega)
  · replace hc68 : ¬ (i < 4) := by have := of_d_f hc68; omega
    obtain rfl : i = 4 := by omega
    refine wpF_end (then_code (wpC_false (wpC_exit (then_exit (then_exit (inBlock_exit (then_code (wpC_seq (wpC_seq ?_)))))))))
    refine wpC_drawM (Ext w11.drew) 17 [(98, 8, 0), (99, 158456325028528675187087900672, 1), (100, 4096, 0), (101, 950737950171172051122527404032, 6), (102, 1267650600228229401496703205376, 10), (103, 2535301200456458802993406410760, 16), (104, 7605903601369376408980219232256, 48), (105, 2535301200456458802993406410760, 16), (106, 22817710804108129226940657696768, 144), (107, 53241325209585634862861534625792, 336), (108, 2535301200456458802993406410760, 16), (109, 164794578029669822194571416698880, 1040), (110, 2535301200456458802993406410760, 16), (111, 651572408517309912369305447563264, 4112), (112, 1625128069492590092718773509292032, 10256), (113, 2679813368882476954764030576164864, 16912), (114, 5194832159735284087333489735630848, 32784)] (fun hT237 => ?_)
    have hEw12 : Ext w11 w11.drew := Ext.drew w11
    generalize w11.drew = w12 at hEw12 ⊢
    have hzw12 := hEw12.size
    refine anyM_take hT237 0 1 (some 97) (vA (nodC x)) (yld_val (Instr.loadAt 41 (vP w.heap.size 0)) (fun w' hC => rn_lda (vs := nodC x) (((hBx.ext hEw12).ext hC).all) (by rw [nodC_len]; kernel_rfl))) (anyM_run hT237 [(2, 99, (vI (usd x 4)))] 1 5 (anyM_one 1 7 (op_call (some 98) (c_Used x _) ?_)))
    rintro _ w13 ⟨rfl, hEw13⟩
    have hzw13 := hEw13.size
    refine ⟨.inr hEw13, ?_⟩
    refine anyM_take (hw := show Ext w12 w13 from hEw13) hT237 3 15 (some 100) vF (yld_b (((usd x 4 : Nat) : Int) != ((usd x 4 : Nat) : Int)) (cmpNeF (by omega))) (anyM_run (hw := show Ext w12 w13 from hEw13) hT237 [(4, 101, vF), (5, 102, (vP w.heap.size 0))] 2 63 (anyM_take (hw := show Ext w12 w13 from hEw13) hT237 6 127 (some 103) (vB x.lv) (yld_val (Instr.loadAt 5 (vP w.heap.size 0)) (fun w' hC => rn_ld (((hBx.ext hEw12).ext hC).cell rfl))) (anyM_run (hw := show Ext w12 w13 from hEw13) hT237 [(7, 104, (vP w.heap.size 1))] 1 255 (anyM_take (hw := show Ext w12 w13 from hEw13) hT237 8 511 (some 105) (vW x.ix) (yld_val (Instr.loadAt 28 (vP w.heap.size 1)) (fun w' hC => rn_ld (((hBx.ext hEw12).ext hC).cell rfl))) (anyM_run (hw := show Ext w12 w13 from hEw13) hT237 [(10, 107, (vP w.heap.size 0))] 1 1535 (anyM_take (hw := show Ext w12 w13 from hEw13) hT237 11 3583 (some 108) (vB x.lv) (yld_val (Instr.loadAt 5 (vP w.heap.size 0)) (fun w' hC => rn_ld (((hBx.ext hEw12).ext hC).cell rfl))) (anyM_run (hw := show Ext w12 w13 from hEw13) hT237 [(12, 109, (vP w.heap.size 1))] 1 7679 (anyM_take (hw := show Ext w12 w13 from hEw13) hT237 13 15871 (some 110) (vW x.ix) (yld_val (Instr.loadAt 28 (vP w.heap.size 1)) (fun w' hC => rn_ld (((hBx.ext hEw12).ext hC).cell rfl))) ?_))))))))
    refine anyM_take (hw := show Ext w12 w13 from hEw13) hT237 14 32255 (some 111) (vA (nodC (Nod.mt x.lv x.ix))) (yld_val (Instr.build 41 #[(0, (vB x.lv)), (1, (vW x.ix))]) (fun w' hC => (run_build_nod x.lv x.ix (by omega) (by omega)).trans (congrArg (fun z : Nod => Result.ok (Value.agg (nodC z).toArray) _) (show (Nod.emp x.lv x.ix (by omega) (by omega) : Nod) = Nod.mt x.lv x.ix from Nod.mt_eq _ _)))) (anyM_one 9 32767 (op_call (some 106) (c_Empty x.lv x.ix _ (by omega) (by omega)) ?_))
    rintro _ w14 ⟨rfl, hEw14⟩
    have hzw14 := hEw14.size
    refine ⟨.inr (hEw13.trans hEw14), ?_⟩
    refine anyM_take (hw := show Ext w12 w14 from (hEw13.trans hEw14)) hT237 15 65535 (some 112) vF (yld_val (bo .neq 41 (.tmp 106) (.tmp 111) (vA (nodC (Nod.mt x.lv x.ix))) (vA (nodC (Nod.mt x.lv x.ix)))) (fun w' hC => run_neqAgg (r := true) (T := 41) ((run_eq_nod (dd := 9995) (N := 41) (R := 36) (E := 39) (r := 35) (en := 38) (t8 := 5) (td := 33) (e := 5) (tn := 31) (t32 := 28) (t64 := 29) (Nod.mt x.lv x.ix) (Nod.mt x.lv x.ix)).trans (congrArg (fun b => Result.ok b _) (show ((Nod.mt x.lv x.ix).eqb (Nod.mt x.lv x.ix)) = true from (Nod.eqb_iff _ _).2 rfl))))) (anyM_run (hw := show Ext w12 w14 from (hEw13.trans hEw14)) hT237 [(16, 113, vF)] 1 131071 (anyM_done (then_code (wpC_false (wpC_skip (then_code (wpC_seq (wpC_seq (wpC_region ?_)))))))))
    refine wpF_run 1 [(114, (.int .i64 p))] (wpF_step (op_split (some 115) (decide (p < ((0 : Nat) : Int))) (fun hc115 => ?_) (fun hc115 => ?_)))
    · replace hc115 : p < ((0 : Nat) : Int) := by have := of_d_t hc115; omega
      refine wpF_run 4 [(119, vT), (118, undef), (117, undef), (116, vT)] (wpF_end (then_code (wpC_true (wpC_region (wpF_run 1 [(7, (vI 1))] (wpF_end (then_code (wpC_seq (wpC_region ?_)))))))))
      refine wpF_run 4 [(15, (vI 1)), (14, (vI 1)), (121, (vI 1)), (120, (vI 1))] (wpF_end (then_code (wpC_seq (wpC_seq (wpC_region (wpF_run 7 [(128, vF), (127, undef), (126, undef), (125, undef), (124, vF), (123, vF), (122, (vI 1))] (wpF_end (then_code (wpC_false ?_)))))))))
      refine wpC_skip (then_code (wpC_seq (wpC_seq (wpC_region (wpF_run 7 [(135, vF), (134, undef), (133, undef), (132, undef), (131, vF), (130, vF), (129, (vI 1))] (wpF_end (then_code (wpC_false (wpC_skip ?_)))))))))
      refine then_code (wpC_seq (wpC_region ?_))
      have hK6 := (((((hBx.ext hEw12)).ext hEw13)).ext hEw14)
      refine wpF_step (op_v (some 137) (Instr.loadAt 41 (vP w.heap.size 0)) (vA (nodC x)) (rn_lda (vs := nodC x) (hK6.all) (by rw [nodC_len]; kernel_rfl)) ?_)
      refine wpF_run 2 [(139, (vA (recC Rec.zero))), (138, (.int .i64 p))] (wpF_step (op_call (some 140) (c_WithRecordBad x p Rec.zero _ (by intro h; have hw := withE_ok h.1; omega)) ?_))
      rintro _ w15 ⟨rfl, hEw15⟩
      have hzw15 := hEw15.size
      refine wpF_run 3 [(142, (vI 1)), (141, (vA (nodC Nod.zero))), (136, (.tuple #[(vA (nodC Nod.zero)), (vI 1)]))] (wpF_step (op_new (some 16) (Instr.alloc 41 true (.tuple #[])) (vP w15.heap.size 0) (nodC Nod.zero) 41 ?_))
      intro w16 hBw16 hEw16
      have hzw16 := hEw16.size; have hlw16 := hBw16.lt
      refine wpF_step (op_store 41 w15.heap.size 0 41 (vA (nodC Nod.zero)) (nodC Nod.zero) (nodC Nod.zero) hBw16 (by rw [nodC_len]; kernel_rfl) (by first | (simp; done) | (simp; omega)) (nodC_one _) ?_)
      intro w17 hBw17 hCw17
      have hzw17 := hCw17.size
      rw [setFrom_all _ _ (by simp)] at hBw17
      refine wpF_run 1 [(9, (vI 1))] (wpF_end (then_code (wpC_seq (wpC_region ?_))))
      have hK7 := (((((hK6.ext hEw15)).ext hEw16)).chg hCw17 (fun hs => by have h : _ = _ := hs; omega))
      refine wpF_step (op_v (some 144) (Instr.loadAt 41 (vP w.heap.size 0)) (vA (nodC x)) (rn_lda (vs := nodC x) (hK7.all) (by rw [nodC_len]; kernel_rfl)) ?_)
      refine wpF_run 2 [(146, (vA (entC Ent.zero))), (145, (.int .i64 p))] (wpF_step (op_call (some 147) (c_WithEntryBad x p Ent.zero _ (by intro h; have hw := withE_ok h.1; omega)) ?_))
      rintro _ w18 ⟨rfl, hEw18⟩
      have hzw18 := hEw18.size
      refine wpF_run 3 [(149, (vI 1)), (148, (vA (nodC Nod.zero))), (143, (.tuple #[(vA (nodC Nod.zero)), (vI 1)]))] (wpF_step (op_new (some 17) (Instr.alloc 41 true (.tuple #[])) (vP w18.heap.size 0) (nodC Nod.zero) 41 ?_))
      intro w19 hBw19 hEw19
      have hzw19 := hEw19.size; have hlw19 := hBw19.lt
      refine wpF_step (op_store 41 w18.heap.size 0 41 (vA (nodC Nod.zero)) (nodC Nod.zero) (nodC Nod.zero) hBw19 (by rw [nodC_len]; kernel_rfl) (by first | (simp; done) | (simp; omega)) (nodC_one _) ?_)
      intro w20 hBw20 hCw20
      have hzw20 := hCw20.size
      rw [setFrom_all _ _ (by simp)] at hBw20
      refine wpF_run 1 [(11, (vI 1))] (wpF_end (then_code (wpC_seq (wpC_region (wpF_run 12 [(161, vF), (160, vF), (159, (vI 1)), (158, vT), (157, vT), (156, vT), (155, (vI 1)), (154, (vI 1)), (153, vT), (152, vT), (151, (vI 1)), (150, (vI 1))] ?_)))))
      have hK8 := (((((hBw17.ext hEw18)).ext hEw19)).chg hCw20 (fun hs => by have h : _ = _ := hs; omega))
      refine wpF_step (op_v (some 162) (Instr.loadAt 41 (vP w15.heap.size 0)) (vA (nodC Nod.zero)) (rn_lda (vs := nodC Nod.zero) (hK8.all) (by rw [nodC_len]; kernel_rfl)) ?_)
      refine wpF_run 1 [(163, (vA (nodC Nod.zero)))] (wpF_step (op_v (some 164) (bo .eql 41 (.tmp 162) (.tmp 163) (vA (nodC Nod.zero)) (vA (nodC Nod.zero))) vT (run_eqlAgg (r := true) (T := 41) ((run_eq_nod (dd := 9995) (N := 41) (R := 36) (E := 39) (r := 35) (en := 38) (t8 := 5) (td := 33) (e := 5) (tn := 31) (t32 := 28) (t64 := 29) Nod.zero Nod.zero).trans (congrArg (fun b => Result.ok b _) (show (Nod.zero.eqb Nod.zero) = true from (Nod.eqb_iff _ _).2 rfl)))) ?_))
      refine wpF_run 6 [(170, vF), (169, vF), (168, (vI 1)), (167, vT), (166, vT), (165, vT)] (wpF_step (op_v (some 171) (Instr.loadAt 41 (vP w18.heap.size 0)) (vA (nodC Nod.zero)) (rn_lda (vs := nodC Nod.zero) (hBw20.all) (by rw [nodC_len]; kernel_rfl)) ?_))
      refine wpF_run 1 [(172, (vA (nodC Nod.zero)))] (wpF_step (op_v (some 173) (bo .eql 41 (.tmp 171) (.tmp 172) (vA (nodC Nod.zero)) (vA (nodC Nod.zero))) vT (run_eqlAgg (r := true) (T := 41) ((run_eq_nod (dd := 9995) (N := 41) (R := 36) (E := 39) (r := 35) (en := 38) (t8 := 5) (td := 33) (e := 5) (tn := 31) (t32 := 28) (t64 := 29) Nod.zero Nod.zero).trans (congrArg (fun b => Result.ok b _) (show (Nod.zero.eqb Nod.zero) = true from (Nod.eqb_iff _ _).2 rfl)))) ?_))
      refine wpF_run 3 [(176, vT), (175, vT), (174, vT)] ?_
      have hK9 := (((((((((((((((((((hg0.ext hEl)).ext hEw12)).ext hEw13)).ext hEw14)).ext hEw15)).ext hEw16)).chg hCw17 (fun hs => by have h : _ = _ := hs; omega))).ext hEw18)).ext hEw19)).chg hCw20 (fun hs => by have h : _ = _ := hs; omega))
      refine wpF_step (op_call (some 177) (c_lives13 _ hK9) ?_)
      rintro _ w21 ⟨rfl, hEw21⟩
      have hzw21 := hEw21.size
      refine wpF_run 2 [(6, vT), (178, vT)] (wpF_end (then_code (wpC_ret (body_rets vT ?_))))
      have hX2 : Ext w w21 := ((Ext.own (((Ext.own (((((hEl.trans hEw12).trans hEw13).trans hEw14).trans hEw15).trans hEw16) hCw17 (by omega)).trans hEw18).trans hEw19) hCw20 (by omega)).trans hEw21)
      exact ⟨rfl, hX2⟩
    · replace hc115 : ¬ (p < ((0 : Nat) : Int)) := by have := of_d_f hc115; omega
      refine wpF_run 2 [(117, (.int .i64 p)), (116, vF)] (wpF_step (op_split (some 118) (decide (p > ((3 : Nat) : Int))) (fun hc118 => ?_) (fun hc118 => ?_)))
      · replace hc118 : p > ((3 : Nat) : Int) := by have := of_d_t hc118; omega
        refine wpF_run 1 [(119, vT)] (wpF_end (then_code (wpC_true (wpC_region (wpF_run 1 [(7, (vI 1))] (wpF_end (then_code (wpC_seq (wpC_region ?_)))))))))
        refine wpF_run 4 [(15, (vI 1)), (14, (vI 1)), (121, (vI 1)), (120, (vI 1))] (wpF_end (then_code (wpC_seq (wpC_seq (wpC_region (wpF_run 7 [(128, vF), (127, undef), (126, undef), (125, undef), (124, vF), (123, vF), (122, (vI 1))] (wpF_end (then_code (wpC_false ?_)))))))))
        refine wpC_skip (then_code (wpC_seq (wpC_seq (wpC_region (wpF_run 7 [(135, vF), (134, undef), (133, undef), (132, undef), (131, vF), (130, vF), (129, (vI 1))] (wpF_end (then_code (wpC_false (wpC_skip ?_)))))))))
        refine then_code (wpC_seq (wpC_region ?_))
        have hK10 := (((((hBx.ext hEw12)).ext hEw13)).ext hEw14)
        refine wpF_step (op_v (some 137) (Instr.loadAt 41 (vP w.heap.size 0)) (vA (nodC x)) (rn_lda (vs := nodC x) (hK10.all) (by rw [nodC_len]; kernel_rfl)) ?_)
        refine wpF_run 2 [(139, (vA (recC Rec.zero))), (138, (.int .i64 p))] (wpF_step (op_call (some 140) (c_WithRecordBad x p Rec.zero _ (by intro h; have hw := withE_ok h.1; omega)) ?_))
        rintro _ w22 ⟨rfl, hEw22⟩
        have hzw22 := hEw22.size
        refine wpF_run 3 [(142, (vI 1)), (141, (vA (nodC Nod.zero))), (136, (.tuple #[(vA (nodC Nod.zero)), (vI 1)]))] (wpF_step (op_new (some 16) (Instr.alloc 41 true (.tuple #[])) (vP w22.heap.size 0) (nodC Nod.zero) 41 ?_))
        intro w23 hBw23 hEw23
        have hzw23 := hEw23.size; have hlw23 := hBw23.lt
        refine wpF_step (op_store 41 w22.heap.size 0 41 (vA (nodC Nod.zero)) (nodC Nod.zero) (nodC Nod.zero) hBw23 (by rw [nodC_len]; kernel_rfl) (by first | (simp; done) | (simp; omega)) (nodC_one _) ?_)
        intro w24 hBw24 hCw24
        have hzw24 := hCw24.size
        rw [setFrom_all _ _ (by simp)] at hBw24
        refine wpF_run 1 [(9, (vI 1))] (wpF_end (then_code (wpC_seq (wpC_region ?_))))
        have hK11 := (((((hK10.ext hEw22)).ext hEw23)).chg hCw24 (fun hs => by have h : _ = _ := hs; omega))
        refine wpF_step (op_v (some 144) (Instr.loadAt 41 (vP w.heap.size 0)) (vA (nodC x)) (rn_lda (vs := nodC x) (hK11.all) (by rw [nodC_len]; kernel_rfl)) ?_)
        refine wpF_run 2 [(146, (vA (entC Ent.zero))), (145, (.int .i64 p))] (wpF_step (op_call (some 147) (c_WithEntryBad x p Ent.zero _ (by intro h; have hw := withE_ok h.1; omega)) ?_))
        rintro _ w25 ⟨rfl, hEw25⟩
        have hzw25 := hEw25.size
        refine wpF_run 3 [(149, (vI 1)), (148, (vA (nodC Nod.zero))), (143, (.tuple #[(vA (nodC Nod.zero)), (vI 1)]))] (wpF_step (op_new (some 17) (Instr.alloc 41 true (.tuple #[])) (vP w25.heap.size 0) (nodC Nod.zero) 41 ?_))
        intro w26 hBw26 hEw26
        have hzw26 := hEw26.size; have hlw26 := hBw26.lt
        refine wpF_step (op_store 41 w25.heap.size 0 41 (vA (nodC Nod.zero)) (nodC Nod.zero) (nodC Nod.zero) hBw26 (by rw [nodC_len]; kernel_rfl) (by first | (simp; done) | (simp; omega)) (nodC_one _) ?_)
        intro w27 hBw27 hCw27
        have hzw27 := hCw27.size
        rw [setFrom_all _ _ (by simp)] at hBw27
        refine wpF_run 1 [(11, (vI 1))] (wpF_end (then_code (wpC_seq (wpC_region (wpF_run 12 [(161, vF), (160, vF), (159, (vI 1)), (158, vT), (157, vT), (156, vT), (155, (vI 1)), (154, (vI 1)), (153, vT), (152, vT), (151, (vI 1)), (150, (vI 1))] ?_)))))
        have hK12 := (((((hBw24.ext hEw25)).ext hEw26)).chg hCw27 (fun hs => by have h : _ = _ := hs; omega))
        refine wpF_step (op_v (some 162) (Instr.loadAt 41 (vP w22.heap.size 0)) (vA (nodC Nod.zero)) (rn_lda (vs := nodC Nod.zero) (hK12.all) (by rw [nodC_len]; kernel_rfl)) ?_)
        refine wpF_run 1 [(163, (vA (nodC Nod.zero)))] (wpF_step (op_v (some 164) (bo .eql 41 (.tmp 162) (.tmp 163) (vA (nodC Nod.zero)) (vA (nodC Nod.zero))) vT (run_eqlAgg (r := true) (T := 41) ((run_eq_nod (dd := 9995) (N := 41) (R := 36) (E := 39) (r := 35) (en := 38) (t8 := 5) (td := 33) (e := 5) (tn := 31) (t32 := 28) (t64 := 29) Nod.zero Nod.zero).trans (congrArg (fun b => Result.ok b _) (show (Nod.zero.eqb Nod.zero) = true from (Nod.eqb_iff _ _).2 rfl)))) ?_))
        refine wpF_run 6 [(170, vF), (169, vF), (168, (vI 1)), (167, vT), (166, vT), (165, vT)] (wpF_step (op_v (some 171) (Instr.loadAt 41 (vP w25.heap.size 0)) (vA (nodC Nod.zero)) (rn_lda (vs := nodC Nod.zero) (hBw27.all) (by rw [nodC_len]; kernel_rfl)) ?_))
        refine wpF_run 1 [(172, (vA (nodC Nod.zero)))] (wpF_step (op_v (some 173) (bo .eql 41 (.tmp 171) (.tmp 172) (vA (nodC Nod.zero)) (vA (nodC Nod.zero))) vT (run_eqlAgg (r := true) (T := 41) ((run_eq_nod (dd := 9995) (N := 41) (R := 36) (E := 39) (r := 35) (en := 38) (t8 := 5) (td := 33) (e := 5) (tn := 31) (t32 := 28) (t64 := 29) Nod.zero Nod.zero).trans (congrArg (fun b => Result.ok b _) (show (Nod.zero.eqb Nod.zero) = true from (Nod.eqb_iff _ _).2 rfl)))) ?_))
        refine wpF_run 3 [(176, vT), (175, vT), (174, vT)] ?_
        have hK13 := (((((((((((((((((((hg0.ext hEl)).ext hEw12)).ext hEw13)).ext hEw14)).ext hEw22)).ext hEw23)).chg hCw24 (fun hs => by have h : _ = _ := hs; omega))).ext hEw25)).ext hEw26)).chg hCw27 (fun hs => by have h : _ = _ := hs; omega))
        refine wpF_step (op_call (some 177) (c_lives13 _ hK13) ?_)
        rintro _ w28 ⟨rfl, hEw28⟩
        have hzw28 := hEw28.size
        refine wpF_run 2 [(6, vT), (178, vT)] (wpF_end (then_code (wpC_ret (body_rets vT ?_))))
        have hX3 : Ext w w28 := ((Ext.own (((Ext.own (((((hEl.trans hEw12).trans hEw13).trans hEw14).trans hEw22).trans hEw23) hCw24 (by omega)).trans hEw25).trans hEw26) hCw27 (by omega)).trans hEw28)
        exact ⟨rfl, hX3⟩
      · replace hc118 : ¬ (p > ((3 : Nat) : Int)) := by have := of_d_f hc118; omega
        obtain ⟨q, rfl⟩ := Int.eq_ofNat_of_zero_le (show 0 ≤ p by omega)
        refine wpF_run 1 [(119, vF)] (wpF_end (then_code (wpC_false (wpC_skip (then_code (wpC_seq (wpC_region (wpF_run 4 [(15, (vI 0)), (14, (vI 0)), (121, (vI 0)), (120, (vI 0))] (wpF_end ?_)))))))))
        refine then_code (wpC_seq (wpC_seq (wpC_region (wpF_run 4 [(125, (vP w.heap.size 0)), (124, vT), (123, vT), (122, (vI 0))] ?_))))
        have hK14 := (((((hBx.ext hEw12)).ext hEw13)).ext hEw14)
        refine wpF_step (op_v (some 126) (Instr.loadAt 5 (vP w.heap.size 0)) (vB x.lv) (rn_ld (hK14.cell rfl)) ?_)
        refine wpF_step (op_split (some 127) (decide (((x.lv : Nat) : Int) > ((0 : Nat) : Int))) (fun hc127 => ?_) (fun hc127 => ?_))
        · replace hc127 : x.lv > 0 := by have := of_d_t hc127; omega
          refine wpF_run 1 [(128, vT)] (wpF_end (then_code (wpC_true (wpC_region (wpF_run 1 [(14, (vI 1))] (wpF_end (then_code (wpC_seq (wpC_seq ?_)))))))))
          refine wpC_region (wpF_run 4 [(132, (vP w.heap.size 0)), (131, vT), (130, vT), (129, (vI 0))] (wpF_step (op_v (some 133) (Instr.loadAt 5 (vP w.heap.size 0)) (vB x.lv) (rn_ld (hK14.cell rfl)) ?_)))
          refine wpF_step (op_b (some 134) (((x.lv : Nat) : Int) == ((0 : Nat) : Int)) false (cmpEqF (by omega)) ?_)
          refine wpF_run 1 [(135, vF)] (wpF_end (then_code (wpC_false (wpC_skip (then_code (wpC_seq (wpC_region (wpF_step (op_v (some 137) (Instr.loadAt 41 (vP w.heap.size 0)) (vA (nodC x)) (rn_lda (vs := nodC x) (hK14.all) (by rw [nodC_len]; kernel_rfl)) ?_)))))))))
          refine wpF_run 2 [(139, (vA (recC Rec.zero))), (138, (vI q))] (wpF_step (op_call (some 140) (c_WithRecordBad x ((q : Nat) : Int) Rec.zero _ (by intro h; have hw := withE_ok h.1; omega)) ?_))
          rintro _ w29 ⟨rfl, hEw29⟩
          have hzw29 := hEw29.size
          refine wpF_run 3 [(142, (vI 1)), (141, (vA (nodC Nod.zero))), (136, (.tuple #[(vA (nodC Nod.zero)), (vI 1)]))] (wpF_step (op_new (some 16) (Instr.alloc 41 true (.tuple #[])) (vP w29.heap.size 0) (nodC Nod.zero) 41 ?_))
          intro w30 hBw30 hEw30
          have hzw30 := hEw30.size; have hlw30 := hBw30.lt
          refine wpF_step (op_store 41 w29.heap.size 0 41 (vA (nodC Nod.zero)) (nodC Nod.zero) (nodC Nod.zero) hBw30 (by rw [nodC_len]; kernel_rfl) (by first | (simp; done) | (simp; omega)) (nodC_one _) ?_)
          intro w31 hBw31 hCw31
          have hzw31 := hCw31.size
          rw [setFrom_all _ _ (by simp)] at hBw31
          refine wpF_run 1 [(9, (vI 1))] (wpF_end (then_code (wpC_seq (wpC_region ?_))))
          have hK15 := (((((hK14.ext hEw29)).ext hEw30)).chg hCw31 (fun hs => by have h : _ = _ := hs; omega))
          refine wpF_step (op_v (some 144) (Instr.loadAt 41 (vP w.heap.size 0)) (vA (nodC x)) (rn_lda (vs := nodC x) (hK15.all) (by rw [nodC_len]; kernel_rfl)) ?_)
          refine wpF_run 2 [(146, (vA (entC Ent.zero))), (145, (vI q))] (wpF_step (op_call (some 147) (c_WithEntry x q Ent.zero _ (withE_yes (by omega) hp0 (by omega)) (by decide)) ?_))
          rintro _ w32 ⟨rfl, hEw32⟩
          have hzw32 := hEw32.size
          refine wpF_run 3 [(149, (vI 0)), (148, (vA (nodC (x.setE q Ent.zero)))), (143, (.tuple #[(vA (nodC (x.setE q Ent.zero))), (vI 0)]))] (wpF_step (op_new (some 17) (Instr.alloc 41 true (.tuple #[])) (vP w32.heap.size 0) (nodC Nod.zero) 41 ?_))
          intro w33 hBw33 hEw33
          have hzw33 := hEw33.size; have hlw33 := hBw33.lt
          refine wpF_step (op_store 41 w32.heap.size 0 41 (vA (nodC (x.setE q Ent.zero))) (nodC Nod.zero) (nodC (x.setE q Ent.zero)) hBw33 (by rw [nodC_len]; kernel_rfl) (by first | (simp; done) | (simp; omega)) (nodC_one _) ?_)
          intro w34 hBw34 hCw34
          have hzw34 := hCw34.size
          rw [setFrom_all _ _ (by simp)] at hBw34
          refine wpF_run 1 [(11, (vI 0))] (wpF_end (then_code (wpC_seq (wpC_region (wpF_run 12 [(161, vF), (160, vF), (159, (vI 1)), (158, vT), (157, vT), (156, vT), (155, (vI 0)), (154, (vI 0)), (153, vT), (152, vT), (151, (vI 1)), (150, (vI 1))] ?_)))))
          have hK16 := (((((hBw31.ext hEw32)).ext hEw33)).chg hCw34 (fun hs => by have h : _ = _ := hs; omega))
          refine wpF_step (op_v (some 162) (Instr.loadAt 41 (vP w29.heap.size 0)) (vA (nodC Nod.zero)) (rn_lda (vs := nodC Nod.zero) (hK16.all) (by rw [nodC_len]; kernel_rfl)) ?_)
          refine wpF_run 1 [(163, (vA (nodC Nod.zero)))] (wpF_step (op_v (some 164) (bo .eql 41 (.tmp 162) (.tmp 163) (vA (nodC Nod.zero)) (vA (nodC Nod.zero))) vT (run_eqlAgg (r := true) (T := 41) ((run_eq_nod (dd := 9995) (N := 41) (R := 36) (E := 39) (r := 35) (en := 38) (t8 := 5) (td := 33) (e := 5) (tn := 31) (t32 := 28) (t64 := 29) Nod.zero Nod.zero).trans (congrArg (fun b => Result.ok b _) (show (Nod.zero.eqb Nod.zero) = true from (Nod.eqb_iff _ _).2 rfl)))) ?_))
          refine wpF_run 12 [(176, vT), (175, vT), (174, vT), (173, undef), (172, undef), (171, undef), (170, vT), (169, vT), (168, (vI 0)), (167, vT), (166, vT), (165, vT)] ?_
          have hK17 := (((((((((((((((((((hg0.ext hEl)).ext hEw12)).ext hEw13)).ext hEw14)).ext hEw29)).ext hEw30)).chg hCw31 (fun hs => by have h : _ = _ := hs; omega))).ext hEw32)).ext hEw33)).chg hCw34 (fun hs => by have h : _ = _ := hs; omega))
          refine wpF_step (op_call (some 177) (c_lives13 _ hK17) ?_)
          rintro _ w35 ⟨rfl, hEw35⟩
          have hzw35 := hEw35.size
          refine wpF_run 2 [(6, vT), (178, vT)] (wpF_end (then_code (wpC_ret (body_rets vT ?_))))
          have hX4 : Ext w w35 := ((Ext.own (((Ext.own (((((hEl.trans hEw12).trans hEw13).trans hEw14).trans hEw29).trans hEw30) hCw31 (by omega)).trans hEw32).trans hEw33) hCw34 (by omega)).trans hEw35)
          exact ⟨rfl, hX4⟩
        · replace hc127 : ¬ (x.lv > 0) := by have := of_d_f hc127; omega
          refine wpF_run 1 [(128, vF)] (wpF_end (then_code (wpC_false (wpC_skip (then_code (wpC_seq (wpC_seq (wpC_region (wpF_run 4 [(132, (vP w.heap.size 0)), (131, vT), (130, vT), (129, (vI 0))] ?_)))))))))
          refine wpF_step (op_v (some 133) (Instr.loadAt 5 (vP w.heap.size 0)) (vB x.lv) (rn_ld (hK14.cell rfl)) ?_)
          refine wpF_step (op_b (some 134) (((x.lv : Nat) : Int) == ((0 : Nat) : Int)) true (cmpEqT (by omega)) ?_)
          refine wpF_run 1 [(135, vT)] (wpF_end (then_code (wpC_true (wpC_region (wpF_run 1 [(15, (vI 1))] (wpF_end (then_code (wpC_seq (wpC_region ?_)))))))))
          refine wpF_step (op_v (some 137) (Instr.loadAt 41 (vP w.heap.size 0)) (vA (nodC x)) (rn_lda (vs := nodC x) (hK14.all) (by rw [nodC_len]; kernel_rfl)) ?_)
          refine wpF_run 2 [(139, (vA (recC Rec.zero))), (138, (vI q))] (wpF_step (op_call (some 140) (c_WithRecord x q Rec.zero _ (withE_yes (by omega) hp0 (by omega)) (by decide)) ?_))
          rintro _ w36 ⟨rfl, hEw36⟩
          have hzw36 := hEw36.size
          refine wpF_run 3 [(142, (vI 0)), (141, (vA (nodC (x.setR q Rec.zero)))), (136, (.tuple #[(vA (nodC (x.setR q Rec.zero))), (vI 0)]))] (wpF_step (op_new (some 16) (Instr.alloc 41 true (.tuple #[])) (vP w36.heap.size 0) (nodC Nod.zero) 41 ?_))
          intro w37 hBw37 hEw37
          have hzw37 := hEw37.size; have hlw37 := hBw37.lt
          refine wpF_step (op_store 41 w36.heap.size 0 41 (vA (nodC (x.setR q Rec.zero))) (nodC Nod.zero) (nodC (x.setR q Rec.zero)) hBw37 (by rw [nodC_len]; kernel_rfl) (by first | (simp; done) | (simp; omega)) (nodC_one _) ?_)
          intro w38 hBw38 hCw38
          have hzw38 := hCw38.size
          rw [setFrom_all _ _ (by simp)] at hBw38
          refine wpF_run 1 [(9, (vI 0))] (wpF_end (then_code (wpC_seq (wpC_region ?_))))
          have hK18 := (((((hK14.ext hEw36)).ext hEw37)).chg hCw38 (fun hs => by have h : _ = _ := hs; omega))
          refine wpF_step (op_v (some 144) (Instr.loadAt 41 (vP w.heap.size 0)) (vA (nodC x)) (rn_lda (vs := nodC x) (hK18.all) (by rw [nodC_len]; kernel_rfl)) ?_)
          refine wpF_run 2 [(146, (vA (entC Ent.zero))), (145, (vI q))] (wpF_step (op_call (some 147) (c_WithEntryBad x ((q : Nat) : Int) Ent.zero _ (by intro h; have hw := withE_ok h.1; omega)) ?_))
          rintro _ w39 ⟨rfl, hEw39⟩
          have hzw39 := hEw39.size
          refine wpF_run 3 [(149, (vI 1)), (148, (vA (nodC Nod.zero))), (143, (.tuple #[(vA (nodC Nod.zero)), (vI 1)]))] (wpF_step (op_new (some 17) (Instr.alloc 41 true (.tuple #[])) (vP w39.heap.size 0) (nodC Nod.zero) 41 ?_))
          intro w40 hBw40 hEw40
          have hzw40 := hEw40.size; have hlw40 := hBw40.lt
          refine wpF_step (op_store 41 w39.heap.size 0 41 (vA (nodC Nod.zero)) (nodC Nod.zero) (nodC Nod.zero) hBw40 (by rw [nodC_len]; kernel_rfl) (by first | (simp; done) | (simp; omega)) (nodC_one _) ?_)
          intro w41 hBw41 hCw41
          have hzw41 := hCw41.size
          rw [setFrom_all _ _ (by simp)] at hBw41
          refine wpF_run 1 [(11, (vI 1))] (wpF_end (then_code (wpC_seq (wpC_region (wpF_run 21 [(170, vF), (169, vF), (168, (vI 1)), (167, vT), (166, vT), (165, vT), (164, undef), (163, undef), (162, undef), (161, vT), (160, vT), (159, (vI 0)), (158, vT), (157, vT), (156, vT), (155, (vI 1)), (154, (vI 1)), (153, vT), (152, vT), (151, (vI 0)), (150, (vI 0))] (wpF_step (op_v (some 171) (Instr.loadAt 41 (vP w39.heap.size 0)) (vA (nodC Nod.zero)) (rn_lda (vs := nodC Nod.zero) (hBw41.all) (by rw [nodC_len]; kernel_rfl)) ?_)))))))
          refine wpF_run 1 [(172, (vA (nodC Nod.zero)))] (wpF_step (op_v (some 173) (bo .eql 41 (.tmp 171) (.tmp 172) (vA (nodC Nod.zero)) (vA (nodC Nod.zero))) vT (run_eqlAgg (r := true) (T := 41) ((run_eq_nod (dd := 9995) (N := 41) (R := 36) (E := 39) (r := 35) (en := 38) (t8 := 5) (td := 33) (e := 5) (tn := 31) (t32 := 28) (t64 := 29) Nod.zero Nod.zero).trans (congrArg (fun b => Result.ok b _) (show (Nod.zero.eqb Nod.zero) = true from (Nod.eqb_iff _ _).2 rfl)))) ?_))
          refine wpF_run 3 [(176, vT), (175, vT), (174, vT)] ?_
          have hK19 := (((((((((((((((((((hg0.ext hEl)).ext hEw12)).ext hEw13)).ext hEw14)).ext hEw36)).ext hEw37)).chg hCw38 (fun hs => by have h : _ = _ := hs; omega))).ext hEw39)).ext hEw40)).chg hCw41 (fun hs => by have h : _ = _ := hs; omega))
          refine wpF_step (op_call (some 177) (c_lives13 _ hK19) ?_)
          rintro _ w42 ⟨rfl, hEw42⟩
          have hzw42 := hEw42.size
          refine wpF_run 2 [(6, vT), (178, vT)] (wpF_end (then_code (wpC_ret (body_rets vT ?_))))
          have hX5 : Ext w w42 := ((Ext.own (((Ext.own (((((hEl.trans hEw12).trans hEw13).trans hEw14).trans hEw36).trans hEw37) hCw38 (by omega)).trans hEw39).trans hEw40) hCw41 (by omega)).trans hEw42)
          exact ⟨rfl, hX5⟩

theorem c_NE01 (x : Nod) (n : Int) (p : Int)  (w : World) (hp0 : chkN x = 0) (hp1 : ¬ (1 ≤ n ∧ n ≤ 4096)) (hg0 : Gl 0 [vI 45, vI 33] w) (hg1 : Gl 1 (w8C iniA) w) (hg2 : Gl 2 (w64C kA) w) :
    Calls Tryd.prog 8 #[(vA (nodC x)), (.int .i64 n), (.int .i64 p)] w (Ret fun r w' => r = vT ∧ Ext w w') := by
  refine calls_of (n := 179) (σ := [(0, (vA (nodC x))), (1, (.int .i64 n)), (2, (.int .i64 p))]) Tryd.func8 rfl ?_
  have hgl0 := hg0.lt
  have hgl1 := hg1.lt
  have hgl2 := hg2.lt
  have hlvx := x.hlv
  have hixx := x.hix
  refine wpC_seq (wpC_region (wpF_step (op_new (some 3) (Instr.box 41 (vA (nodC x))) (vP w.heap.size 0) (nodC x) 41 ?_)))
  intro w1 hBw1 hEw1
  have hzw1 := hEw1.size; have hlw1 := hBw1.lt
  refine wpF_run 1 [(6, vF)] (wpF_end (then_code (wpC_seq (wpC_region (wpF_step (op_v (some 18) (Instr.loadAt 41 (vP w.heap.size 0)) (vA (nodC x)) (rn_lda (vs := nodC x) (hBw1.all) (by rw [nodC_len]; kernel_rfl)) ?_))))))
  refine wpF_step (op_call (some 19) (c_rNCheck x _) ?_)
  rintro _ w2 ⟨rfl, hEw2⟩
  have hzw2 := hEw2.size
  rw [show chkN x = 0 from hp0]
  refine wpF_run 1 [(7, (vI 0))] (wpF_end (then_code (wpC_seq (wpC_region (wpF_step (op_v (some 21) (Instr.loadAt 41 (vP w.heap.size 0)) (vA (nodC x)) (rn_lda (vs := nodC x) ((hBw1.ext hEw2).all) (by rw [nodC_len]; kernel_rfl)) ?_))))))
  refine wpF_step (op_call (some 22) (c_NPut x _ (by assumption) (((hg0.ext hEw1)).ext hEw2)) ?_)
  rintro _ w3 ⟨a1, rfl, hFz2_0, hFz2_1, hFz2_2, hFz2_3, hEw3⟩
  have hzw3 := hEw3.size
  have hla1 := hFz2_1.lt; have hna1 := hFz2_3
  have hSa1 : Bs a1 (a1 + 1) w3 (pA a1 0) (nodL x) (nodL x) (nodB x) := Bs.of_blk hFz2_1 rfl hFz2_2 (Nat.le_refl _) (le_maxLen hna1) (Nat.le_refl _) (Nat.lt_succ_self _)
  refine wpF_run 5 [(9, (vI 0)), (8, (.slice (pA a1 0) (nodL x) (nodL x))), (24, (vI 0)), (23, (.slice (pA a1 0) (nodL x) (nodL x))), (20, (.tuple #[(.slice (pA a1 0) (nodL x) (nodL x)), (vI 0)]))] (wpF_end (then_code (wpC_seq (wpC_region (wpF_step (op_v (some 26) (Instr.loadAt 41 (vP w.heap.size 0)) (vA (nodC x)) (rn_lda (vs := nodC x) ((((hBw1.ext hEw2)).ext hEw3).all) (by rw [nodC_len]; kernel_rfl)) ?_))))))
  have hK1 := (((((hg0.ext hEw1)).ext hEw2)).ext hEw3)
  have hK2 := (((((hg1.ext hEw1)).ext hEw2)).ext hEw3)
  have hK3 := (((((hg2.ext hEw1)).ext hEw2)).ext hEw3)
  refine wpF_step (op_call (some 27) (c_NDigest x _ (by assumption) hK1 hK2 hK3) ?_)
  rintro _ w4 ⟨rfl, hEw4⟩
  have hzw4 := hEw4.size
  refine wpF_run 3 [(29, (vI 0)), (28, (vA (digC (shaD (nodB x))))), (25, (.tuple #[(vA (digC (shaD (nodB x)))), (vI 0)]))] (wpF_step (op_new (some 10) (Instr.alloc 33 true (.tuple #[])) (vP w4.heap.size 0) (digC Dig.zero) 33 ?_))
  intro w5 hBw5 hEw5
  have hzw5 := hEw5.size; have hlw5 := hBw5.lt
  refine wpF_step (op_store 33 w4.heap.size 0 33 (vA (digC (shaD (nodB x)))) (digC Dig.zero) (digC (shaD (nodB x))) hBw5 (by rw [digC_len]; kernel_rfl) (by first | (simp; done) | (simp; omega)) (digC_one _) ?_)
  intro w6 hBw6 hCw6
  have hzw6 := hCw6.size
  rw [setFrom_all _ _ (by simp)] at hBw6
  refine wpF_run 1 [(11, (vI 0))] (wpF_end (then_code (wpC_seq (wpC_seq (wpC_drawM (Ext w6.drew) 37 [(31, 8, 0), (32, 1073741824, 1), (33, 128, 0), (34, 6442450944, 6), (35, 8589934592, 10), (36, 17179869696, 16), (37, 17179869312, 16), (38, 120259084288, 112), (39, 154618822656, 144), (40, 274877906944, 272), (41, 549755815936, 512), (42, 549755814016, 512), (43, 3848290697216, 3584), (44, 4947802324992, 4608), (45, 8796093022208, 8704), (46, 17592186044418, 16384), (47, 17592186044424, 16384), (48, 123145302310912, 114688), (49, 17592186044418, 16384), (50, 17592186044424, 16384), (51, 862017116176384, 933888), (52, 1284229581242368, 1196032), (53, 2269391999729664, 2113536), (54, 4503599627370496, 5242880), (55, 9007199254741120, 8388608), (56, 27021597764222976, 25165824), (57, 45035996273704960, 41943040), (58, 72057594037928192, 67108864), (59, 216172782113783808, 201326592), (60, 360287970189639680, 335544320), (61, 648518346341351424, 603979776), (62, 1152921504606848000, 1073741824), (63, 1152921504606846976, 1073741824), (64, 8070450532247928832, 7516192768), (65, 10448351135499550720, 9730785280), (66, 18527808867002220544, 17255366656), (67, 36902495346673844224, 34368126976)] (fun hT364 => ?_))))))
  have hEw7 : Ext w6 w6.drew := Ext.drew w6
  generalize w6.drew = w7 at hEw7 ⊢
  have hzw7 := hEw7.size
  have hK4 := (((((((((((hBw1.ext hEw2)).ext hEw3)).ext hEw4)).ext hEw5)).chg hCw6 (fun hs => by have h : _ = _ := hs; omega))).ext hEw7)
  refine anyM_take hT364 0 1 (some 30) (vA (nodC x)) (yld_val (Instr.loadAt 41 (vP w.heap.size 0)) (fun w' hC => rn_lda (vs := nodC x) ((hK4.ext hC).all) (by rw [nodC_len]; kernel_rfl))) (anyM_run hT364 [(2, 32, (vI 0))] 1 5 (anyM_one 1 7 (op_call (some 31) (c_NCheck x _) ?_)))
  rintro _ w8 ⟨rfl, hEw8⟩
  have hzw8 := hEw8.size
  rw [show chkN x = 0 from hp0]
  refine ⟨.inr hEw8, ?_⟩
  refine anyM_run (hw := show Ext w7 w8 from hEw8) hT364 [(3, 33, vF), (4, 34, vF), (5, 35, (vI 0)), (6, 36, (vI 0)), (7, 37, vF), (8, 38, vF), (9, 39, vF), (10, 40, (vI 0)), (11, 41, (vI 0)), (12, 42, vF), (13, 43, vF), (14, 44, vF), (15, 45, (.int .i64 n))] 13 65535 (anyM_take (hw := show Ext w7 w8 from hEw8) hT364 16 131071 (some 46) (vA (nodC x)) (yld_val (Instr.loadAt 41 (vP w.heap.size 0)) (fun w' hC => rn_lda (vs := nodC x) ((hK4.ext hC).all) (by rw [nodC_len]; kernel_rfl))) (anyM_run (hw := show Ext w7 w8 from hEw8) hT364 [(18, 48, (.int .i64 n))] 1 393215 (anyM_take (hw := show Ext w7 w8 from hEw8) hT364 19 917503 (some 49) (vA (nodC x)) (yld_val (Instr.loadAt 41 (vP w.heap.size 0)) (fun w' hC => rn_lda (vs := nodC x) ((hK4.ext hC).all) (by rw [nodC_len]; kernel_rfl))) (anyM_one 17 1048575 (op_call (some 47) (c_NFitsBad n x _ (by omega)) ?_)))))
  rintro _ w9 ⟨rfl, hEw9⟩
  have hzw9 := hEw9.size
  refine ⟨.inr (hEw8.trans hEw9), ?_⟩
  refine anyM_one 20 2097151 (op_call (some 50) (c_rNFitsBad n x _ (by omega)) ?_)
  rintro _ w10 ⟨rfl, hEw10⟩
  have hzw10 := hEw10.size
  refine ⟨.inr ((hEw8.trans hEw9).trans hEw10), ?_⟩
  refine anyM_take (hw := show Ext w7 w10 from ((hEw8.trans hEw9).trans hEw10)) hT364 21 4194303 (some 51) vF (yld_b (((1 : Nat) : Int) != ((1 : Nat) : Int)) (cmpNeF (by omega))) (anyM_run (hw := show Ext w7 w10 from ((hEw8.trans hEw9).trans hEw10)) hT364 [(22, 52, vF), (23, 53, vF), (24, 54, (vI 0)), (25, 55, vF), (26, 56, vF), (27, 57, undef), (28, 58, undef), (29, 59, undef), (30, 60, undef), (31, 61, undef), (32, 62, undef), (33, 63, undef), (34, 64, undef), (35, 65, vF), (36, 66, vF)] 15 137438953471 (anyM_done (then_code (wpC_false (wpC_skip (then_code (wpC_seq (wpC_region (wpF_run 1 [(12, (vI 0))] ?_)))))))))
  refine wpF_end (then_code (wpC_seq (wpC_seq (wpC_region (wpF_run 1 [(13, (vI 0))] (wpF_end (then_code (wpC_block ?_))))))))
  have hK5 := (((((hK4.ext hEw8)).ext hEw9)).ext hEw10)
  have hX1 : Ext w w10 := (((((Ext.own ((((hEw1.trans hEw2).trans hEw3).trans hEw4).trans hEw5) hCw6 (by omega)).trans hEw7).trans hEw8).trans hEw9).trans hEw10)
  refine wpC_loop (X := Nat) (fun i => [(12, (vI (usd x i))), (13, (vI i))]) [67, 68, 69, 70, 71, 72, 73, 74, 75, 76, 77, 78, 79, 80, 81, 82, 83, 84, 85, 86, 87, 88, 89, 90, 91, 92, 93, 94, 95, 96] (fun i w11 => i ≤ 4 ∧ Blk w11 w.heap.size (nodC x) 41 ∧ Ext w w11) (fun i => 4 - i) 0 (by kernel_rfl) ⟨by omega, hK5, hX1⟩ ?_
  rintro i dw11 w11 ⟨hi, hBx, hEl⟩
  have hzl := hEl.size
  have hlx := hBx.lt
  have hul := usd_le x i
  refine wpC_seq (wpC_seq (wpC_region (wpF_run 1 [(67, (vI i))] (wpF_step (op_split (some 68) (decide (((i : Nat) : Int) < ((4 : Nat) : Int))) (fun hc68 => ?_) (fun hc68 => ?_))))))
  · replace hc68 : i < 4 := by have := of_d_t hc68; omega
    refine wpF_end (then_code (wpC_true (wpC_skip (then_code (wpC_seq (wpC_block (wpC_seq (wpC_region (wpF_run 1 [(71, (vP w.heap.size 0))] ?_)))))))))
    refine wpF_step (op_v (some 72) (Instr.loadAt 5 (vP w.heap.size 0)) (vB x.lv) (rn_ld (hBx.cell rfl)) ?_)
    refine wpF_step (op_split (some 73) ((((x.lv : Nat) : Int) == ((0 : Nat) : Int))) (fun hc73 => ?_) (fun hc73 => ?_))
    · replace hc73 : x.lv = 0 := by have := of_eq_t hc73; omega
      refine wpF_run 3 [(76, (vP w.heap.size 2)), (75, (vI i)), (74, vT)] (wpF_step (op_v (some 77) (Instr.indexAt 36 (vP w.heap.size 2) (vI i)) (vP w.heap.size (2 + i * 35)) (rn_ixa (E := 35) (sz := 35) (m := 4) (by omega)) ?_))
      refine wpF_run 1 [(78, (vP w.heap.size (2 + i * 35)))] (wpF_step (op_v (some 79) (Instr.loadAt 5 (vP w.heap.size (2 + i * 35))) (vB ((x.rs.get i).st)) (rn_ld (hBx.cell (nod_rst (by omega)))) ?_))
      refine wpF_step (op_split (some 80) (decide ((((x.rs.get i).st : Nat) : Int) > ((0 : Nat) : Int))) (fun hc80 => ?_) (fun hc80 => ?_))
      · replace hc80 : (x.rs.get i).st > 0 := by have := of_d_t hc80; omega
        refine wpF_run 14 [(94, vT), (93, undef), (92, undef), (91, undef), (90, undef), (89, undef), (88, undef), (87, undef), (86, undef), (85, undef), (84, undef), (83, undef), (82, vT), (81, vT)] (wpF_end (then_code (wpC_true (wpC_region (wpF_run 1 [(95, (vI (usd x i)))] (wpF_step (op_in (some 96) .i64 (IntKind.i64.wrap (((usd x i : Nat) : Int) + ((1 : Nat) : Int))) (usd x i + 1) (wrapS (by omega) (by omega) (by omega)) ?_)))))))
        refine wpF_run 1 [(12, (vI (usd x i + 1)))] (wpF_end (inBlock_normal (then_code (wpC_region (wpF_run 1 [(69, (vI i))] (wpF_step (op_in (some 70) .i64 (IntKind.i64.wrap (((i : Nat) : Int) + ((1 : Nat) : Int))) (i + 1) (wrapS (by omega) (by omega) (by omega)) ?_)))))))
        refine wpF_run 1 [(13, (vI (i + 1)))] (wpF_end (then_normal ?_))
        rw [show usd x i + 1 = usd x (i + 1) from by rw [usd]; (repeat' split) <;> omega]
        refine endR_mk (i + 1) ?_ ?_
        · exact ⟨by omega, hBx, hEl⟩
        · first | omega | (dsimp only; omega)
      · replace hc80 : ¬ ((x.rs.get i).st > 0) := by have := of_d_f hc80; omega
        refine wpF_run 3 [(83, (vP w.heap.size 0)), (82, vF), (81, vF)] (wpF_step (op_v (some 84) (Instr.loadAt 5 (vP w.heap.size 0)) (vB x.lv) (rn_ld (hBx.cell rfl)) ?_))
        refine wpF_step (op_b (some 85) (decide (((x.lv : Nat) : Int) > ((0 : Nat) : Int))) false (cmpDF (by omega)) ?_)
        refine wpF_run 9 [(94, vF), (93, vF), (92, undef), (91, undef), (90, undef), (89, undef), (88, undef), (87, undef), (86, vF)] (wpF_end (then_code (wpC_false (wpC_skip (inBlock_normal (then_code (wpC_region (wpF_run 1 [(69, (vI i))] (wpF_step (op_in (some 70) .i64 (IntKind.i64.wrap (((i : Nat) : Int) + ((1 : Nat) : Int))) (i + 1) (wrapS (by omega) (by omega) (by omega)) ?_))))))))))
        refine wpF_run 1 [(13, (vI (i + 1)))] (wpF_end (then_normal ?_))
        rw [show usd x i = usd x (i + 1) from by rw [usd]; (repeat' split) <;> omega]
        refine endR_mk (i + 1) ?_ ?_
        · exact ⟨by omega, hBx, hEl⟩
        · first | omega | (dsimp only; omega)
    · replace hc73 : ¬ (x.lv = 0) := by have := of_eq_f hc73; omega
      refine wpF_run 10 [(83, (vP w.heap.size 0)), (82, vF), (81, vF), (80, undef), (79, undef), (78, undef), (77, undef), (76, undef), (75, undef), (74, vF)] (wpF_step (op_v (some 84) (Instr.loadAt 5 (vP w.heap.size 0)) (vB x.lv) (rn_ld (hBx.cell rfl)) ?_))
      refine wpF_step (op_b (some 85) (decide (((x.lv : Nat) : Int) > ((0 : Nat) : Int))) true (cmpDT (by omega)) ?_)
      refine wpF_run 3 [(88, (vP w.heap.size 142)), (87, (vI i)), (86, vT)] (wpF_step (op_v (some 89) (Instr.indexAt 39 (vP w.heap.size 142) (vI i)) (vP w.heap.size (142 + i * 33)) (rn_ixa (E := 38) (sz := 33) (m := 4) (by omega)) ?_))
      refine wpF_run 1 [(90, (vP w.heap.size (142 + i * 33)))] (wpF_step (op_v (some 91) (Instr.loadAt 5 (vP w.heap.size (142 + i * 33))) (vB ((x.es.get i).st)) (rn_ld (hBx.cell (nod_est (by omega)))) ?_))
      refine wpF_step (op_split (some 92) (decide ((((x.es.get i).st : Nat) : Int) > ((0 : Nat) : Int))) (fun hc92 => ?_) (fun hc92 => ?_))
      · replace hc92 : (x.es.get i).st > 0 := by have := of_d_t hc92; omega
        refine wpF_run 2 [(94, vT), (93, vT)] (wpF_end (then_code (wpC_true (wpC_region (wpF_run 1 [(95, (vI (usd x i)))] (wpF_step (op_in (some 96) .i64 (IntKind.i64.wrap (((usd x i : Nat) : Int) + ((1 : Nat) : Int))) (usd x i + 1) (wrapS (by omega) (by omega) (by omega)) ?_)))))))
        refine wpF_run 1 [(12, (vI (usd x i + 1)))] (wpF_end (inBlock_normal (then_code (wpC_region (wpF_run 1 [(69, (vI i))] (wpF_step (op_in (some 70) .i64 (IntKind.i64.wrap (((i : Nat) : Int) + ((1 : Nat) : Int))) (i + 1) (wrapS (by omega) (by omega) (by omega)) ?_)))))))
        refine wpF_run 1 [(13, (vI (i + 1)))] (wpF_end (then_normal ?_))
        rw [show usd x i + 1 = usd x (i + 1) from by rw [usd]; (repeat' split) <;> omega]
        refine endR_mk (i + 1) ?_ ?_
        · exact ⟨by omega, hBx, hEl⟩
        · first | omega | (dsimp only; omega)
      · replace hc92 : ¬ ((x.es.get i).st > 0) := by have := of_d_f hc92; omega
        refine wpF_run 2 [(94, vF), (93, vF)] (wpF_end (then_code (wpC_false (wpC_skip (inBlock_normal (then_code (wpC_region (wpF_run 1 [(69, (vI i))] (wpF_step (op_in (some 70) .i64 (IntKind.i64.wrap (((i : Nat) : Int) + ((1 : Nat) : Int))) (i + 1) (wrapS (by omega) (by omega) (by omega)) ?_))))))))))
        refine wpF_run 1 [(13, (vI (i + 1)))] (wpF_end (then_normal ?_))
        rw [show usd x i = usd x (i + 1) from by rw [usd]; (repeat' split) <;> omega]
        refine endR_mk (i + 1) ?_ ?_
        · exact ⟨by omega, hBx, hEl⟩
        · first | omega | (dsimp only; omega)
  · replace hc68 : ¬ (i < 4) := by have := of_d_f hc68; omega
    obtain rfl : i = 4 := by omega
    refine wpF_end (then_code (wpC_false (wpC_exit (then_exit (then_exit (inBlock_exit (then_code (wpC_seq (wpC_seq ?_)))))))))
    refine wpC_drawM (Ext w11.drew) 17 [(98, 8, 0), (99, 158456325028528675187087900672, 1), (100, 4096, 0), (101, 950737950171172051122527404032, 6), (102, 1267650600228229401496703205376, 10), (103, 2535301200456458802993406410760, 16), (104, 7605903601369376408980219232256, 48), (105, 2535301200456458802993406410760, 16), (106, 22817710804108129226940657696768, 144), (107, 53241325209585634862861534625792, 336), (108, 2535301200456458802993406410760, 16), (109, 164794578029669822194571416698880, 1040), (110, 2535301200456458802993406410760, 16), (111, 651572408517309912369305447563264, 4112), (112, 1625128069492590092718773509292032, 10256), (113, 2679813368882476954764030576164864, 16912), (114, 5194832159735284087333489735630848, 32784)] (fun hT542 => ?_)
    have hEw12 : Ext w11 w11.drew := Ext.drew w11
    generalize w11.drew = w12 at hEw12 ⊢
    have hzw12 := hEw12.size
    refine anyM_take hT542 0 1 (some 97) (vA (nodC x)) (yld_val (Instr.loadAt 41 (vP w.heap.size 0)) (fun w' hC => rn_lda (vs := nodC x) (((hBx.ext hEw12).ext hC).all) (by rw [nodC_len]; kernel_rfl))) (anyM_run hT542 [(2, 99, (vI (usd x 4)))] 1 5 (anyM_one 1 7 (op_call (some 98) (c_Used x _) ?_)))
    rintro _ w13 ⟨rfl, hEw13⟩
    have hzw13 := hEw13.size
    refine ⟨.inr hEw13, ?_⟩
    refine anyM_take (hw := show Ext w12 w13 from hEw13) hT542 3 15 (some 100) vF (yld_b (((usd x 4 : Nat) : Int) != ((usd x 4 : Nat) : Int)) (cmpNeF (by omega))) (anyM_run (hw := show Ext w12 w13 from hEw13) hT542 [(4, 101, vF), (5, 102, (vP w.heap.size 0))] 2 63 (anyM_take (hw := show Ext w12 w13 from hEw13) hT542 6 127 (some 103) (vB x.lv) (yld_val (Instr.loadAt 5 (vP w.heap.size 0)) (fun w' hC => rn_ld (((hBx.ext hEw12).ext hC).cell rfl))) (anyM_run (hw := show Ext w12 w13 from hEw13) hT542 [(7, 104, (vP w.heap.size 1))] 1 255 (anyM_take (hw := show Ext w12 w13 from hEw13) hT542 8 511 (some 105) (vW x.ix) (yld_val (Instr.loadAt 28 (vP w.heap.size 1)) (fun w' hC => rn_ld (((hBx.ext hEw12).ext hC).cell rfl))) (anyM_run (hw := show Ext w12 w13 from hEw13) hT542 [(10, 107, (vP w.heap.size 0))] 1 1535 (anyM_take (hw := show Ext w12 w13 from hEw13) hT542 11 3583 (some 108) (vB x.lv) (yld_val (Instr.loadAt 5 (vP w.heap.size 0)) (fun w' hC => rn_ld (((hBx.ext hEw12).ext hC).cell rfl))) (anyM_run (hw := show Ext w12 w13 from hEw13) hT542 [(12, 109, (vP w.heap.size 1))] 1 7679 (anyM_take (hw := show Ext w12 w13 from hEw13) hT542 13 15871 (some 110) (vW x.ix) (yld_val (Instr.loadAt 28 (vP w.heap.size 1)) (fun w' hC => rn_ld (((hBx.ext hEw12).ext hC).cell rfl))) ?_))))))))
    refine anyM_take (hw := show Ext w12 w13 from hEw13) hT542 14 32255 (some 111) (vA (nodC (Nod.mt x.lv x.ix))) (yld_val (Instr.build 41 #[(0, (vB x.lv)), (1, (vW x.ix))]) (fun w' hC => (run_build_nod x.lv x.ix (by omega) (by omega)).trans (congrArg (fun z : Nod => Result.ok (Value.agg (nodC z).toArray) _) (show (Nod.emp x.lv x.ix (by omega) (by omega) : Nod) = Nod.mt x.lv x.ix from Nod.mt_eq _ _)))) (anyM_one 9 32767 (op_call (some 106) (c_Empty x.lv x.ix _ (by omega) (by omega)) ?_))
    rintro _ w14 ⟨rfl, hEw14⟩
    have hzw14 := hEw14.size
    refine ⟨.inr (hEw13.trans hEw14), ?_⟩
    refine anyM_take (hw := show Ext w12 w14 from (hEw13.trans hEw14)) hT542 15 65535 (some 112) vF (yld_val (bo .neq 41 (.tmp 106) (.tmp 111) (vA (nodC (Nod.mt x.lv x.ix))) (vA (nodC (Nod.mt x.lv x.ix)))) (fun w' hC => run_neqAgg (r := true) (T := 41) ((run_eq_nod (dd := 9995) (N := 41) (R := 36) (E := 39) (r := 35) (en := 38) (t8 := 5) (td := 33) (e := 5) (tn := 31) (t32 := 28) (t64 := 29) (Nod.mt x.lv x.ix) (Nod.mt x.lv x.ix)).trans (congrArg (fun b => Result.ok b _) (show ((Nod.mt x.lv x.ix).eqb (Nod.mt x.lv x.ix)) = true from (Nod.eqb_iff _ _).2 rfl))))) (anyM_run (hw := show Ext w12 w14 from (hEw13.trans hEw14)) hT542 [(16, 113, vF)] 1 131071 (anyM_done (then_code (wpC_false (wpC_skip (then_code (wpC_seq (wpC_seq (wpC_region ?_)))))))))
    refine wpF_run 1 [(114, (.int .i64 p))] (wpF_step (op_split (some 115) (decide (p < ((0 : Nat) : Int))) (fun hc115 => ?_) (fun hc115 => ?_)))
    · replace hc115 : p < ((0 : Nat) : Int) := by have := of_d_t hc115; omega
      refine wpF_run 4 [(119, vT), (118, undef), (117, undef), (116, vT)] (wpF_end (then_code (wpC_true (wpC_region (wpF_run 1 [(7, (vI 1))] (wpF_end (then_code (wpC_seq (wpC_region ?_)))))))))
      refine wpF_run 4 [(15, (vI 1)), (14, (vI 1)), (121, (vI 1)), (120, (vI 1))] (wpF_end (then_code (wpC_seq (wpC_seq (wpC_region (wpF_run 7 [(128, vF), (127, undef), (126, undef), (125, undef), (124, vF), (123, vF), (122, (vI 1))] (wpF_end (then_code (wpC_false ?_)))))))))
      refine wpC_skip (then_code (wpC_seq (wpC_seq (wpC_region (wpF_run 7 [(135, vF), (134, undef), (133, undef), (132, undef), (131, vF), (130, vF), (129, (vI 1))] (wpF_end (then_code (wpC_false (wpC_skip ?_)))))))))
      refine then_code (wpC_seq (wpC_region ?_))
      have hK6 := (((((hBx.ext hEw12)).ext hEw13)).ext hEw14)
      refine wpF_step (op_v (some 137) (Instr.loadAt 41 (vP w.heap.size 0)) (vA (nodC x)) (rn_lda (vs := nodC x) (hK6.all) (by rw [nodC_len]; kernel_rfl)) ?_)
      refine wpF_run 2 [(139, (vA (recC Rec.zero))), (138, (.int .i64 p))] (wpF_step (op_call (some 140) (c_WithRecordBad x p Rec.zero _ (by intro h; have hw := withE_ok h.1; omega)) ?_))
      rintro _ w15 ⟨rfl, hEw15⟩
      have hzw15 := hEw15.size
      refine wpF_run 3 [(142, (vI 1)), (141, (vA (nodC Nod.zero))), (136, (.tuple #[(vA (nodC Nod.zero)), (vI 1)]))] (wpF_step (op_new (some 16) (Instr.alloc 41 true (.tuple #[])) (vP w15.heap.size 0) (nodC Nod.zero) 41 ?_))
      intro w16 hBw16 hEw16
      have hzw16 := hEw16.size; have hlw16 := hBw16.lt
      refine wpF_step (op_store 41 w15.heap.size 0 41 (vA (nodC Nod.zero)) (nodC Nod.zero) (nodC Nod.zero) hBw16 (by rw [nodC_len]; kernel_rfl) (by first | (simp; done) | (simp; omega)) (nodC_one _) ?_)
      intro w17 hBw17 hCw17
      have hzw17 := hCw17.size
      rw [setFrom_all _ _ (by simp)] at hBw17
      refine wpF_run 1 [(9, (vI 1))] (wpF_end (then_code (wpC_seq (wpC_region ?_))))
      have hK7 := (((((hK6.ext hEw15)).ext hEw16)).chg hCw17 (fun hs => by have h : _ = _ := hs; omega))
      refine wpF_step (op_v (some 144) (Instr.loadAt 41 (vP w.heap.size 0)) (vA (nodC x)) (rn_lda (vs := nodC x) (hK7.all) (by rw [nodC_len]; kernel_rfl)) ?_)
      refine wpF_run 2 [(146, (vA (entC Ent.zero))), (145, (.int .i64 p))] (wpF_step (op_call (some 147) (c_WithEntryBad x p Ent.zero _ (by intro h; have hw := withE_ok h.1; omega)) ?_))
      rintro _ w18 ⟨rfl, hEw18⟩
      have hzw18 := hEw18.size
      refine wpF_run 3 [(149, (vI 1)), (148, (vA (nodC Nod.zero))), (143, (.tuple #[(vA (nodC Nod.zero)), (vI 1)]))] (wpF_step (op_new (some 17) (Instr.alloc 41 true (.tuple #[])) (vP w18.heap.size 0) (nodC Nod.zero) 41 ?_))
      intro w19 hBw19 hEw19
      have hzw19 := hEw19.size; have hlw19 := hBw19.lt
      refine wpF_step (op_store 41 w18.heap.size 0 41 (vA (nodC Nod.zero)) (nodC Nod.zero) (nodC Nod.zero) hBw19 (by rw [nodC_len]; kernel_rfl) (by first | (simp; done) | (simp; omega)) (nodC_one _) ?_)
      intro w20 hBw20 hCw20
      have hzw20 := hCw20.size
      rw [setFrom_all _ _ (by simp)] at hBw20
      refine wpF_run 1 [(11, (vI 1))] (wpF_end (then_code (wpC_seq (wpC_region (wpF_run 12 [(161, vF), (160, vF), (159, (vI 1)), (158, vT), (157, vT), (156, vT), (155, (vI 1)), (154, (vI 1)), (153, vT), (152, vT), (151, (vI 1)), (150, (vI 1))] ?_)))))
      have hK8 := (((((hBw17.ext hEw18)).ext hEw19)).chg hCw20 (fun hs => by have h : _ = _ := hs; omega))
      refine wpF_step (op_v (some 162) (Instr.loadAt 41 (vP w15.heap.size 0)) (vA (nodC Nod.zero)) (rn_lda (vs := nodC Nod.zero) (hK8.all) (by rw [nodC_len]; kernel_rfl)) ?_)
      refine wpF_run 1 [(163, (vA (nodC Nod.zero)))] (wpF_step (op_v (some 164) (bo .eql 41 (.tmp 162) (.tmp 163) (vA (nodC Nod.zero)) (vA (nodC Nod.zero))) vT (run_eqlAgg (r := true) (T := 41) ((run_eq_nod (dd := 9995) (N := 41) (R := 36) (E := 39) (r := 35) (en := 38) (t8 := 5) (td := 33) (e := 5) (tn := 31) (t32 := 28) (t64 := 29) Nod.zero Nod.zero).trans (congrArg (fun b => Result.ok b _) (show (Nod.zero.eqb Nod.zero) = true from (Nod.eqb_iff _ _).2 rfl)))) ?_))
      refine wpF_run 6 [(170, vF), (169, vF), (168, (vI 1)), (167, vT), (166, vT), (165, vT)] (wpF_step (op_v (some 171) (Instr.loadAt 41 (vP w18.heap.size 0)) (vA (nodC Nod.zero)) (rn_lda (vs := nodC Nod.zero) (hBw20.all) (by rw [nodC_len]; kernel_rfl)) ?_))
      refine wpF_run 1 [(172, (vA (nodC Nod.zero)))] (wpF_step (op_v (some 173) (bo .eql 41 (.tmp 171) (.tmp 172) (vA (nodC Nod.zero)) (vA (nodC Nod.zero))) vT (run_eqlAgg (r := true) (T := 41) ((run_eq_nod (dd := 9995) (N := 41) (R := 36) (E := 39) (r := 35) (en := 38) (t8 := 5) (td := 33) (e := 5) (tn := 31) (t32 := 28) (t64 := 29) Nod.zero Nod.zero).trans (congrArg (fun b => Result.ok b _) (show (Nod.zero.eqb Nod.zero) = true from (Nod.eqb_iff _ _).2 rfl)))) ?_))
      refine wpF_run 3 [(176, vT), (175, vT), (174, vT)] ?_
      have hK9 := (((((((((((((((((((hg0.ext hEl)).ext hEw12)).ext hEw13)).ext hEw14)).ext hEw15)).ext hEw16)).chg hCw17 (fun hs => by have h : _ = _ := hs; omega))).ext hEw18)).ext hEw19)).chg hCw20 (fun hs => by have h : _ = _ := hs; omega))
      refine wpF_step (op_call (some 177) (c_lives13 _ hK9) ?_)
      rintro _ w21 ⟨rfl, hEw21⟩
      have hzw21 := hEw21.size
      refine wpF_run 2 [(6, vT), (178, vT)] (wpF_end (then_code (wpC_ret (body_rets vT ?_))))
      have hX2 : Ext w w21 := ((Ext.own (((Ext.own (((((hEl.trans hEw12).trans hEw13).trans hEw14).trans hEw15).trans hEw16) hCw17 (by omega)).trans hEw18).trans hEw19) hCw20 (by omega)).trans hEw21)
      exact ⟨rfl, hX2⟩
    · replace hc115 : ¬ (p < ((0 : Nat) : Int)) := by have := of_d_f hc115; omega
      refine wpF_run 2 [(117, (.int .i64 p)), (116, vF)] (wpF_step (op_split (some 118) (decide (p > ((3 : Nat) : Int))) (fun hc118 => ?_) (fun hc118 => ?_)))
      · replace hc118 : p > ((3 : Nat) : Int) := by have := of_d_t hc118; omega
        refine wpF_run 1 [(119, vT)] (wpF_end (then_code (wpC_true (wpC_region (wpF_run 1 [(7, (vI 1))] (wpF_end (then_code (wpC_seq (wpC_region ?_)))))))))
        refine wpF_run 4 [(15, (vI 1)), (14, (vI 1)), (121, (vI 1)), (120, (vI 1))] (wpF_end (then_code (wpC_seq (wpC_seq (wpC_region (wpF_run 7 [(128, vF), (127, undef), (126, undef), (125, undef), (124, vF), (123, vF), (122, (vI 1))] (wpF_end (then_code (wpC_false ?_)))))))))
        refine wpC_skip (then_code (wpC_seq (wpC_seq (wpC_region (wpF_run 7 [(135, vF), (134, undef), (133, undef), (132, undef), (131, vF), (130, vF), (129, (vI 1))] (wpF_end (then_code (wpC_false (wpC_skip ?_)))))))))
        refine then_code (wpC_seq (wpC_region ?_))
        have hK10 := (((((hBx.ext hEw12)).ext hEw13)).ext hEw14)
        refine wpF_step (op_v (some 137) (Instr.loadAt 41 (vP w.heap.size 0)) (vA (nodC x)) (rn_lda (vs := nodC x) (hK10.all) (by rw [nodC_len]; kernel_rfl)) ?_)
        refine wpF_run 2 [(139, (vA (recC Rec.zero))), (138, (.int .i64 p))] (wpF_step (op_call (some 140) (c_WithRecordBad x p Rec.zero _ (by intro h; have hw := withE_ok h.1; omega)) ?_))
        rintro _ w22 ⟨rfl, hEw22⟩
        have hzw22 := hEw22.size
        refine wpF_run 3 [(142, (vI 1)), (141, (vA (nodC Nod.zero))), (136, (.tuple #[(vA (nodC Nod.zero)), (vI 1)]))] (wpF_step (op_new (some 16) (Instr.alloc 41 true (.tuple #[])) (vP w22.heap.size 0) (nodC Nod.zero) 41 ?_))
        intro w23 hBw23 hEw23
        have hzw23 := hEw23.size; have hlw23 := hBw23.lt
        refine wpF_step (op_store 41 w22.heap.size 0 41 (vA (nodC Nod.zero)) (nodC Nod.zero) (nodC Nod.zero) hBw23 (by rw [nodC_len]; kernel_rfl) (by first | (simp; done) | (simp; omega)) (nodC_one _) ?_)
        intro w24 hBw24 hCw24
        have hzw24 := hCw24.size
        rw [setFrom_all _ _ (by simp)] at hBw24
        refine wpF_run 1 [(9, (vI 1))] (wpF_end (then_code (wpC_seq (wpC_region ?_))))
        have hK11 := (((((hK10.ext hEw22)).ext hEw23)).chg hCw24 (fun hs => by have h : _ = _ := hs; omega))
        refine wpF_step (op_v (some 144) (Instr.loadAt 41 (vP w.heap.size 0)) (vA (nodC x)) (rn_lda (vs := nodC x) (hK11.all) (by rw [nodC_len]; kernel_rfl)) ?_)
        refine wpF_run 2 [(146, (vA (entC Ent.zero))), (145, (.int .i64 p))] (wpF_step (op_call (some 147) (c_WithEntryBad x p Ent.zero _ (by intro h; have hw := withE_ok h.1; omega)) ?_))
        rintro _ w25 ⟨rfl, hEw25⟩
        have hzw25 := hEw25.size
        refine wpF_run 3 [(149, (vI 1)), (148, (vA (nodC Nod.zero))), (143, (.tuple #[(vA (nodC Nod.zero)), (vI 1)]))] (wpF_step (op_new (some 17) (Instr.alloc 41 true (.tuple #[])) (vP w25.heap.size 0) (nodC Nod.zero) 41 ?_))
        intro w26 hBw26 hEw26
        have hzw26 := hEw26.size; have hlw26 := hBw26.lt
        refine wpF_step (op_store 41 w25.heap.size 0 41 (vA (nodC Nod.zero)) (nodC Nod.zero) (nodC Nod.zero) hBw26 (by rw [nodC_len]; kernel_rfl) (by first | (simp; done) | (simp; omega)) (nodC_one _) ?_)
        intro w27 hBw27 hCw27
        have hzw27 := hCw27.size
        rw [setFrom_all _ _ (by simp)] at hBw27
        refine wpF_run 1 [(11, (vI 1))] (wpF_end (then_code (wpC_seq (wpC_region (wpF_run 12 [(161, vF), (160, vF), (159, (vI 1)), (158, vT), (157, vT), (156, vT), (155, (vI 1)), (154, (vI 1)), (153, vT), (152, vT), (151, (vI 1)), (150, (vI 1))] ?_)))))
        have hK12 := (((((hBw24.ext hEw25)).ext hEw26)).chg hCw27 (fun hs => by have h : _ = _ := hs; omega))
        refine wpF_step (op_v (some 162) (Instr.loadAt 41 (vP w22.heap.size 0)) (vA (nodC Nod.zero)) (rn_lda (vs := nodC Nod.zero) (hK12.all) (by rw [nodC_len]; kernel_rfl)) ?_)
        refine wpF_run 1 [(163, (vA (nodC Nod.zero)))] (wpF_step (op_v (some 164) (bo .eql 41 (.tmp 162) (.tmp 163) (vA (nodC Nod.zero)) (vA (nodC Nod.zero))) vT (run_eqlAgg (r := true) (T := 41) ((run_eq_nod (dd := 9995) (N := 41) (R := 36) (E := 39) (r := 35) (en := 38) (t8 := 5) (td := 33) (e := 5) (tn := 31) (t32 := 28) (t64 := 29) Nod.zero Nod.zero).trans (congrArg (fun b => Result.ok b _) (show (Nod.zero.eqb Nod.zero) = true from (Nod.eqb_iff _ _).2 rfl)))) ?_))
        refine wpF_run 6 [(170, vF), (169, vF), (168, (vI 1)), (167, vT), (166, vT), (165, vT)] (wpF_step (op_v (some 171) (Instr.loadAt 41 (vP w25.heap.size 0)) (vA (nodC Nod.zero)) (rn_lda (vs := nodC Nod.zero) (hBw27.all) (by rw [nodC_len]; kernel_rfl)) ?_))
        refine wpF_run 1 [(172, (vA (nodC Nod.zero)))] (wpF_step (op_v (some 173) (bo .eql 41 (.tmp 171) (.tmp 172) (vA (nodC Nod.zero)) (vA (nodC Nod.zero))) vT (run_eqlAgg (r := true) (T := 41) ((run_eq_nod (dd := 9995) (N := 41) (R := 36) (E := 39) (r := 35) (en := 38) (t8 := 5) (td := 33) (e := 5) (tn := 31) (t32 := 28) (t64 := 29) Nod.zero Nod.zero).trans (congrArg (fun b => Result.ok b _) (show (Nod.zero.eqb Nod.zero) = true from (Nod.eqb_iff _ _).2 rfl)))) ?_))
        refine wpF_run 3 [(176, vT), (175, vT), (174, vT)] ?_
        have hK13 := (((((((((((((((((((hg0.ext hEl)).ext hEw12)).ext hEw13)).ext hEw14)).ext hEw22)).ext hEw23)).chg hCw24 (fun hs => by have h : _ = _ := hs; omega))).ext hEw25)).ext hEw26)).chg hCw27 (fun hs => by have h : _ = _ := hs; omega))
        refine wpF_step (op_call (some 177) (c_lives13 _ hK13) ?_)
        rintro _ w28 ⟨rfl, hEw28⟩
        have hzw28 := hEw28.size
        refine wpF_run 2 [(6, vT), (178, vT)] (wpF_end (then_code (wpC_ret (body_rets vT ?_))))
        have hX3 : Ext w w28 := ((Ext.own (((Ext.own (((((hEl.trans hEw12).trans hEw13).trans hEw14).trans hEw22).trans hEw23) hCw24 (by omega)).trans hEw25).trans hEw26) hCw27 (by omega)).trans hEw28)
        exact ⟨rfl, hX3⟩
      · replace hc118 : ¬ (p > ((3 : Nat) : Int)) := by have := of_d_f hc118; omega
        obtain ⟨q, rfl⟩ := Int.eq_ofNat_of_zero_le (show 0 ≤ p by omega)
        refine wpF_run 1 [(119, vF)] (wpF_end (then_code (wpC_false (wpC_skip (then_code (wpC_seq (wpC_region (wpF_run 4 [(15, (vI 0)), (14, (vI 0)), (121, (vI 0)), (120, (vI 0))] (wpF_end ?_)))))))))
        refine then_code (wpC_seq (wpC_seq (wpC_region (wpF_run 4 [(125, (vP w.heap.size 0)), (124, vT), (123, vT), (122, (vI 0))] ?_))))
        have hK14 := (((((hBx.ext hEw12)).ext hEw13)).ext hEw14)
        refine wpF_step (op_v (some 126) (Instr.loadAt 5 (vP w.heap.size 0)) (vB x.lv) (rn_ld (hK14.cell rfl)) ?_)
        refine wpF_step (op_split (some 127) (decide (((x.lv : Nat) : Int) > ((0 : Nat) : Int))) (fun hc127 => ?_) (fun hc127 => ?_))
        · replace hc127 : x.lv > 0 := by have := of_d_t hc127; omega
          refine wpF_run 1 [(128, vT)] (wpF_end (then_code (wpC_true (wpC_region (wpF_run 1 [(14, (vI 1))] (wpF_end (then_code (wpC_seq (wpC_seq ?_)))))))))
          refine wpC_region (wpF_run 4 [(132, (vP w.heap.size 0)), (131, vT), (130, vT), (129, (vI 0))] (wpF_step (op_v (some 133) (Instr.loadAt 5 (vP w.heap.size 0)) (vB x.lv) (rn_ld (hK14.cell rfl)) ?_)))
          refine wpF_step (op_b (some 134) (((x.lv : Nat) : Int) == ((0 : Nat) : Int)) false (cmpEqF (by omega)) ?_)
          refine wpF_run 1 [(135, vF)] (wpF_end (then_code (wpC_false (wpC_skip (then_code (wpC_seq (wpC_region (wpF_step (op_v (some 137) (Instr.loadAt 41 (vP w.heap.size 0)) (vA (nodC x)) (rn_lda (vs := nodC x) (hK14.all) (by rw [nodC_len]; kernel_rfl)) ?_)))))))))
          refine wpF_run 2 [(139, (vA (recC Rec.zero))), (138, (vI q))] (wpF_step (op_call (some 140) (c_WithRecordBad x ((q : Nat) : Int) Rec.zero _ (by intro h; have hw := withE_ok h.1; omega)) ?_))
          rintro _ w29 ⟨rfl, hEw29⟩
          have hzw29 := hEw29.size
          refine wpF_run 3 [(142, (vI 1)), (141, (vA (nodC Nod.zero))), (136, (.tuple #[(vA (nodC Nod.zero)), (vI 1)]))] (wpF_step (op_new (some 16) (Instr.alloc 41 true (.tuple #[])) (vP w29.heap.size 0) (nodC Nod.zero) 41 ?_))
          intro w30 hBw30 hEw30
          have hzw30 := hEw30.size; have hlw30 := hBw30.lt
          refine wpF_step (op_store 41 w29.heap.size 0 41 (vA (nodC Nod.zero)) (nodC Nod.zero) (nodC Nod.zero) hBw30 (by rw [nodC_len]; kernel_rfl) (by first | (simp; done) | (simp; omega)) (nodC_one _) ?_)
          intro w31 hBw31 hCw31
          have hzw31 := hCw31.size
          rw [setFrom_all _ _ (by simp)] at hBw31
          refine wpF_run 1 [(9, (vI 1))] (wpF_end (then_code (wpC_seq (wpC_region ?_))))
          have hK15 := (((((hK14.ext hEw29)).ext hEw30)).chg hCw31 (fun hs => by have h : _ = _ := hs; omega))
          refine wpF_step (op_v (some 144) (Instr.loadAt 41 (vP w.heap.size 0)) (vA (nodC x)) (rn_lda (vs := nodC x) (hK15.all) (by rw [nodC_len]; kernel_rfl)) ?_)
          refine wpF_run 2 [(146, (vA (entC Ent.zero))), (145, (vI q))] (wpF_step (op_call (some 147) (c_WithEntry x q Ent.zero _ (withE_yes (by omega) hp0 (by omega)) (by decide)) ?_))
          rintro _ w32 ⟨rfl, hEw32⟩
          have hzw32 := hEw32.size
          refine wpF_run 3 [(149, (vI 0)), (148, (vA (nodC (x.setE q Ent.zero)))), (143, (.tuple #[(vA (nodC (x.setE q Ent.zero))), (vI 0)]))] (wpF_step (op_new (some 17) (Instr.alloc 41 true (.tuple #[])) (vP w32.heap.size 0) (nodC Nod.zero) 41 ?_))
          intro w33 hBw33 hEw33
          have hzw33 := hEw33.size; have hlw33 := hBw33.lt
          refine wpF_step (op_store 41 w32.heap.size 0 41 (vA (nodC (x.setE q Ent.zero))) (nodC Nod.zero) (nodC (x.setE q Ent.zero)) hBw33 (by rw [nodC_len]; kernel_rfl) (by first | (simp; done) | (simp; omega)) (nodC_one _) ?_)
          intro w34 hBw34 hCw34
          have hzw34 := hCw34.size
          rw [setFrom_all _ _ (by simp)] at hBw34
          refine wpF_run 1 [(11, (vI 0))] (wpF_end (then_code (wpC_seq (wpC_region (wpF_run 12 [(161, vF), (160, vF), (159, (vI 1)), (158, vT), (157, vT), (156, vT), (155, (vI 0)), (154, (vI 0)), (153, vT), (152, vT), (151, (vI 1)), (150, (vI 1))] ?_)))))
          have hK16 := (((((hBw31.ext hEw32)).ext hEw33)).chg hCw34 (fun hs => by have h : _ = _ := hs; omega))
          refine wpF_step (op_v (some 162) (Instr.loadAt 41 (vP w29.heap.size 0)) (vA (nodC Nod.zero)) (rn_lda (vs := nodC Nod.zero) (hK16.all) (by rw [nodC_len]; kernel_rfl)) ?_)
          refine wpF_run 1 [(163, (vA (nodC Nod.zero)))] (wpF_step (op_v (some 164) (bo .eql 41 (.tmp 162) (.tmp 163) (vA (nodC Nod.zero)) (vA (nodC Nod.zero))) vT (run_eqlAgg (r := true) (T := 41) ((run_eq_nod (dd := 9995) (N := 41) (R := 36) (E := 39) (r := 35) (en := 38) (t8 := 5) (td := 33) (e := 5) (tn := 31) (t32 := 28) (t64 := 29) Nod.zero Nod.zero).trans (congrArg (fun b => Result.ok b _) (show (Nod.zero.eqb Nod.zero) = true from (Nod.eqb_iff _ _).2 rfl)))) ?_))
          refine wpF_run 12 [(176, vT), (175, vT), (174, vT), (173, undef), (172, undef), (171, undef), (170, vT), (169, vT), (168, (vI 0)), (167, vT), (166, vT), (165, vT)] ?_
          have hK17 := (((((((((((((((((((hg0.ext hEl)).ext hEw12)).ext hEw13)).ext hEw14)).ext hEw29)).ext hEw30)).chg hCw31 (fun hs => by have h : _ = _ := hs; omega))).ext hEw32)).ext hEw33)).chg hCw34 (fun hs => by have h : _ = _ := hs; omega))
          refine wpF_step (op_call (some 177) (c_lives13 _ hK17) ?_)
          rintro _ w35 ⟨rfl, hEw35⟩
          have hzw35 := hEw35.size
          refine wpF_run 2 [(6, vT), (178, vT)] (wpF_end (then_code (wpC_ret (body_rets vT ?_))))
          have hX4 : Ext w w35 := ((Ext.own (((Ext.own (((((hEl.trans hEw12).trans hEw13).trans hEw14).trans hEw29).trans hEw30) hCw31 (by omega)).trans hEw32).trans hEw33) hCw34 (by omega)).trans hEw35)
          exact ⟨rfl, hX4⟩
        · replace hc127 : ¬ (x.lv > 0) := by have := of_d_f hc127; omega
          refine wpF_run 1 [(128, vF)] (wpF_end (then_code (wpC_false (wpC_skip (then_code (wpC_seq (wpC_seq (wpC_region (wpF_run 4 [(132, (vP w.heap.size 0)), (131, vT), (130, vT), (129, (vI 0))] ?_)))))))))
          refine wpF_step (op_v (some 133) (Instr.loadAt 5 (vP w.heap.size 0)) (vB x.lv) (rn_ld (hK14.cell rfl)) ?_)
          refine wpF_step (op_b (some 134) (((x.lv : Nat) : Int) == ((0 : Nat) : Int)) true (cmpEqT (by omega)) ?_)
          refine wpF_run 1 [(135, vT)] (wpF_end (then_code (wpC_true (wpC_region (wpF_run 1 [(15, (vI 1))] (wpF_end (then_code (wpC_seq (wpC_region ?_)))))))))
          refine wpF_step (op_v (some 137) (Instr.loadAt 41 (vP w.heap.size 0)) (vA (nodC x)) (rn_lda (vs := nodC x) (hK14.all) (by rw [nodC_len]; kernel_rfl)) ?_)
          refine wpF_run 2 [(139, (vA (recC Rec.zero))), (138, (vI q))] (wpF_step (op_call (some 140) (c_WithRecord x q Rec.zero _ (withE_yes (by omega) hp0 (by omega)) (by decide)) ?_))
          rintro _ w36 ⟨rfl, hEw36⟩
          have hzw36 := hEw36.size
          refine wpF_run 3 [(142, (vI 0)), (141, (vA (nodC (x.setR q Rec.zero)))), (136, (.tuple #[(vA (nodC (x.setR q Rec.zero))), (vI 0)]))] (wpF_step (op_new (some 16) (Instr.alloc 41 true (.tuple #[])) (vP w36.heap.size 0) (nodC Nod.zero) 41 ?_))
          intro w37 hBw37 hEw37
          have hzw37 := hEw37.size; have hlw37 := hBw37.lt
          refine wpF_step (op_store 41 w36.heap.size 0 41 (vA (nodC (x.setR q Rec.zero))) (nodC Nod.zero) (nodC (x.setR q Rec.zero)) hBw37 (by rw [nodC_len]; kernel_rfl) (by first | (simp; done) | (simp; omega)) (nodC_one _) ?_)
          intro w38 hBw38 hCw38
          have hzw38 := hCw38.size
          rw [setFrom_all _ _ (by simp)] at hBw38
          refine wpF_run 1 [(9, (vI 0))] (wpF_end (then_code (wpC_seq (wpC_region ?_))))
          have hK18 := (((((hK14.ext hEw36)).ext hEw37)).chg hCw38 (fun hs => by have h : _ = _ := hs; omega))
          refine wpF_step (op_v (some 144) (Instr.loadAt 41 (vP w.heap.size 0)) (vA (nodC x)) (rn_lda (vs := nodC x) (hK18.all) (by rw [nodC_len]; kernel_rfl)) ?_)
          refine wpF_run 2 [(146, (vA (entC Ent.zero))), (145, (vI q))] (wpF_step (op_call (some 147) (c_WithEntryBad x ((q : Nat) : Int) Ent.zero _ (by intro h; have hw := withE_ok h.1; omega)) ?_))
          rintro _ w39 ⟨rfl, hEw39⟩
          have hzw39 := hEw39.size
          refine wpF_run 3 [(149, (vI 1)), (148, (vA (nodC Nod.zero))), (143, (.tuple #[(vA (nodC Nod.zero)), (vI 1)]))] (wpF_step (op_new (some 17) (Instr.alloc 41 true (.tuple #[])) (vP w39.heap.size 0) (nodC Nod.zero) 41 ?_))
          intro w40 hBw40 hEw40
          have hzw40 := hEw40.size; have hlw40 := hBw40.lt
          refine wpF_step (op_store 41 w39.heap.size 0 41 (vA (nodC Nod.zero)) (nodC Nod.zero) (nodC Nod.zero) hBw40 (by rw [nodC_len]; kernel_rfl) (by first | (simp; done) | (simp; omega)) (nodC_one _) ?_)
          intro w41 hBw41 hCw41
          have hzw41 := hCw41.size
          rw [setFrom_all _ _ (by simp)] at hBw41
          refine wpF_run 1 [(11, (vI 1))] (wpF_end (then_code (wpC_seq (wpC_region (wpF_run 21 [(170, vF), (169, vF), (168, (vI 1)), (167, vT), (166, vT), (165, vT), (164, undef), (163, undef), (162, undef), (161, vT), (160, vT), (159, (vI 0)), (158, vT), (157, vT), (156, vT), (155, (vI 1)), (154, (vI 1)), (153, vT), (152, vT), (151, (vI 0)), (150, (vI 0))] (wpF_step (op_v (some 171) (Instr.loadAt 41 (vP w39.heap.size 0)) (vA (nodC Nod.zero)) (rn_lda (vs := nodC Nod.zero) (hBw41.all) (by rw [nodC_len]; kernel_rfl)) ?_)))))))
          refine wpF_run 1 [(172, (vA (nodC Nod.zero)))] (wpF_step (op_v (some 173) (bo .eql 41 (.tmp 171) (.tmp 172) (vA (nodC Nod.zero)) (vA (nodC Nod.zero))) vT (run_eqlAgg (r := true) (T := 41) ((run_eq_nod (dd := 9995) (N := 41) (R := 36) (E := 39) (r := 35) (en := 38) (t8 := 5) (td := 33) (e := 5) (tn := 31) (t32 := 28) (t64 := 29) Nod.zero Nod.zero).trans (congrArg (fun b => Result.ok b _) (show (Nod.zero.eqb Nod.zero) = true from (Nod.eqb_iff _ _).2 rfl)))) ?_))
          refine wpF_run 3 [(176, vT), (175, vT), (174, vT)] ?_
          have hK19 := (((((((((((((((((((hg0.ext hEl)).ext hEw12)).ext hEw13)).ext hEw14)).ext hEw36)).ext hEw37)).chg hCw38 (fun hs => by have h : _ = _ := hs; omega))).ext hEw39)).ext hEw40)).chg hCw41 (fun hs => by have h : _ = _ := hs; omega))
          refine wpF_step (op_call (some 177) (c_lives13 _ hK19) ?_)
          rintro _ w42 ⟨rfl, hEw42⟩
          have hzw42 := hEw42.size
          refine wpF_run 2 [(6, vT), (178, vT)] (wpF_end (then_code (wpC_ret (body_rets vT ?_))))
          have hX5 : Ext w w42 := ((Ext.own (((Ext.own (((((hEl.trans hEw12).trans hEw13).trans hEw14).trans hEw36).trans hEw37) hCw38 (by omega)).trans hEw39).trans hEw40) hCw41 (by omega)).trans hEw42)
          exact ⟨rfl, hX5⟩

theorem c_NE10 (x : Nod) (n : Nat) (p : Int)  (w : World) (hp0 : chkN x = 1) (hp1 : 1 ≤ n) (hp2 : n ≤ 4096) (hg0 : Gl 0 [vI 45, vI 33] w) (hg1 : Gl 1 (w8C iniA) w) (hg2 : Gl 2 (w64C kA) w) :
    Calls Tryd.prog 8 #[(vA (nodC x)), (vI n), (.int .i64 p)] w (Ret fun r w' => r = vT ∧ Ext w w') := by
  refine calls_of (n := 179) (σ := [(0, (vA (nodC x))), (1, (vI n)), (2, (.int .i64 p))]) Tryd.func8 rfl ?_
  have hgl0 := hg0.lt
  have hgl1 := hg1.lt
  have hgl2 := hg2.lt
  have hlvx := x.hlv
  have hixx := x.hix
  refine wpC_seq (wpC_region (wpF_step (op_new (some 3) (Instr.box 41 (vA (nodC x))) (vP w.heap.size 0) (nodC x) 41 ?_)))
  intro w1 hBw1 hEw1
  have hzw1 := hEw1.size; have hlw1 := hBw1.lt
  refine wpF_run 1 [(6, vF)] (wpF_end (then_code (wpC_seq (wpC_region (wpF_step (op_v (some 18) (Instr.loadAt 41 (vP w.heap.size 0)) (vA (nodC x)) (rn_lda (vs := nodC x) (hBw1.all) (by rw [nodC_len]; kernel_rfl)) ?_))))))
  refine wpF_step (op_call (some 19) (c_rNCheck x _) ?_)
  rintro _ w2 ⟨rfl, hEw2⟩
  have hzw2 := hEw2.size
  rw [show chkN x = 1 from hp0]
  refine wpF_run 1 [(7, (vI 1))] (wpF_end (then_code (wpC_seq (wpC_region (wpF_step (op_v (some 21) (Instr.loadAt 41 (vP w.heap.size 0)) (vA (nodC x)) (rn_lda (vs := nodC x) ((hBw1.ext hEw2).all) (by rw [nodC_len]; kernel_rfl)) ?_))))))
  refine wpF_step (op_call (some 22) (c_NPutBad x _ (by assumption)) ?_)
  rintro _ w3 ⟨rfl, hEw3⟩
  have hzw3 := hEw3.size
  refine wpF_run 5 [(9, (vI 1)), (8, (.slice none 0 0)), (24, (vI 1)), (23, (.slice none 0 0)), (20, (.tuple #[(.slice none 0 0), (vI 1)]))] (wpF_end (then_code (wpC_seq (wpC_region (wpF_step (op_v (some 26) (Instr.loadAt 41 (vP w.heap.size 0)) (vA (nodC x)) (rn_lda (vs := nodC x) ((((hBw1.ext hEw2)).ext hEw3).all) (by rw [nodC_len]; kernel_rfl)) ?_))))))
  refine wpF_step (op_call (some 27) (c_NDigestBad x _ (by assumption)) ?_)
  rintro _ w4 ⟨rfl, hEw4⟩
  have hzw4 := hEw4.size
  refine wpF_run 3 [(29, (vI 1)), (28, (vA (digC Dig.zero))), (25, (.tuple #[(vA (digC Dig.zero)), (vI 1)]))] (wpF_step (op_new (some 10) (Instr.alloc 33 true (.tuple #[])) (vP w4.heap.size 0) (digC Dig.zero) 33 ?_))
  intro w5 hBw5 hEw5
  have hzw5 := hEw5.size; have hlw5 := hBw5.lt
  refine wpF_step (op_store 33 w4.heap.size 0 33 (vA (digC Dig.zero)) (digC Dig.zero) (digC Dig.zero) hBw5 (by rw [digC_len]; kernel_rfl) (by first | (simp; done) | (simp; omega)) (digC_one _) ?_)
  intro w6 hBw6 hCw6
  have hzw6 := hCw6.size
  rw [setFrom_all _ _ (by simp)] at hBw6
  refine wpF_run 1 [(11, (vI 1))] (wpF_end (then_code (wpC_seq (wpC_seq (wpC_drawM (Ext w6.drew) 37 [(31, 8, 0), (32, 1073741824, 1), (33, 128, 0), (34, 6442450944, 6), (35, 8589934592, 10), (36, 17179869696, 16), (37, 17179869312, 16), (38, 120259084288, 112), (39, 154618822656, 144), (40, 274877906944, 272), (41, 549755815936, 512), (42, 549755814016, 512), (43, 3848290697216, 3584), (44, 4947802324992, 4608), (45, 8796093022208, 8704), (46, 17592186044418, 16384), (47, 17592186044424, 16384), (48, 123145302310912, 114688), (49, 17592186044418, 16384), (50, 17592186044424, 16384), (51, 862017116176384, 933888), (52, 1284229581242368, 1196032), (53, 2269391999729664, 2113536), (54, 4503599627370496, 5242880), (55, 9007199254741120, 8388608), (56, 27021597764222976, 25165824), (57, 45035996273704960, 41943040), (58, 72057594037928192, 67108864), (59, 216172782113783808, 201326592), (60, 360287970189639680, 335544320), (61, 648518346341351424, 603979776), (62, 1152921504606848000, 1073741824), (63, 1152921504606846976, 1073741824), (64, 8070450532247928832, 7516192768), (65, 10448351135499550720, 9730785280), (66, 18527808867002220544, 17255366656), (67, 36902495346673844224, 34368126976)] (fun hT664 => ?_))))))
  have hEw7 : Ext w6 w6.drew := Ext.drew w6
  generalize w6.drew = w7 at hEw7 ⊢
  have hzw7 := hEw7.size
  have hK1 := (((((((((((hBw1.ext hEw2)).ext hEw3)).ext hEw4)).ext hEw5)).chg hCw6 (fun hs => by have h : _ = _ := hs; omega))).ext hEw7)
  refine anyM_take hT664 0 1 (some 30) (vA (nodC x)) (yld_val (Instr.loadAt 41 (vP w.heap.size 0)) (fun w' hC => rn_lda (vs := nodC x) ((hK1.ext hC).all) (by rw [nodC_len]; kernel_rfl))) (anyM_run hT664 [(2, 32, (vI 1))] 1 5 (anyM_one 1 7 (op_call (some 31) (c_NCheck x _) ?_)))
  rintro _ w8 ⟨rfl, hEw8⟩
  have hzw8 := hEw8.size
  rw [show chkN x = 1 from hp0]
  refine ⟨.inr hEw8, ?_⟩
  refine anyM_run (hw := show Ext w7 w8 from hEw8) hT664 [(3, 33, vF), (4, 34, vF), (5, 35, (vI 1)), (6, 36, (vI 1)), (7, 37, vF), (8, 38, vF), (9, 39, vF), (10, 40, (vI 1)), (11, 41, (vI 1)), (12, 42, vF), (13, 43, vF), (14, 44, vF), (15, 45, (vI n))] 13 65535 (anyM_take (hw := show Ext w7 w8 from hEw8) hT664 16 131071 (some 46) (vA (nodC x)) (yld_val (Instr.loadAt 41 (vP w.heap.size 0)) (fun w' hC => rn_lda (vs := nodC x) ((hK1.ext hC).all) (by rw [nodC_len]; kernel_rfl))) (anyM_run (hw := show Ext w7 w8 from hEw8) hT664 [(18, 48, (vI n))] 1 393215 (anyM_take (hw := show Ext w7 w8 from hEw8) hT664 19 917503 (some 49) (vA (nodC x)) (yld_val (Instr.loadAt 41 (vP w.heap.size 0)) (fun w' hC => rn_lda (vs := nodC x) ((hK1.ext hC).all) (by rw [nodC_len]; kernel_rfl))) (anyM_one 17 1048575 (op_call (some 47) (c_NFits n x _ (by omega) (by omega)) ?_)))))
  rintro _ w9 ⟨rfl, hEw9⟩
  have hzw9 := hEw9.size
  refine ⟨.inr (hEw8.trans hEw9), ?_⟩
  refine anyM_one 20 2097151 (op_call (some 50) (c_rNFits n x _ (by omega) (by omega)) ?_)
  rintro _ w10 ⟨rfl, hEw10⟩
  have hzw10 := hEw10.size
  refine ⟨.inr ((hEw8.trans hEw9).trans hEw10), ?_⟩
  refine anyM_take (hw := show Ext w7 w10 from ((hEw8.trans hEw9).trans hEw10)) hT664 21 4194303 (some 51) vF (yld_b (((fitV n x : Nat) : Int) != ((fitV n x : Nat) : Int)) (cmpNeF (by omega))) (anyM_run (hw := show Ext w7 w10 from ((hEw8.trans hEw9).trans hEw10)) hT664 [(22, 52, vF), (23, 53, vF), (24, 54, (vI 1)), (25, 55, vT), (26, 56, vT), (27, 57, (.slice none 0 0)), (28, 58, (vI 0)), (29, 59, vF), (30, 60, vF)] 9 2147483647 (anyM_take (hw := show Ext w7 w10 from ((hEw8.trans hEw9).trans hEw10)) hT664 31 4294967295 (some 61) (vA (digC Dig.zero)) (yld_val (Instr.loadAt 33 (vP w4.heap.size 0)) (fun w' hC => rn_lda (vs := digC Dig.zero) (((hBw6.ext hEw7).ext hC).all) (by rw [digC_len]; kernel_rfl))) (anyM_run (hw := show Ext w7 w10 from ((hEw8.trans hEw9).trans hEw10)) hT664 [(32, 62, (vA (digC Dig.zero)))] 1 8589934591 (anyM_take (hw := show Ext w7 w10 from ((hEw8.trans hEw9).trans hEw10)) hT664 33 17179869183 (some 63) vF (yld_val (bo .neq 33 (.tmp 61) (.tmp 62) (vA (digC Dig.zero)) (vA (digC Dig.zero))) (fun w' hC => run_neqAgg (r := true) (T := 33) ((run_eq_dig (dd := 9998) (t := 33) (e := 5) Dig.zero Dig.zero).trans (congrArg (fun b => Result.ok b _) (show (Dig.zero.l == Dig.zero.l) = true from by rfl))))) (anyM_run (hw := show Ext w7 w10 from ((hEw8.trans hEw9).trans hEw10)) hT664 [(34, 64, vF), (35, 65, vF), (36, 66, vF)] 3 137438953471 (anyM_done (then_code (wpC_false (wpC_skip ?_)))))))))
  refine then_code (wpC_seq (wpC_region (wpF_run 1 [(12, (vI 0))] (wpF_end (then_code (wpC_seq (wpC_seq (wpC_region (wpF_run 1 [(13, (vI 0))] ?_)))))))))
  refine wpF_end (then_code (wpC_block ?_))
  have hK2 := (((((hK1.ext hEw8)).ext hEw9)).ext hEw10)
  have hX1 : Ext w w10 := (((((Ext.own ((((hEw1.trans hEw2).trans hEw3).trans hEw4).trans hEw5) hCw6 (by omega)).trans hEw7).trans hEw8).trans hEw9).trans hEw10)
  refine wpC_loop (X := Nat) (fun i => [(12, (vI (usd x i))), (13, (vI i))]) [67, 68, 69, 70, 71, 72, 73, 74, 75, 76, 77, 78, 79, 80, 81, 82, 83, 84, 85, 86, 87, 88, 89, 90, 91, 92, 93, 94, 95, 96] (fun i w11 => i ≤ 4 ∧ Blk w11 w.heap.size (nodC x) 41 ∧ Ext w w11) (fun i => 4 - i) 0 (by kernel_rfl) ⟨by omega, hK2, hX1⟩ ?_
  rintro i dw11 w11 ⟨hi, hBx, hEl⟩
  have hzl := hEl.size
  have hlx := hBx.lt
  have hul := usd_le x i
  refine wpC_seq (wpC_seq (wpC_region (wpF_run 1 [(67, (vI i))] (wpF_step (op_split (some 68) (decide (((i : Nat) : Int) < ((4 : Nat) : Int))) (fun hc68 => ?_) (fun hc68 => ?_))))))
  · replace hc68 : i < 4 := by have := of_d_t hc68; omega
    refine wpF_end (then_code (wpC_true (wpC_skip (then_code (wpC_seq (wpC_block (wpC_seq (wpC_region (wpF_run 1 [(71, (vP w.heap.size 0))] ?_)))))))))
    refine wpF_step (op_v (some 72) (Instr.loadAt 5 (vP w.heap.size 0)) (vB x.lv) (rn_ld (hBx.cell rfl)) ?_)
    refine wpF_step (op_split (some 73) ((((x.lv : Nat) : Int) == ((0 : Nat) : Int))) (fun hc73 => ?_) (fun hc73 => ?_))
    · replace hc73 : x.lv = 0 := by have := of_eq_t hc73; omega
      refine wpF_run 3 [(76, (vP w.heap.size 2)), (75, (vI i)), (74, vT)] (wpF_step (op_v (some 77) (Instr.indexAt 36 (vP w.heap.size 2) (vI i)) (vP w.heap.size (2 + i * 35)) (rn_ixa (E := 35) (sz := 35) (m := 4) (by omega)) ?_))
      refine wpF_run 1 [(78, (vP w.heap.size (2 + i * 35)))] (wpF_step (op_v (some 79) (Instr.loadAt 5 (vP w.heap.size (2 + i * 35))) (vB ((x.rs.get i).st)) (rn_ld (hBx.cell (nod_rst (by omega)))) ?_))
      refine wpF_step (op_split (some 80) (decide ((((x.rs.get i).st : Nat) : Int) > ((0 : Nat) : Int))) (fun hc80 => ?_) (fun hc80 => ?_))
      · replace hc80 : (x.rs.get i).st > 0 := by have := of_d_t hc80; omega
        refine wpF_run 14 [(94, vT), (93, undef), (92, undef), (91, undef), (90, undef), (89, undef), (88, undef), (87, undef), (86, undef), (85, undef), (84, undef), (83, undef), (82, vT), (81, vT)] (wpF_end (then_code (wpC_true (wpC_region (wpF_run 1 [(95, (vI (usd x i)))] (wpF_step (op_in (some 96) .i64 (IntKind.i64.wrap (((usd x i : Nat) : Int) + ((1 : Nat) : Int))) (usd x i + 1) (wrapS (by omega) (by omega) (by omega)) ?_)))))))
        refine wpF_run 1 [(12, (vI (usd x i + 1)))] (wpF_end (inBlock_normal (then_code (wpC_region (wpF_run 1 [(69, (vI i))] (wpF_step (op_in (some 70) .i64 (IntKind.i64.wrap (((i : Nat) : Int) + ((1 : Nat) : Int))) (i + 1) (wrapS (by omega) (by omega) (by omega)) ?_)))))))
        refine wpF_run 1 [(13, (vI (i + 1)))] (wpF_end (then_normal ?_))
        rw [show usd x i + 1 = usd x (i + 1) from by rw [usd]; (repeat' split) <;> omega]
        refine endR_mk (i + 1) ?_ ?_
        · exact ⟨by omega, hBx, hEl⟩
        · first | omega | (dsimp only; omega)
      · replace hc80 : ¬ ((x.rs.get i).st > 0) := by have := of_d_f hc80; omega
        refine wpF_run 3 [(83, (vP w.heap.size 0)), (82, vF), (81, vF)] (wpF_step (op_v (some 84) (Instr.loadAt 5 (vP w.heap.size 0)) (vB x.lv) (rn_ld (hBx.cell rfl)) ?_))
        refine wpF_step (op_b (some 85) (decide (((x.lv : Nat) : Int) > ((0 : Nat) : Int))) false (cmpDF (by omega)) ?_)
        refine wpF_run 9 [(94, vF), (93, vF), (92, undef), (91, undef), (90, undef), (89, undef), (88, undef), (87, undef), (86, vF)] (wpF_end (then_code (wpC_false (wpC_skip (inBlock_normal (then_code (wpC_region (wpF_run 1 [(69, (vI i))] (wpF_step (op_in (some 70) .i64 (IntKind.i64.wrap (((i : Nat) : Int) + ((1 : Nat) : Int))) (i + 1) (wrapS (by omega) (by omega) (by omega)) ?_))))))))))
        refine wpF_run 1 [(13, (vI (i + 1)))] (wpF_end (then_normal ?_))
        rw [show usd x i = usd x (i + 1) from by rw [usd]; (repeat' split) <;> omega]
        refine endR_mk (i + 1) ?_ ?_
        · exact ⟨by omega, hBx, hEl⟩
        · first | omega | (dsimp only; omega)
    · replace hc73 : ¬ (x.lv = 0) := by have := of_eq_f hc73; omega
      refine wpF_run 10 [(83, (vP w.heap.size 0)), (82, vF), (81, vF), (80, undef), (79, undef), (78, undef), (77, undef), (76, undef), (75, undef), (74, vF)] (wpF_step (op_v (some 84) (Instr.loadAt 5 (vP w.heap.size 0)) (vB x.lv) (rn_ld (hBx.cell rfl)) ?_))
      refine wpF_step (op_b (some 85) (decide (((x.lv : Nat) : Int) > ((0 : Nat) : Int))) true (cmpDT (by omega)) ?_)
      refine wpF_run 3 [(88, (vP w.heap.size 142)), (87, (vI i)), (86, vT)] (wpF_step (op_v (some 89) (Instr.indexAt 39 (vP w.heap.size 142) (vI i)) (vP w.heap.size (142 + i * 33)) (rn_ixa (E := 38) (sz := 33) (m := 4) (by omega)) ?_))
      refine wpF_run 1 [(90, (vP w.heap.size (142 + i * 33)))] (wpF_step (op_v (some 91) (Instr.loadAt 5 (vP w.heap.size (142 + i * 33))) (vB ((x.es.get i).st)) (rn_ld (hBx.cell (nod_est (by omega)))) ?_))
      refine wpF_step (op_split (some 92) (decide ((((x.es.get i).st : Nat) : Int) > ((0 : Nat) : Int))) (fun hc92 => ?_) (fun hc92 => ?_))
      · replace hc92 : (x.es.get i).st > 0 := by have := of_d_t hc92; omega
        refine wpF_run 2 [(94, vT), (93, vT)] (wpF_end (then_code (wpC_true (wpC_region (wpF_run 1 [(95, (vI (usd x i)))] (wpF_step (op_in (some 96) .i64 (IntKind.i64.wrap (((usd x i : Nat) : Int) + ((1 : Nat) : Int))) (usd x i + 1) (wrapS (by omega) (by omega) (by omega)) ?_)))))))
        refine wpF_run 1 [(12, (vI (usd x i + 1)))] (wpF_end (inBlock_normal (then_code (wpC_region (wpF_run 1 [(69, (vI i))] (wpF_step (op_in (some 70) .i64 (IntKind.i64.wrap (((i : Nat) : Int) + ((1 : Nat) : Int))) (i + 1) (wrapS (by omega) (by omega) (by omega)) ?_)))))))
        refine wpF_run 1 [(13, (vI (i + 1)))] (wpF_end (then_normal ?_))
        rw [show usd x i + 1 = usd x (i + 1) from by rw [usd]; (repeat' split) <;> omega]
        refine endR_mk (i + 1) ?_ ?_
        · exact ⟨by omega, hBx, hEl⟩
        · first | omega | (dsimp only; omega)
      · replace hc92 : ¬ ((x.es.get i).st > 0) := by have := of_d_f hc92; omega
        refine wpF_run 2 [(94, vF), (93, vF)] (wpF_end (then_code (wpC_false (wpC_skip (inBlock_normal (then_code (wpC_region (wpF_run 1 [(69, (vI i))] (wpF_step (op_in (some 70) .i64 (IntKind.i64.wrap (((i : Nat) : Int) + ((1 : Nat) : Int))) (i + 1) (wrapS (by omega) (by omega) (by omega)) ?_))))))))))
        refine wpF_run 1 [(13, (vI (i + 1)))] (wpF_end (then_normal ?_))
        rw [show usd x i = usd x (i + 1) from by rw [usd]; (repeat' split) <;> omega]
        refine endR_mk (i + 1) ?_ ?_
        · exact ⟨by omega, hBx, hEl⟩
        · first | omega | (dsimp only; omega)
  · replace hc68 : ¬ (i < 4) := by have := of_d_f hc68; omega
    obtain rfl : i = 4 := by omega
    refine wpF_end (then_code (wpC_false (wpC_exit (then_exit (then_exit (inBlock_exit (then_code (wpC_seq (wpC_seq ?_)))))))))
    refine wpC_drawM (Ext w11.drew) 17 [(98, 8, 0), (99, 158456325028528675187087900672, 1), (100, 4096, 0), (101, 950737950171172051122527404032, 6), (102, 1267650600228229401496703205376, 10), (103, 2535301200456458802993406410760, 16), (104, 7605903601369376408980219232256, 48), (105, 2535301200456458802993406410760, 16), (106, 22817710804108129226940657696768, 144), (107, 53241325209585634862861534625792, 336), (108, 2535301200456458802993406410760, 16), (109, 164794578029669822194571416698880, 1040), (110, 2535301200456458802993406410760, 16), (111, 651572408517309912369305447563264, 4112), (112, 1625128069492590092718773509292032, 10256), (113, 2679813368882476954764030576164864, 16912), (114, 5194832159735284087333489735630848, 32784)] (fun hT846 => ?_)
    have hEw12 : Ext w11 w11.drew := Ext.drew w11
    generalize w11.drew = w12 at hEw12 ⊢
    have hzw12 := hEw12.size
    refine anyM_take hT846 0 1 (some 97) (vA (nodC x)) (yld_val (Instr.loadAt 41 (vP w.heap.size 0)) (fun w' hC => rn_lda (vs := nodC x) (((hBx.ext hEw12).ext hC).all) (by rw [nodC_len]; kernel_rfl))) (anyM_run hT846 [(2, 99, (vI (usd x 4)))] 1 5 (anyM_one 1 7 (op_call (some 98) (c_Used x _) ?_)))
    rintro _ w13 ⟨rfl, hEw13⟩
    have hzw13 := hEw13.size
    refine ⟨.inr hEw13, ?_⟩
    refine anyM_take (hw := show Ext w12 w13 from hEw13) hT846 3 15 (some 100) vF (yld_b (((usd x 4 : Nat) : Int) != ((usd x 4 : Nat) : Int)) (cmpNeF (by omega))) (anyM_run (hw := show Ext w12 w13 from hEw13) hT846 [(4, 101, vF), (5, 102, (vP w.heap.size 0))] 2 63 (anyM_take (hw := show Ext w12 w13 from hEw13) hT846 6 127 (some 103) (vB x.lv) (yld_val (Instr.loadAt 5 (vP w.heap.size 0)) (fun w' hC => rn_ld (((hBx.ext hEw12).ext hC).cell rfl))) (anyM_run (hw := show Ext w12 w13 from hEw13) hT846 [(7, 104, (vP w.heap.size 1))] 1 255 (anyM_take (hw := show Ext w12 w13 from hEw13) hT846 8 511 (some 105) (vW x.ix) (yld_val (Instr.loadAt 28 (vP w.heap.size 1)) (fun w' hC => rn_ld (((hBx.ext hEw12).ext hC).cell rfl))) (anyM_run (hw := show Ext w12 w13 from hEw13) hT846 [(10, 107, (vP w.heap.size 0))] 1 1535 (anyM_take (hw := show Ext w12 w13 from hEw13) hT846 11 3583 (some 108) (vB x.lv) (yld_val (Instr.loadAt 5 (vP w.heap.size 0)) (fun w' hC => rn_ld (((hBx.ext hEw12).ext hC).cell rfl))) (anyM_run (hw := show Ext w12 w13 from hEw13) hT846 [(12, 109, (vP w.heap.size 1))] 1 7679 (anyM_take (hw := show Ext w12 w13 from hEw13) hT846 13 15871 (some 110) (vW x.ix) (yld_val (Instr.loadAt 28 (vP w.heap.size 1)) (fun w' hC => rn_ld (((hBx.ext hEw12).ext hC).cell rfl))) ?_))))))))
    refine anyM_take (hw := show Ext w12 w13 from hEw13) hT846 14 32255 (some 111) (vA (nodC (Nod.mt x.lv x.ix))) (yld_val (Instr.build 41 #[(0, (vB x.lv)), (1, (vW x.ix))]) (fun w' hC => (run_build_nod x.lv x.ix (by omega) (by omega)).trans (congrArg (fun z : Nod => Result.ok (Value.agg (nodC z).toArray) _) (show (Nod.emp x.lv x.ix (by omega) (by omega) : Nod) = Nod.mt x.lv x.ix from Nod.mt_eq _ _)))) (anyM_one 9 32767 (op_call (some 106) (c_Empty x.lv x.ix _ (by omega) (by omega)) ?_))
    rintro _ w14 ⟨rfl, hEw14⟩
    have hzw14 := hEw14.size
    refine ⟨.inr (hEw13.trans hEw14), ?_⟩
    refine anyM_take (hw := show Ext w12 w14 from (hEw13.trans hEw14)) hT846 15 65535 (some 112) vF (yld_val (bo .neq 41 (.tmp 106) (.tmp 111) (vA (nodC (Nod.mt x.lv x.ix))) (vA (nodC (Nod.mt x.lv x.ix)))) (fun w' hC => run_neqAgg (r := true) (T := 41) ((run_eq_nod (dd := 9995) (N := 41) (R := 36) (E := 39) (r := 35) (en := 38) (t8 := 5) (td := 33) (e := 5) (tn := 31) (t32 := 28) (t64 := 29) (Nod.mt x.lv x.ix) (Nod.mt x.lv x.ix)).trans (congrArg (fun b => Result.ok b _) (show ((Nod.mt x.lv x.ix).eqb (Nod.mt x.lv x.ix)) = true from (Nod.eqb_iff _ _).2 rfl))))) (anyM_run (hw := show Ext w12 w14 from (hEw13.trans hEw14)) hT846 [(16, 113, vF)] 1 131071 (anyM_done (then_code (wpC_false (wpC_skip (then_code (wpC_seq (wpC_seq (wpC_region ?_)))))))))
    refine wpF_run 1 [(114, (.int .i64 p))] (wpF_step (op_split (some 115) (decide (p < ((0 : Nat) : Int))) (fun hc115 => ?_) (fun hc115 => ?_)))
    · replace hc115 : p < ((0 : Nat) : Int) := by have := of_d_t hc115; omega
      refine wpF_run 4 [(119, vT), (118, undef), (117, undef), (116, vT)] (wpF_end (then_code (wpC_true (wpC_region (wpF_run 1 [(7, (vI 1))] (wpF_end (then_code (wpC_seq (wpC_region ?_)))))))))
      refine wpF_run 4 [(15, (vI 1)), (14, (vI 1)), (121, (vI 1)), (120, (vI 1))] (wpF_end (then_code (wpC_seq (wpC_seq (wpC_region (wpF_run 7 [(128, vF), (127, undef), (126, undef), (125, undef), (124, vF), (123, vF), (122, (vI 1))] (wpF_end (then_code (wpC_false ?_)))))))))
      refine wpC_skip (then_code (wpC_seq (wpC_seq (wpC_region (wpF_run 7 [(135, vF), (134, undef), (133, undef), (132, undef), (131, vF), (130, vF), (129, (vI 1))] (wpF_end (then_code (wpC_false (wpC_skip ?_)))))))))
      refine then_code (wpC_seq (wpC_region ?_))
      have hK3 := (((((hBx.ext hEw12)).ext hEw13)).ext hEw14)
      refine wpF_step (op_v (some 137) (Instr.loadAt 41 (vP w.heap.size 0)) (vA (nodC x)) (rn_lda (vs := nodC x) (hK3.all) (by rw [nodC_len]; kernel_rfl)) ?_)
      refine wpF_run 2 [(139, (vA (recC Rec.zero))), (138, (.int .i64 p))] (wpF_step (op_call (some 140) (c_WithRecordBad x p Rec.zero _ (by intro h; have hw := withE_ok h.1; omega)) ?_))
      rintro _ w15 ⟨rfl, hEw15⟩
      have hzw15 := hEw15.size
      refine wpF_run 3 [(142, (vI 1)), (141, (vA (nodC Nod.zero))), (136, (.tuple #[(vA (nodC Nod.zero)), (vI 1)]))] (wpF_step (op_new (some 16) (Instr.alloc 41 true (.tuple #[])) (vP w15.heap.size 0) (nodC Nod.zero) 41 ?_))
      intro w16 hBw16 hEw16
      have hzw16 := hEw16.size; have hlw16 := hBw16.lt
      refine wpF_step (op_store 41 w15.heap.size 0 41 (vA (nodC Nod.zero)) (nodC Nod.zero) (nodC Nod.zero) hBw16 (by rw [nodC_len]; kernel_rfl) (by first | (simp; done) | (simp; omega)) (nodC_one _) ?_)
      intro w17 hBw17 hCw17
      have hzw17 := hCw17.size
      rw [setFrom_all _ _ (by simp)] at hBw17
      refine wpF_run 1 [(9, (vI 1))] (wpF_end (then_code (wpC_seq (wpC_region ?_))))
      have hK4 := (((((hK3.ext hEw15)).ext hEw16)).chg hCw17 (fun hs => by have h : _ = _ := hs; omega))
      refine wpF_step (op_v (some 144) (Instr.loadAt 41 (vP w.heap.size 0)) (vA (nodC x)) (rn_lda (vs := nodC x) (hK4.all) (by rw [nodC_len]; kernel_rfl)) ?_)
      refine wpF_run 2 [(146, (vA (entC Ent.zero))), (145, (.int .i64 p))] (wpF_step (op_call (some 147) (c_WithEntryBad x p Ent.zero _ (by intro h; have hw := withE_ok h.1; omega)) ?_))
      rintro _ w18 ⟨rfl, hEw18⟩
      have hzw18 := hEw18.size
      refine wpF_run 3 [(149, (vI 1)), (148, (vA (nodC Nod.zero))), (143, (.tuple #[(vA (nodC Nod.zero)), (vI 1)]))] (wpF_step (op_new (some 17) (Instr.alloc 41 true (.tuple #[])) (vP w18.heap.size 0) (nodC Nod.zero) 41 ?_))
      intro w19 hBw19 hEw19
      have hzw19 := hEw19.size; have hlw19 := hBw19.lt
      refine wpF_step (op_store 41 w18.heap.size 0 41 (vA (nodC Nod.zero)) (nodC Nod.zero) (nodC Nod.zero) hBw19 (by rw [nodC_len]; kernel_rfl) (by first | (simp; done) | (simp; omega)) (nodC_one _) ?_)
      intro w20 hBw20 hCw20
      have hzw20 := hCw20.size
      rw [setFrom_all _ _ (by simp)] at hBw20
      refine wpF_run 1 [(11, (vI 1))] (wpF_end (then_code (wpC_seq (wpC_region (wpF_run 12 [(161, vF), (160, vF), (159, (vI 1)), (158, vT), (157, vT), (156, vT), (155, (vI 1)), (154, (vI 1)), (153, vT), (152, vT), (151, (vI 1)), (150, (vI 1))] ?_)))))
      have hK5 := (((((hBw17.ext hEw18)).ext hEw19)).chg hCw20 (fun hs => by have h : _ = _ := hs; omega))
      refine wpF_step (op_v (some 162) (Instr.loadAt 41 (vP w15.heap.size 0)) (vA (nodC Nod.zero)) (rn_lda (vs := nodC Nod.zero) (hK5.all) (by rw [nodC_len]; kernel_rfl)) ?_)
      refine wpF_run 1 [(163, (vA (nodC Nod.zero)))] (wpF_step (op_v (some 164) (bo .eql 41 (.tmp 162) (.tmp 163) (vA (nodC Nod.zero)) (vA (nodC Nod.zero))) vT (run_eqlAgg (r := true) (T := 41) ((run_eq_nod (dd := 9995) (N := 41) (R := 36) (E := 39) (r := 35) (en := 38) (t8 := 5) (td := 33) (e := 5) (tn := 31) (t32 := 28) (t64 := 29) Nod.zero Nod.zero).trans (congrArg (fun b => Result.ok b _) (show (Nod.zero.eqb Nod.zero) = true from (Nod.eqb_iff _ _).2 rfl)))) ?_))
      refine wpF_run 6 [(170, vF), (169, vF), (168, (vI 1)), (167, vT), (166, vT), (165, vT)] (wpF_step (op_v (some 171) (Instr.loadAt 41 (vP w18.heap.size 0)) (vA (nodC Nod.zero)) (rn_lda (vs := nodC Nod.zero) (hBw20.all) (by rw [nodC_len]; kernel_rfl)) ?_))
      refine wpF_run 1 [(172, (vA (nodC Nod.zero)))] (wpF_step (op_v (some 173) (bo .eql 41 (.tmp 171) (.tmp 172) (vA (nodC Nod.zero)) (vA (nodC Nod.zero))) vT (run_eqlAgg (r := true) (T := 41) ((run_eq_nod (dd := 9995) (N := 41) (R := 36) (E := 39) (r := 35) (en := 38) (t8 := 5) (td := 33) (e := 5) (tn := 31) (t32 := 28) (t64 := 29) Nod.zero Nod.zero).trans (congrArg (fun b => Result.ok b _) (show (Nod.zero.eqb Nod.zero) = true from (Nod.eqb_iff _ _).2 rfl)))) ?_))
      refine wpF_run 3 [(176, vT), (175, vT), (174, vT)] ?_
      have hK6 := (((((((((((((((((((hg0.ext hEl)).ext hEw12)).ext hEw13)).ext hEw14)).ext hEw15)).ext hEw16)).chg hCw17 (fun hs => by have h : _ = _ := hs; omega))).ext hEw18)).ext hEw19)).chg hCw20 (fun hs => by have h : _ = _ := hs; omega))
      refine wpF_step (op_call (some 177) (c_lives13 _ hK6) ?_)
      rintro _ w21 ⟨rfl, hEw21⟩
      have hzw21 := hEw21.size
      refine wpF_run 2 [(6, vT), (178, vT)] (wpF_end (then_code (wpC_ret (body_rets vT ?_))))
      have hX2 : Ext w w21 := ((Ext.own (((Ext.own (((((hEl.trans hEw12).trans hEw13).trans hEw14).trans hEw15).trans hEw16) hCw17 (by omega)).trans hEw18).trans hEw19) hCw20 (by omega)).trans hEw21)
      exact ⟨rfl, hX2⟩
    · replace hc115 : ¬ (p < ((0 : Nat) : Int)) := by have := of_d_f hc115; omega
      refine wpF_run 2 [(117, (.int .i64 p)), (116, vF)] (wpF_step (op_split (some 118) (decide (p > ((3 : Nat) : Int))) (fun hc118 => ?_) (fun hc118 => ?_)))
      · replace hc118 : p > ((3 : Nat) : Int) := by have := of_d_t hc118; omega
        refine wpF_run 1 [(119, vT)] (wpF_end (then_code (wpC_true (wpC_region (wpF_run 1 [(7, (vI 1))] (wpF_end (then_code (wpC_seq (wpC_region ?_)))))))))
        refine wpF_run 4 [(15, (vI 1)), (14, (vI 1)), (121, (vI 1)), (120, (vI 1))] (wpF_end (then_code (wpC_seq (wpC_seq (wpC_region (wpF_run 7 [(128, vF), (127, undef), (126, undef), (125, undef), (124, vF), (123, vF), (122, (vI 1))] (wpF_end (then_code (wpC_false ?_)))))))))
        refine wpC_skip (then_code (wpC_seq (wpC_seq (wpC_region (wpF_run 7 [(135, vF), (134, undef), (133, undef), (132, undef), (131, vF), (130, vF), (129, (vI 1))] (wpF_end (then_code (wpC_false (wpC_skip ?_)))))))))
        refine then_code (wpC_seq (wpC_region ?_))
        have hK7 := (((((hBx.ext hEw12)).ext hEw13)).ext hEw14)
        refine wpF_step (op_v (some 137) (Instr.loadAt 41 (vP w.heap.size 0)) (vA (nodC x)) (rn_lda (vs := nodC x) (hK7.all) (by rw [nodC_len]; kernel_rfl)) ?_)
        refine wpF_run 2 [(139, (vA (recC Rec.zero))), (138, (.int .i64 p))] (wpF_step (op_call (some 140) (c_WithRecordBad x p Rec.zero _ (by intro h; have hw := withE_ok h.1; omega)) ?_))
        rintro _ w22 ⟨rfl, hEw22⟩
        have hzw22 := hEw22.size
        refine wpF_run 3 [(142, (vI 1)), (141, (vA (nodC Nod.zero))), (136, (.tuple #[(vA (nodC Nod.zero)), (vI 1)]))] (wpF_step (op_new (some 16) (Instr.alloc 41 true (.tuple #[])) (vP w22.heap.size 0) (nodC Nod.zero) 41 ?_))
        intro w23 hBw23 hEw23
        have hzw23 := hEw23.size; have hlw23 := hBw23.lt
        refine wpF_step (op_store 41 w22.heap.size 0 41 (vA (nodC Nod.zero)) (nodC Nod.zero) (nodC Nod.zero) hBw23 (by rw [nodC_len]; kernel_rfl) (by first | (simp; done) | (simp; omega)) (nodC_one _) ?_)
        intro w24 hBw24 hCw24
        have hzw24 := hCw24.size
        rw [setFrom_all _ _ (by simp)] at hBw24
        refine wpF_run 1 [(9, (vI 1))] (wpF_end (then_code (wpC_seq (wpC_region ?_))))
        have hK8 := (((((hK7.ext hEw22)).ext hEw23)).chg hCw24 (fun hs => by have h : _ = _ := hs; omega))
        refine wpF_step (op_v (some 144) (Instr.loadAt 41 (vP w.heap.size 0)) (vA (nodC x)) (rn_lda (vs := nodC x) (hK8.all) (by rw [nodC_len]; kernel_rfl)) ?_)
        refine wpF_run 2 [(146, (vA (entC Ent.zero))), (145, (.int .i64 p))] (wpF_step (op_call (some 147) (c_WithEntryBad x p Ent.zero _ (by intro h; have hw := withE_ok h.1; omega)) ?_))
        rintro _ w25 ⟨rfl, hEw25⟩
        have hzw25 := hEw25.size
        refine wpF_run 3 [(149, (vI 1)), (148, (vA (nodC Nod.zero))), (143, (.tuple #[(vA (nodC Nod.zero)), (vI 1)]))] (wpF_step (op_new (some 17) (Instr.alloc 41 true (.tuple #[])) (vP w25.heap.size 0) (nodC Nod.zero) 41 ?_))
        intro w26 hBw26 hEw26
        have hzw26 := hEw26.size; have hlw26 := hBw26.lt
        refine wpF_step (op_store 41 w25.heap.size 0 41 (vA (nodC Nod.zero)) (nodC Nod.zero) (nodC Nod.zero) hBw26 (by rw [nodC_len]; kernel_rfl) (by first | (simp; done) | (simp; omega)) (nodC_one _) ?_)
        intro w27 hBw27 hCw27
        have hzw27 := hCw27.size
        rw [setFrom_all _ _ (by simp)] at hBw27
        refine wpF_run 1 [(11, (vI 1))] (wpF_end (then_code (wpC_seq (wpC_region (wpF_run 12 [(161, vF), (160, vF), (159, (vI 1)), (158, vT), (157, vT), (156, vT), (155, (vI 1)), (154, (vI 1)), (153, vT), (152, vT), (151, (vI 1)), (150, (vI 1))] ?_)))))
        have hK9 := (((((hBw24.ext hEw25)).ext hEw26)).chg hCw27 (fun hs => by have h : _ = _ := hs; omega))
        refine wpF_step (op_v (some 162) (Instr.loadAt 41 (vP w22.heap.size 0)) (vA (nodC Nod.zero)) (rn_lda (vs := nodC Nod.zero) (hK9.all) (by rw [nodC_len]; kernel_rfl)) ?_)
        refine wpF_run 1 [(163, (vA (nodC Nod.zero)))] (wpF_step (op_v (some 164) (bo .eql 41 (.tmp 162) (.tmp 163) (vA (nodC Nod.zero)) (vA (nodC Nod.zero))) vT (run_eqlAgg (r := true) (T := 41) ((run_eq_nod (dd := 9995) (N := 41) (R := 36) (E := 39) (r := 35) (en := 38) (t8 := 5) (td := 33) (e := 5) (tn := 31) (t32 := 28) (t64 := 29) Nod.zero Nod.zero).trans (congrArg (fun b => Result.ok b _) (show (Nod.zero.eqb Nod.zero) = true from (Nod.eqb_iff _ _).2 rfl)))) ?_))
        refine wpF_run 6 [(170, vF), (169, vF), (168, (vI 1)), (167, vT), (166, vT), (165, vT)] (wpF_step (op_v (some 171) (Instr.loadAt 41 (vP w25.heap.size 0)) (vA (nodC Nod.zero)) (rn_lda (vs := nodC Nod.zero) (hBw27.all) (by rw [nodC_len]; kernel_rfl)) ?_))
        refine wpF_run 1 [(172, (vA (nodC Nod.zero)))] (wpF_step (op_v (some 173) (bo .eql 41 (.tmp 171) (.tmp 172) (vA (nodC Nod.zero)) (vA (nodC Nod.zero))) vT (run_eqlAgg (r := true) (T := 41) ((run_eq_nod (dd := 9995) (N := 41) (R := 36) (E := 39) (r := 35) (en := 38) (t8 := 5) (td := 33) (e := 5) (tn := 31) (t32 := 28) (t64 := 29) Nod.zero Nod.zero).trans (congrArg (fun b => Result.ok b _) (show (Nod.zero.eqb Nod.zero) = true from (Nod.eqb_iff _ _).2 rfl)))) ?_))
        refine wpF_run 3 [(176, vT), (175, vT), (174, vT)] ?_
        have hK10 := (((((((((((((((((((hg0.ext hEl)).ext hEw12)).ext hEw13)).ext hEw14)).ext hEw22)).ext hEw23)).chg hCw24 (fun hs => by have h : _ = _ := hs; omega))).ext hEw25)).ext hEw26)).chg hCw27 (fun hs => by have h : _ = _ := hs; omega))
        refine wpF_step (op_call (some 177) (c_lives13 _ hK10) ?_)
        rintro _ w28 ⟨rfl, hEw28⟩
        have hzw28 := hEw28.size
        refine wpF_run 2 [(6, vT), (178, vT)] (wpF_end (then_code (wpC_ret (body_rets vT ?_))))
        have hX3 : Ext w w28 := ((Ext.own (((Ext.own (((((hEl.trans hEw12).trans hEw13).trans hEw14).trans hEw22).trans hEw23) hCw24 (by omega)).trans hEw25).trans hEw26) hCw27 (by omega)).trans hEw28)
        exact ⟨rfl, hX3⟩
      · replace hc118 : ¬ (p > ((3 : Nat) : Int)) := by have := of_d_f hc118; omega
        obtain ⟨q, rfl⟩ := Int.eq_ofNat_of_zero_le (show 0 ≤ p by omega)
        refine wpF_run 1 [(119, vF)] (wpF_end (then_code (wpC_false (wpC_skip (then_code (wpC_seq (wpC_region (wpF_run 4 [(15, (vI 1)), (14, (vI 1)), (121, (vI 1)), (120, (vI 1))] (wpF_end ?_)))))))))
        refine then_code (wpC_seq (wpC_seq (wpC_region (wpF_run 7 [(128, vF), (127, undef), (126, undef), (125, undef), (124, vF), (123, vF), (122, (vI 1))] (wpF_end (then_code (wpC_false (wpC_skip (then_code ?_)))))))))
        refine wpC_seq (wpC_seq (wpC_region (wpF_run 7 [(135, vF), (134, undef), (133, undef), (132, undef), (131, vF), (130, vF), (129, (vI 1))] (wpF_end (then_code (wpC_false (wpC_skip (then_code (wpC_seq ?_)))))))))
        refine wpC_region ?_
        have hK11 := (((((hBx.ext hEw12)).ext hEw13)).ext hEw14)
        refine wpF_step (op_v (some 137) (Instr.loadAt 41 (vP w.heap.size 0)) (vA (nodC x)) (rn_lda (vs := nodC x) (hK11.all) (by rw [nodC_len]; kernel_rfl)) ?_)
        refine wpF_run 2 [(139, (vA (recC Rec.zero))), (138, (vI q))] (wpF_step (op_call (some 140) (c_WithRecordBad x ((q : Nat) : Int) Rec.zero _ (by intro h; have hw := withE_ok h.1; omega)) ?_))
        rintro _ w29 ⟨rfl, hEw29⟩
        have hzw29 := hEw29.size
        refine wpF_run 3 [(142, (vI 1)), (141, (vA (nodC Nod.zero))), (136, (.tuple #[(vA (nodC Nod.zero)), (vI 1)]))] (wpF_step (op_new (some 16) (Instr.alloc 41 true (.tuple #[])) (vP w29.heap.size 0) (nodC Nod.zero) 41 ?_))
        intro w30 hBw30 hEw30
        have hzw30 := hEw30.size; have hlw30 := hBw30.lt
        refine wpF_step (op_store 41 w29.heap.size 0 41 (vA (nodC Nod.zero)) (nodC Nod.zero) (nodC Nod.zero) hBw30 (by rw [nodC_len]; kernel_rfl) (by first | (simp; done) | (simp; omega)) (nodC_one _) ?_)
        intro w31 hBw31 hCw31
        have hzw31 := hCw31.size
        rw [setFrom_all _ _ (by simp)] at hBw31
        refine wpF_run 1 [(9, (vI 1))] (wpF_end (then_code (wpC_seq (wpC_region ?_))))
        have hK12 := (((((hK11.ext hEw29)).ext hEw30)).chg hCw31 (fun hs => by have h : _ = _ := hs; omega))
        refine wpF_step (op_v (some 144) (Instr.loadAt 41 (vP w.heap.size 0)) (vA (nodC x)) (rn_lda (vs := nodC x) (hK12.all) (by rw [nodC_len]; kernel_rfl)) ?_)
        refine wpF_run 2 [(146, (vA (entC Ent.zero))), (145, (vI q))] (wpF_step (op_call (some 147) (c_WithEntryBad x ((q : Nat) : Int) Ent.zero _ (by intro h; have hw := withE_ok h.1; omega)) ?_))
        rintro _ w32 ⟨rfl, hEw32⟩
        have hzw32 := hEw32.size
        refine wpF_run 3 [(149, (vI 1)), (148, (vA (nodC Nod.zero))), (143, (.tuple #[(vA (nodC Nod.zero)), (vI 1)]))] (wpF_step (op_new (some 17) (Instr.alloc 41 true (.tuple #[])) (vP w32.heap.size 0) (nodC Nod.zero) 41 ?_))
        intro w33 hBw33 hEw33
        have hzw33 := hEw33.size; have hlw33 := hBw33.lt
        refine wpF_step (op_store 41 w32.heap.size 0 41 (vA (nodC Nod.zero)) (nodC Nod.zero) (nodC Nod.zero) hBw33 (by rw [nodC_len]; kernel_rfl) (by first | (simp; done) | (simp; omega)) (nodC_one _) ?_)
        intro w34 hBw34 hCw34
        have hzw34 := hCw34.size
        rw [setFrom_all _ _ (by simp)] at hBw34
        refine wpF_run 1 [(11, (vI 1))] (wpF_end (then_code (wpC_seq (wpC_region (wpF_run 12 [(161, vF), (160, vF), (159, (vI 1)), (158, vT), (157, vT), (156, vT), (155, (vI 1)), (154, (vI 1)), (153, vT), (152, vT), (151, (vI 1)), (150, (vI 1))] ?_)))))
        have hK13 := (((((hBw31.ext hEw32)).ext hEw33)).chg hCw34 (fun hs => by have h : _ = _ := hs; omega))
        refine wpF_step (op_v (some 162) (Instr.loadAt 41 (vP w29.heap.size 0)) (vA (nodC Nod.zero)) (rn_lda (vs := nodC Nod.zero) (hK13.all) (by rw [nodC_len]; kernel_rfl)) ?_)
        refine wpF_run 1 [(163, (vA (nodC Nod.zero)))] (wpF_step (op_v (some 164) (bo .eql 41 (.tmp 162) (.tmp 163) (vA (nodC Nod.zero)) (vA (nodC Nod.zero))) vT (run_eqlAgg (r := true) (T := 41) ((run_eq_nod (dd := 9995) (N := 41) (R := 36) (E := 39) (r := 35) (en := 38) (t8 := 5) (td := 33) (e := 5) (tn := 31) (t32 := 28) (t64 := 29) Nod.zero Nod.zero).trans (congrArg (fun b => Result.ok b _) (show (Nod.zero.eqb Nod.zero) = true from (Nod.eqb_iff _ _).2 rfl)))) ?_))
        refine wpF_run 6 [(170, vF), (169, vF), (168, (vI 1)), (167, vT), (166, vT), (165, vT)] (wpF_step (op_v (some 171) (Instr.loadAt 41 (vP w32.heap.size 0)) (vA (nodC Nod.zero)) (rn_lda (vs := nodC Nod.zero) (hBw34.all) (by rw [nodC_len]; kernel_rfl)) ?_))
        refine wpF_run 1 [(172, (vA (nodC Nod.zero)))] (wpF_step (op_v (some 173) (bo .eql 41 (.tmp 171) (.tmp 172) (vA (nodC Nod.zero)) (vA (nodC Nod.zero))) vT (run_eqlAgg (r := true) (T := 41) ((run_eq_nod (dd := 9995) (N := 41) (R := 36) (E := 39) (r := 35) (en := 38) (t8 := 5) (td := 33) (e := 5) (tn := 31) (t32 := 28) (t64 := 29) Nod.zero Nod.zero).trans (congrArg (fun b => Result.ok b _) (show (Nod.zero.eqb Nod.zero) = true from (Nod.eqb_iff _ _).2 rfl)))) ?_))
        refine wpF_run 3 [(176, vT), (175, vT), (174, vT)] ?_
        have hK14 := (((((((((((((((((((hg0.ext hEl)).ext hEw12)).ext hEw13)).ext hEw14)).ext hEw29)).ext hEw30)).chg hCw31 (fun hs => by have h : _ = _ := hs; omega))).ext hEw32)).ext hEw33)).chg hCw34 (fun hs => by have h : _ = _ := hs; omega))
        refine wpF_step (op_call (some 177) (c_lives13 _ hK14) ?_)
        rintro _ w35 ⟨rfl, hEw35⟩
        have hzw35 := hEw35.size
        refine wpF_run 2 [(6, vT), (178, vT)] (wpF_end (then_code (wpC_ret (body_rets vT ?_))))
        have hX4 : Ext w w35 := ((Ext.own (((Ext.own (((((hEl.trans hEw12).trans hEw13).trans hEw14).trans hEw29).trans hEw30) hCw31 (by omega)).trans hEw32).trans hEw33) hCw34 (by omega)).trans hEw35)
        exact ⟨rfl, hX4⟩

theorem c_NE11 (x : Nod) (n : Int) (p : Int)  (w : World) (hp0 : chkN x = 1) (hp1 : ¬ (1 ≤ n ∧ n ≤ 4096)) (hg0 : Gl 0 [vI 45, vI 33] w) (hg1 : Gl 1 (w8C iniA) w) (hg2 : Gl 2 (w64C kA) w) :
    Calls Tryd.prog 8 #[(vA (nodC x)), (.int .i64 n), (.int .i64 p)] w (Ret fun r w' => r = vT ∧ Ext w w') := by
  refine calls_of (n := 179) (σ := [(0, (vA (nodC x))), (1, (.int .i64 n)), (2, (.int .i64 p))]) Tryd.func8 rfl ?_
  have hgl0 := hg0.lt
  have hgl1 := hg1.lt
  have hgl2 := hg2.lt
  have hlvx := x.hlv
  have hixx := x.hix
  refine wpC_seq (wpC_region (wpF_step (op_new (some 3) (Instr.box 41 (vA (nodC x))) (vP w.heap.size 0) (nodC x) 41 ?_)))
  intro w1 hBw1 hEw1
  have hzw1 := hEw1.size; have hlw1 := hBw1.lt
  refine wpF_run 1 [(6, vF)] (wpF_end (then_code (wpC_seq (wpC_region (wpF_step (op_v (some 18) (Instr.loadAt 41 (vP w.heap.size 0)) (vA (nodC x)) (rn_lda (vs := nodC x) (hBw1.all) (by rw [nodC_len]; kernel_rfl)) ?_))))))
  refine wpF_step (op_call (some 19) (c_rNCheck x _) ?_)
  rintro _ w2 ⟨rfl, hEw2⟩
  have hzw2 := hEw2.size
  rw [show chkN x = 1 from hp0]
  refine wpF_run 1 [(7, (vI 1))] (wpF_end (then_code (wpC_seq (wpC_region (wpF_step (op_v (some 21) (Instr.loadAt 41 (vP w.heap.size 0)) (vA (nodC x)) (rn_lda (vs := nodC x) ((hBw1.ext hEw2).all) (by rw [nodC_len]; kernel_rfl)) ?_))))))
  refine wpF_step (op_call (some 22) (c_NPutBad x _ (by assumption)) ?_)
  rintro _ w3 ⟨rfl, hEw3⟩
  have hzw3 := hEw3.size
  refine wpF_run 5 [(9, (vI 1)), (8, (.slice none 0 0)), (24, (vI 1)), (23, (.slice none 0 0)), (20, (.tuple #[(.slice none 0 0), (vI 1)]))] (wpF_end (then_code (wpC_seq (wpC_region (wpF_step (op_v (some 26) (Instr.loadAt 41 (vP w.heap.size 0)) (vA (nodC x)) (rn_lda (vs := nodC x) ((((hBw1.ext hEw2)).ext hEw3).all) (by rw [nodC_len]; kernel_rfl)) ?_))))))
  refine wpF_step (op_call (some 27) (c_NDigestBad x _ (by assumption)) ?_)
  rintro _ w4 ⟨rfl, hEw4⟩
  have hzw4 := hEw4.size
  refine wpF_run 3 [(29, (vI 1)), (28, (vA (digC Dig.zero))), (25, (.tuple #[(vA (digC Dig.zero)), (vI 1)]))] (wpF_step (op_new (some 10) (Instr.alloc 33 true (.tuple #[])) (vP w4.heap.size 0) (digC Dig.zero) 33 ?_))
  intro w5 hBw5 hEw5
  have hzw5 := hEw5.size; have hlw5 := hBw5.lt
  refine wpF_step (op_store 33 w4.heap.size 0 33 (vA (digC Dig.zero)) (digC Dig.zero) (digC Dig.zero) hBw5 (by rw [digC_len]; kernel_rfl) (by first | (simp; done) | (simp; omega)) (digC_one _) ?_)
  intro w6 hBw6 hCw6
  have hzw6 := hCw6.size
  rw [setFrom_all _ _ (by simp)] at hBw6
  refine wpF_run 1 [(11, (vI 1))] (wpF_end (then_code (wpC_seq (wpC_seq (wpC_drawM (Ext w6.drew) 37 [(31, 8, 0), (32, 1073741824, 1), (33, 128, 0), (34, 6442450944, 6), (35, 8589934592, 10), (36, 17179869696, 16), (37, 17179869312, 16), (38, 120259084288, 112), (39, 154618822656, 144), (40, 274877906944, 272), (41, 549755815936, 512), (42, 549755814016, 512), (43, 3848290697216, 3584), (44, 4947802324992, 4608), (45, 8796093022208, 8704), (46, 17592186044418, 16384), (47, 17592186044424, 16384), (48, 123145302310912, 114688), (49, 17592186044418, 16384), (50, 17592186044424, 16384), (51, 862017116176384, 933888), (52, 1284229581242368, 1196032), (53, 2269391999729664, 2113536), (54, 4503599627370496, 5242880), (55, 9007199254741120, 8388608), (56, 27021597764222976, 25165824), (57, 45035996273704960, 41943040), (58, 72057594037928192, 67108864), (59, 216172782113783808, 201326592), (60, 360287970189639680, 335544320), (61, 648518346341351424, 603979776), (62, 1152921504606848000, 1073741824), (63, 1152921504606846976, 1073741824), (64, 8070450532247928832, 7516192768), (65, 10448351135499550720, 9730785280), (66, 18527808867002220544, 17255366656), (67, 36902495346673844224, 34368126976)] (fun hT924 => ?_))))))
  have hEw7 : Ext w6 w6.drew := Ext.drew w6
  generalize w6.drew = w7 at hEw7 ⊢
  have hzw7 := hEw7.size
  have hK1 := (((((((((((hBw1.ext hEw2)).ext hEw3)).ext hEw4)).ext hEw5)).chg hCw6 (fun hs => by have h : _ = _ := hs; omega))).ext hEw7)
  refine anyM_take hT924 0 1 (some 30) (vA (nodC x)) (yld_val (Instr.loadAt 41 (vP w.heap.size 0)) (fun w' hC => rn_lda (vs := nodC x) ((hK1.ext hC).all) (by rw [nodC_len]; kernel_rfl))) (anyM_run hT924 [(2, 32, (vI 1))] 1 5 (anyM_one 1 7 (op_call (some 31) (c_NCheck x _) ?_)))
  rintro _ w8 ⟨rfl, hEw8⟩
  have hzw8 := hEw8.size
  rw [show chkN x = 1 from hp0]
  refine ⟨.inr hEw8, ?_⟩
  refine anyM_run (hw := show Ext w7 w8 from hEw8) hT924 [(3, 33, vF), (4, 34, vF), (5, 35, (vI 1)), (6, 36, (vI 1)), (7, 37, vF), (8, 38, vF), (9, 39, vF), (10, 40, (vI 1)), (11, 41, (vI 1)), (12, 42, vF), (13, 43, vF), (14, 44, vF), (15, 45, (.int .i64 n))] 13 65535 (anyM_take (hw := show Ext w7 w8 from hEw8) hT924 16 131071 (some 46) (vA (nodC x)) (yld_val (Instr.loadAt 41 (vP w.heap.size 0)) (fun w' hC => rn_lda (vs := nodC x) ((hK1.ext hC).all) (by rw [nodC_len]; kernel_rfl))) (anyM_run (hw := show Ext w7 w8 from hEw8) hT924 [(18, 48, (.int .i64 n))] 1 393215 (anyM_take (hw := show Ext w7 w8 from hEw8) hT924 19 917503 (some 49) (vA (nodC x)) (yld_val (Instr.loadAt 41 (vP w.heap.size 0)) (fun w' hC => rn_lda (vs := nodC x) ((hK1.ext hC).all) (by rw [nodC_len]; kernel_rfl))) (anyM_one 17 1048575 (op_call (some 47) (c_NFitsBad n x _ (by omega)) ?_)))))
  rintro _ w9 ⟨rfl, hEw9⟩
  have hzw9 := hEw9.size
  refine ⟨.inr (hEw8.trans hEw9), ?_⟩
  refine anyM_one 20 2097151 (op_call (some 50) (c_rNFitsBad n x _ (by omega)) ?_)
  rintro _ w10 ⟨rfl, hEw10⟩
  have hzw10 := hEw10.size
  refine ⟨.inr ((hEw8.trans hEw9).trans hEw10), ?_⟩
  refine anyM_take (hw := show Ext w7 w10 from ((hEw8.trans hEw9).trans hEw10)) hT924 21 4194303 (some 51) vF (yld_b (((1 : Nat) : Int) != ((1 : Nat) : Int)) (cmpNeF (by omega))) (anyM_run (hw := show Ext w7 w10 from ((hEw8.trans hEw9).trans hEw10)) hT924 [(22, 52, vF), (23, 53, vF), (24, 54, (vI 1)), (25, 55, vT), (26, 56, vT), (27, 57, (.slice none 0 0)), (28, 58, (vI 0)), (29, 59, vF), (30, 60, vF)] 9 2147483647 (anyM_take (hw := show Ext w7 w10 from ((hEw8.trans hEw9).trans hEw10)) hT924 31 4294967295 (some 61) (vA (digC Dig.zero)) (yld_val (Instr.loadAt 33 (vP w4.heap.size 0)) (fun w' hC => rn_lda (vs := digC Dig.zero) (((hBw6.ext hEw7).ext hC).all) (by rw [digC_len]; kernel_rfl))) (anyM_run (hw := show Ext w7 w10 from ((hEw8.trans hEw9).trans hEw10)) hT924 [(32, 62, (vA (digC Dig.zero)))] 1 8589934591 (anyM_take (hw := show Ext w7 w10 from ((hEw8.trans hEw9).trans hEw10)) hT924 33 17179869183 (some 63) vF (yld_val (bo .neq 33 (.tmp 61) (.tmp 62) (vA (digC Dig.zero)) (vA (digC Dig.zero))) (fun w' hC => run_neqAgg (r := true) (T := 33) ((run_eq_dig (dd := 9998) (t := 33) (e := 5) Dig.zero Dig.zero).trans (congrArg (fun b => Result.ok b _) (show (Dig.zero.l == Dig.zero.l) = true from by rfl))))) (anyM_run (hw := show Ext w7 w10 from ((hEw8.trans hEw9).trans hEw10)) hT924 [(34, 64, vF), (35, 65, vF), (36, 66, vF)] 3 137438953471 (anyM_done (then_code (wpC_false (wpC_skip ?_)))))))))
  refine then_code (wpC_seq (wpC_region (wpF_run 1 [(12, (vI 0))] (wpF_end (then_code (wpC_seq (wpC_seq (wpC_region (wpF_run 1 [(13, (vI 0))] ?_)))))))))
  refine wpF_end (then_code (wpC_block ?_))
  have hK2 := (((((hK1.ext hEw8)).ext hEw9)).ext hEw10)
  have hX1 : Ext w w10 := (((((Ext.own ((((hEw1.trans hEw2).trans hEw3).trans hEw4).trans hEw5) hCw6 (by omega)).trans hEw7).trans hEw8).trans hEw9).trans hEw10)
  refine wpC_loop (X := Nat) (fun i => [(12, (vI (usd x i))), (13, (vI i))]) [67, 68, 69, 70, 71, 72, 73, 74, 75, 76, 77, 78, 79, 80, 81, 82, 83, 84, 85, 86, 87, 88, 89, 90, 91, 92, 93, 94, 95, 96] (fun i w11 => i ≤ 4 ∧ Blk w11 w.heap.size (nodC x) 41 ∧ Ext w w11) (fun i => 4 - i) 0 (by kernel_rfl) ⟨by omega, hK2, hX1⟩ ?_
  rintro i dw11 w11 ⟨hi, hBx, hEl⟩
  have hzl := hEl.size
  have hlx := hBx.lt
  have hul := usd_le x i
  refine wpC_seq (wpC_seq (wpC_region (wpF_run 1 [(67, (vI i))] (wpF_step (op_split (some 68) (decide (((i : Nat) : Int) < ((4 : Nat) : Int))) (fun hc68 => ?_) (fun hc68 => ?_))))))
  · replace hc68 : i < 4 := by have := of_d_t hc68; omega
    refine wpF_end (then_code (wpC_true (wpC_skip (then_code (wpC_seq (wpC_block (wpC_seq (wpC_region (wpF_run 1 [(71, (vP w.heap.size 0))] ?_)))))))))
    refine wpF_step (op_v (some 72) (Instr.loadAt 5 (vP w.heap.size 0)) (vB x.lv) (rn_ld (hBx.cell rfl)) ?_)
    refine wpF_step (op_split (some 73) ((((x.lv : Nat) : Int) == ((0 : Nat) : Int))) (fun hc73 => ?_) (fun hc73 => ?_))
    · replace hc73 : x.lv = 0 := by have := of_eq_t hc73; omega
      refine wpF_run 3 [(76, (vP w.heap.size 2)), (75, (vI i)), (74, vT)] (wpF_step (op_v (some 77) (Instr.indexAt 36 (vP w.heap.size 2) (vI i)) (vP w.heap.size (2 + i * 35)) (rn_ixa (E := 35) (sz := 35) (m := 4) (by omega)) ?_))
      refine wpF_run 1 [(78, (vP w.heap.size (2 + i * 35)))] (wpF_step (op_v (some 79) (Instr.loadAt 5 (vP w.heap.size (2 + i * 35))) (vB ((x.rs.get i).st)) (rn_ld (hBx.cell (nod_rst (by omega)))) ?_))
      refine wpF_step (op_split (some 80) (decide ((((x.rs.get i).st : Nat) : Int) > ((0 : Nat) : Int))) (fun hc80 => ?_) (fun hc80 => ?_))
      · replace hc80 : (x.rs.get i).st > 0 := by have := of_d_t hc80; omega
        refine wpF_run 14 [(94, vT), (93, undef), (92, undef), (91, undef), (90, undef), (89, undef), (88, undef), (87, undef), (86, undef), (85, undef), (84, undef), (83, undef), (82, vT), (81, vT)] (wpF_end (then_code (wpC_true (wpC_region (wpF_run 1 [(95, (vI (usd x i)))] (wpF_step (op_in (some 96) .i64 (IntKind.i64.wrap (((usd x i : Nat) : Int) + ((1 : Nat) : Int))) (usd x i + 1) (wrapS (by omega) (by omega) (by omega)) ?_)))))))
        refine wpF_run 1 [(12, (vI (usd x i + 1)))] (wpF_end (inBlock_normal (then_code (wpC_region (wpF_run 1 [(69, (vI i))] (wpF_step (op_in (some 70) .i64 (IntKind.i64.wrap (((i : Nat) : Int) + ((1 : Nat) : Int))) (i + 1) (wrapS (by omega) (by omega) (by omega)) ?_)))))))
        refine wpF_run 1 [(13, (vI (i + 1)))] (wpF_end (then_normal ?_))
        rw [show usd x i + 1 = usd x (i + 1) from by rw [usd]; (repeat' split) <;> omega]
        refine endR_mk (i + 1) ?_ ?_
        · exact ⟨by omega, hBx, hEl⟩
        · first | omega | (dsimp only; omega)
      · replace hc80 : ¬ ((x.rs.get i).st > 0) := by have := of_d_f hc80; omega
        refine wpF_run 3 [(83, (vP w.heap.size 0)), (82, vF), (81, vF)] (wpF_step (op_v (some 84) (Instr.loadAt 5 (vP w.heap.size 0)) (vB x.lv) (rn_ld (hBx.cell rfl)) ?_))
        refine wpF_step (op_b (some 85) (decide (((x.lv : Nat) : Int) > ((0 : Nat) : Int))) false (cmpDF (by omega)) ?_)
        refine wpF_run 9 [(94, vF), (93, vF), (92, undef), (91, undef), (90, undef), (89, undef), (88, undef), (87, undef), (86, vF)] (wpF_end (then_code (wpC_false (wpC_skip (inBlock_normal (then_code (wpC_region (wpF_run 1 [(69, (vI i))] (wpF_step (op_in (some 70) .i64 (IntKind.i64.wrap (((i : Nat) : Int) + ((1 : Nat) : Int))) (i + 1) (wrapS (by omega) (by omega) (by omega)) ?_))))))))))
        refine wpF_run 1 [(13, (vI (i + 1)))] (wpF_end (then_normal ?_))
        rw [show usd x i = usd x (i + 1) from by rw [usd]; (repeat' split) <;> omega]
        refine endR_mk (i + 1) ?_ ?_
        · exact ⟨by omega, hBx, hEl⟩
        · first | omega | (dsimp only; omega)
    · replace hc73 : ¬ (x.lv = 0) := by have := of_eq_f hc73; omega
      refine wpF_run 10 [(83, (vP w.heap.size 0)), (82, vF), (81, vF), (80, undef), (79, undef), (78, undef), (77, undef), (76, undef), (75, undef), (74, vF)] (wpF_step (op_v (some 84) (Instr.loadAt 5 (vP w.heap.size 0)) (vB x.lv) (rn_ld (hBx.cell rfl)) ?_))
      refine wpF_step (op_b (some 85) (decide (((x.lv : Nat) : Int) > ((0 : Nat) : Int))) true (cmpDT (by omega)) ?_)
      refine wpF_run 3 [(88, (vP w.heap.size 142)), (87, (vI i)), (86, vT)] (wpF_step (op_v (some 89) (Instr.indexAt 39 (vP w.heap.size 142) (vI i)) (vP w.heap.size (142 + i * 33)) (rn_ixa (E := 38) (sz := 33) (m := 4) (by omega)) ?_))
      refine wpF_run 1 [(90, (vP w.heap.size (142 + i * 33)))] (wpF_step (op_v (some 91) (Instr.loadAt 5 (vP w.heap.size (142 + i * 33))) (vB ((x.es.get i).st)) (rn_ld (hBx.cell (nod_est (by omega)))) ?_))
      refine wpF_step (op_split (some 92) (decide ((((x.es.get i).st : Nat) : Int) > ((0 : Nat) : Int))) (fun hc92 => ?_) (fun hc92 => ?_))
      · replace hc92 : (x.es.get i).st > 0 := by have := of_d_t hc92; omega
        refine wpF_run 2 [(94, vT), (93, vT)] (wpF_end (then_code (wpC_true (wpC_region (wpF_run 1 [(95, (vI (usd x i)))] (wpF_step (op_in (some 96) .i64 (IntKind.i64.wrap (((usd x i : Nat) : Int) + ((1 : Nat) : Int))) (usd x i + 1) (wrapS (by omega) (by omega) (by omega)) ?_)))))))
        refine wpF_run 1 [(12, (vI (usd x i + 1)))] (wpF_end (inBlock_normal (then_code (wpC_region (wpF_run 1 [(69, (vI i))] (wpF_step (op_in (some 70) .i64 (IntKind.i64.wrap (((i : Nat) : Int) + ((1 : Nat) : Int))) (i + 1) (wrapS (by omega) (by omega) (by omega)) ?_)))))))
        refine wpF_run 1 [(13, (vI (i + 1)))] (wpF_end (then_normal ?_))
        rw [show usd x i + 1 = usd x (i + 1) from by rw [usd]; (repeat' split) <;> omega]
        refine endR_mk (i + 1) ?_ ?_
        · exact ⟨by omega, hBx, hEl⟩
        · first | omega | (dsimp only; omega)
      · replace hc92 : ¬ ((x.es.get i).st > 0) := by have := of_d_f hc92; omega
        refine wpF_run 2 [(94, vF), (93, vF)] (wpF_end (then_code (wpC_false (wpC_skip (inBlock_normal (then_code (wpC_region (wpF_run 1 [(69, (vI i))] (wpF_step (op_in (some 70) .i64 (IntKind.i64.wrap (((i : Nat) : Int) + ((1 : Nat) : Int))) (i + 1) (wrapS (by omega) (by omega) (by omega)) ?_))))))))))
        refine wpF_run 1 [(13, (vI (i + 1)))] (wpF_end (then_normal ?_))
        rw [show usd x i = usd x (i + 1) from by rw [usd]; (repeat' split) <;> omega]
        refine endR_mk (i + 1) ?_ ?_
        · exact ⟨by omega, hBx, hEl⟩
        · first | omega | (dsimp only; omega)
  · replace hc68 : ¬ (i < 4) := by have := of_d_f hc68; omega
    obtain rfl : i = 4 := by omega
    refine wpF_end (then_code (wpC_false (wpC_exit (then_exit (then_exit (inBlock_exit (then_code (wpC_seq (wpC_seq ?_)))))))))
    refine wpC_drawM (Ext w11.drew) 17 [(98, 8, 0), (99, 158456325028528675187087900672, 1), (100, 4096, 0), (101, 950737950171172051122527404032, 6), (102, 1267650600228229401496703205376, 10), (103, 2535301200456458802993406410760, 16), (104, 7605903601369376408980219232256, 48), (105, 2535301200456458802993406410760, 16), (106, 22817710804108129226940657696768, 144), (107, 53241325209585634862861534625792, 336), (108, 2535301200456458802993406410760, 16), (109, 164794578029669822194571416698880, 1040), (110, 2535301200456458802993406410760, 16), (111, 651572408517309912369305447563264, 4112), (112, 1625128069492590092718773509292032, 10256), (113, 2679813368882476954764030576164864, 16912), (114, 5194832159735284087333489735630848, 32784)] (fun hT1106 => ?_)
    have hEw12 : Ext w11 w11.drew := Ext.drew w11
    generalize w11.drew = w12 at hEw12 ⊢
    have hzw12 := hEw12.size
    refine anyM_take hT1106 0 1 (some 97) (vA (nodC x)) (yld_val (Instr.loadAt 41 (vP w.heap.size 0)) (fun w' hC => rn_lda (vs := nodC x) (((hBx.ext hEw12).ext hC).all) (by rw [nodC_len]; kernel_rfl))) (anyM_run hT1106 [(2, 99, (vI (usd x 4)))] 1 5 (anyM_one 1 7 (op_call (some 98) (c_Used x _) ?_)))
    rintro _ w13 ⟨rfl, hEw13⟩
    have hzw13 := hEw13.size
    refine ⟨.inr hEw13, ?_⟩
    refine anyM_take (hw := show Ext w12 w13 from hEw13) hT1106 3 15 (some 100) vF (yld_b (((usd x 4 : Nat) : Int) != ((usd x 4 : Nat) : Int)) (cmpNeF (by omega))) (anyM_run (hw := show Ext w12 w13 from hEw13) hT1106 [(4, 101, vF), (5, 102, (vP w.heap.size 0))] 2 63 (anyM_take (hw := show Ext w12 w13 from hEw13) hT1106 6 127 (some 103) (vB x.lv) (yld_val (Instr.loadAt 5 (vP w.heap.size 0)) (fun w' hC => rn_ld (((hBx.ext hEw12).ext hC).cell rfl))) (anyM_run (hw := show Ext w12 w13 from hEw13) hT1106 [(7, 104, (vP w.heap.size 1))] 1 255 (anyM_take (hw := show Ext w12 w13 from hEw13) hT1106 8 511 (some 105) (vW x.ix) (yld_val (Instr.loadAt 28 (vP w.heap.size 1)) (fun w' hC => rn_ld (((hBx.ext hEw12).ext hC).cell rfl))) (anyM_run (hw := show Ext w12 w13 from hEw13) hT1106 [(10, 107, (vP w.heap.size 0))] 1 1535 (anyM_take (hw := show Ext w12 w13 from hEw13) hT1106 11 3583 (some 108) (vB x.lv) (yld_val (Instr.loadAt 5 (vP w.heap.size 0)) (fun w' hC => rn_ld (((hBx.ext hEw12).ext hC).cell rfl))) (anyM_run (hw := show Ext w12 w13 from hEw13) hT1106 [(12, 109, (vP w.heap.size 1))] 1 7679 (anyM_take (hw := show Ext w12 w13 from hEw13) hT1106 13 15871 (some 110) (vW x.ix) (yld_val (Instr.loadAt 28 (vP w.heap.size 1)) (fun w' hC => rn_ld (((hBx.ext hEw12).ext hC).cell rfl))) ?_))))))))
    refine anyM_take (hw := show Ext w12 w13 from hEw13) hT1106 14 32255 (some 111) (vA (nodC (Nod.mt x.lv x.ix))) (yld_val (Instr.build 41 #[(0, (vB x.lv)), (1, (vW x.ix))]) (fun w' hC => (run_build_nod x.lv x.ix (by omega) (by omega)).trans (congrArg (fun z : Nod => Result.ok (Value.agg (nodC z).toArray) _) (show (Nod.emp x.lv x.ix (by omega) (by omega) : Nod) = Nod.mt x.lv x.ix from Nod.mt_eq _ _)))) (anyM_one 9 32767 (op_call (some 106) (c_Empty x.lv x.ix _ (by omega) (by omega)) ?_))
    rintro _ w14 ⟨rfl, hEw14⟩
    have hzw14 := hEw14.size
    refine ⟨.inr (hEw13.trans hEw14), ?_⟩
    refine anyM_take (hw := show Ext w12 w14 from (hEw13.trans hEw14)) hT1106 15 65535 (some 112) vF (yld_val (bo .neq 41 (.tmp 106) (.tmp 111) (vA (nodC (Nod.mt x.lv x.ix))) (vA (nodC (Nod.mt x.lv x.ix)))) (fun w' hC => run_neqAgg (r := true) (T := 41) ((run_eq_nod (dd := 9995) (N := 41) (R := 36) (E := 39) (r := 35) (en := 38) (t8 := 5) (td := 33) (e := 5) (tn := 31) (t32 := 28) (t64 := 29) (Nod.mt x.lv x.ix) (Nod.mt x.lv x.ix)).trans (congrArg (fun b => Result.ok b _) (show ((Nod.mt x.lv x.ix).eqb (Nod.mt x.lv x.ix)) = true from (Nod.eqb_iff _ _).2 rfl))))) (anyM_run (hw := show Ext w12 w14 from (hEw13.trans hEw14)) hT1106 [(16, 113, vF)] 1 131071 (anyM_done (then_code (wpC_false (wpC_skip (then_code (wpC_seq (wpC_seq (wpC_region ?_)))))))))
    refine wpF_run 1 [(114, (.int .i64 p))] (wpF_step (op_split (some 115) (decide (p < ((0 : Nat) : Int))) (fun hc115 => ?_) (fun hc115 => ?_)))
    · replace hc115 : p < ((0 : Nat) : Int) := by have := of_d_t hc115; omega
      refine wpF_run 4 [(119, vT), (118, undef), (117, undef), (116, vT)] (wpF_end (then_code (wpC_true (wpC_region (wpF_run 1 [(7, (vI 1))] (wpF_end (then_code (wpC_seq (wpC_region ?_)))))))))
      refine wpF_run 4 [(15, (vI 1)), (14, (vI 1)), (121, (vI 1)), (120, (vI 1))] (wpF_end (then_code (wpC_seq (wpC_seq (wpC_region (wpF_run 7 [(128, vF), (127, undef), (126, undef), (125, undef), (124, vF), (123, vF), (122, (vI 1))] (wpF_end (then_code (wpC_false ?_)))))))))
      refine wpC_skip (then_code (wpC_seq (wpC_seq (wpC_region (wpF_run 7 [(135, vF), (134, undef), (133, undef), (132, undef), (131, vF), (130, vF), (129, (vI 1))] (wpF_end (then_code (wpC_false (wpC_skip ?_)))))))))
      refine then_code (wpC_seq (wpC_region ?_))
      have hK3 := (((((hBx.ext hEw12)).ext hEw13)).ext hEw14)
      refine wpF_step (op_v (some 137) (Instr.loadAt 41 (vP w.heap.size 0)) (vA (nodC x)) (rn_lda (vs := nodC x) (hK3.all) (by rw [nodC_len]; kernel_rfl)) ?_)
      refine wpF_run 2 [(139, (vA (recC Rec.zero))), (138, (.int .i64 p))] (wpF_step (op_call (some 140) (c_WithRecordBad x p Rec.zero _ (by intro h; have hw := withE_ok h.1; omega)) ?_))
      rintro _ w15 ⟨rfl, hEw15⟩
      have hzw15 := hEw15.size
      refine wpF_run 3 [(142, (vI 1)), (141, (vA (nodC Nod.zero))), (136, (.tuple #[(vA (nodC Nod.zero)), (vI 1)]))] (wpF_step (op_new (some 16) (Instr.alloc 41 true (.tuple #[])) (vP w15.heap.size 0) (nodC Nod.zero) 41 ?_))
      intro w16 hBw16 hEw16
      have hzw16 := hEw16.size; have hlw16 := hBw16.lt
      refine wpF_step (op_store 41 w15.heap.size 0 41 (vA (nodC Nod.zero)) (nodC Nod.zero) (nodC Nod.zero) hBw16 (by rw [nodC_len]; kernel_rfl) (by first | (simp; done) | (simp; omega)) (nodC_one _) ?_)
      intro w17 hBw17 hCw17
      have hzw17 := hCw17.size
      rw [setFrom_all _ _ (by simp)] at hBw17
      refine wpF_run 1 [(9, (vI 1))] (wpF_end (then_code (wpC_seq (wpC_region ?_))))
      have hK4 := (((((hK3.ext hEw15)).ext hEw16)).chg hCw17 (fun hs => by have h : _ = _ := hs; omega))
      refine wpF_step (op_v (some 144) (Instr.loadAt 41 (vP w.heap.size 0)) (vA (nodC x)) (rn_lda (vs := nodC x) (hK4.all) (by rw [nodC_len]; kernel_rfl)) ?_)
      refine wpF_run 2 [(146, (vA (entC Ent.zero))), (145, (.int .i64 p))] (wpF_step (op_call (some 147) (c_WithEntryBad x p Ent.zero _ (by intro h; have hw := withE_ok h.1; omega)) ?_))
      rintro _ w18 ⟨rfl, hEw18⟩
      have hzw18 := hEw18.size
      refine wpF_run 3 [(149, (vI 1)), (148, (vA (nodC Nod.zero))), (143, (.tuple #[(vA (nodC Nod.zero)), (vI 1)]))] (wpF_step (op_new (some 17) (Instr.alloc 41 true (.tuple #[])) (vP w18.heap.size 0) (nodC Nod.zero) 41 ?_))
      intro w19 hBw19 hEw19
      have hzw19 := hEw19.size; have hlw19 := hBw19.lt
      refine wpF_step (op_store 41 w18.heap.size 0 41 (vA (nodC Nod.zero)) (nodC Nod.zero) (nodC Nod.zero) hBw19 (by rw [nodC_len]; kernel_rfl) (by first | (simp; done) | (simp; omega)) (nodC_one _) ?_)
      intro w20 hBw20 hCw20
      have hzw20 := hCw20.size
      rw [setFrom_all _ _ (by simp)] at hBw20
      refine wpF_run 1 [(11, (vI 1))] (wpF_end (then_code (wpC_seq (wpC_region (wpF_run 12 [(161, vF), (160, vF), (159, (vI 1)), (158, vT), (157, vT), (156, vT), (155, (vI 1)), (154, (vI 1)), (153, vT), (152, vT), (151, (vI 1)), (150, (vI 1))] ?_)))))
      have hK5 := (((((hBw17.ext hEw18)).ext hEw19)).chg hCw20 (fun hs => by have h : _ = _ := hs; omega))
      refine wpF_step (op_v (some 162) (Instr.loadAt 41 (vP w15.heap.size 0)) (vA (nodC Nod.zero)) (rn_lda (vs := nodC Nod.zero) (hK5.all) (by rw [nodC_len]; kernel_rfl)) ?_)
      refine wpF_run 1 [(163, (vA (nodC Nod.zero)))] (wpF_step (op_v (some 164) (bo .eql 41 (.tmp 162) (.tmp 163) (vA (nodC Nod.zero)) (vA (nodC Nod.zero))) vT (run_eqlAgg (r := true) (T := 41) ((run_eq_nod (dd := 9995) (N := 41) (R := 36) (E := 39) (r := 35) (en := 38) (t8 := 5) (td := 33) (e := 5) (tn := 31) (t32 := 28) (t64 := 29) Nod.zero Nod.zero).trans (congrArg (fun b => Result.ok b _) (show (Nod.zero.eqb Nod.zero) = true from (Nod.eqb_iff _ _).2 rfl)))) ?_))
      refine wpF_run 6 [(170, vF), (169, vF), (168, (vI 1)), (167, vT), (166, vT), (165, vT)] (wpF_step (op_v (some 171) (Instr.loadAt 41 (vP w18.heap.size 0)) (vA (nodC Nod.zero)) (rn_lda (vs := nodC Nod.zero) (hBw20.all) (by rw [nodC_len]; kernel_rfl)) ?_))
      refine wpF_run 1 [(172, (vA (nodC Nod.zero)))] (wpF_step (op_v (some 173) (bo .eql 41 (.tmp 171) (.tmp 172) (vA (nodC Nod.zero)) (vA (nodC Nod.zero))) vT (run_eqlAgg (r := true) (T := 41) ((run_eq_nod (dd := 9995) (N := 41) (R := 36) (E := 39) (r := 35) (en := 38) (t8 := 5) (td := 33) (e := 5) (tn := 31) (t32 := 28) (t64 := 29) Nod.zero Nod.zero).trans (congrArg (fun b => Result.ok b _) (show (Nod.zero.eqb Nod.zero) = true from (Nod.eqb_iff _ _).2 rfl)))) ?_))
      refine wpF_run 3 [(176, vT), (175, vT), (174, vT)] ?_
      have hK6 := (((((((((((((((((((hg0.ext hEl)).ext hEw12)).ext hEw13)).ext hEw14)).ext hEw15)).ext hEw16)).chg hCw17 (fun hs => by have h : _ = _ := hs; omega))).ext hEw18)).ext hEw19)).chg hCw20 (fun hs => by have h : _ = _ := hs; omega))
      refine wpF_step (op_call (some 177) (c_lives13 _ hK6) ?_)
      rintro _ w21 ⟨rfl, hEw21⟩
      have hzw21 := hEw21.size
      refine wpF_run 2 [(6, vT), (178, vT)] (wpF_end (then_code (wpC_ret (body_rets vT ?_))))
      have hX2 : Ext w w21 := ((Ext.own (((Ext.own (((((hEl.trans hEw12).trans hEw13).trans hEw14).trans hEw15).trans hEw16) hCw17 (by omega)).trans hEw18).trans hEw19) hCw20 (by omega)).trans hEw21)
      exact ⟨rfl, hX2⟩
    · replace hc115 : ¬ (p < ((0 : Nat) : Int)) := by have := of_d_f hc115; omega
      refine wpF_run 2 [(117, (.int .i64 p)), (116, vF)] (wpF_step (op_split (some 118) (decide (p > ((3 : Nat) : Int))) (fun hc118 => ?_) (fun hc118 => ?_)))
      · replace hc118 : p > ((3 : Nat) : Int) := by have := of_d_t hc118; omega
        refine wpF_run 1 [(119, vT)] (wpF_end (then_code (wpC_true (wpC_region (wpF_run 1 [(7, (vI 1))] (wpF_end (then_code (wpC_seq (wpC_region ?_)))))))))
        refine wpF_run 4 [(15, (vI 1)), (14, (vI 1)), (121, (vI 1)), (120, (vI 1))] (wpF_end (then_code (wpC_seq (wpC_seq (wpC_region (wpF_run 7 [(128, vF), (127, undef), (126, undef), (125, undef), (124, vF), (123, vF), (122, (vI 1))] (wpF_end (then_code (wpC_false ?_)))))))))
        refine wpC_skip (then_code (wpC_seq (wpC_seq (wpC_region (wpF_run 7 [(135, vF), (134, undef), (133, undef), (132, undef), (131, vF), (130, vF), (129, (vI 1))] (wpF_end (then_code (wpC_false (wpC_skip ?_)))))))))
        refine then_code (wpC_seq (wpC_region ?_))
        have hK7 := (((((hBx.ext hEw12)).ext hEw13)).ext hEw14)
        refine wpF_step (op_v (some 137) (Instr.loadAt 41 (vP w.heap.size 0)) (vA (nodC x)) (rn_lda (vs := nodC x) (hK7.all) (by rw [nodC_len]; kernel_rfl)) ?_)
        refine wpF_run 2 [(139, (vA (recC Rec.zero))), (138, (.int .i64 p))] (wpF_step (op_call (some 140) (c_WithRecordBad x p Rec.zero _ (by intro h; have hw := withE_ok h.1; omega)) ?_))
        rintro _ w22 ⟨rfl, hEw22⟩
        have hzw22 := hEw22.size
        refine wpF_run 3 [(142, (vI 1)), (141, (vA (nodC Nod.zero))), (136, (.tuple #[(vA (nodC Nod.zero)), (vI 1)]))] (wpF_step (op_new (some 16) (Instr.alloc 41 true (.tuple #[])) (vP w22.heap.size 0) (nodC Nod.zero) 41 ?_))
        intro w23 hBw23 hEw23
        have hzw23 := hEw23.size; have hlw23 := hBw23.lt
        refine wpF_step (op_store 41 w22.heap.size 0 41 (vA (nodC Nod.zero)) (nodC Nod.zero) (nodC Nod.zero) hBw23 (by rw [nodC_len]; kernel_rfl) (by first | (simp; done) | (simp; omega)) (nodC_one _) ?_)
        intro w24 hBw24 hCw24
        have hzw24 := hCw24.size
        rw [setFrom_all _ _ (by simp)] at hBw24
        refine wpF_run 1 [(9, (vI 1))] (wpF_end (then_code (wpC_seq (wpC_region ?_))))
        have hK8 := (((((hK7.ext hEw22)).ext hEw23)).chg hCw24 (fun hs => by have h : _ = _ := hs; omega))
        refine wpF_step (op_v (some 144) (Instr.loadAt 41 (vP w.heap.size 0)) (vA (nodC x)) (rn_lda (vs := nodC x) (hK8.all) (by rw [nodC_len]; kernel_rfl)) ?_)
        refine wpF_run 2 [(146, (vA (entC Ent.zero))), (145, (.int .i64 p))] (wpF_step (op_call (some 147) (c_WithEntryBad x p Ent.zero _ (by intro h; have hw := withE_ok h.1; omega)) ?_))
        rintro _ w25 ⟨rfl, hEw25⟩
        have hzw25 := hEw25.size
        refine wpF_run 3 [(149, (vI 1)), (148, (vA (nodC Nod.zero))), (143, (.tuple #[(vA (nodC Nod.zero)), (vI 1)]))] (wpF_step (op_new (some 17) (Instr.alloc 41 true (.tuple #[])) (vP w25.heap.size 0) (nodC Nod.zero) 41 ?_))
        intro w26 hBw26 hEw26
        have hzw26 := hEw26.size; have hlw26 := hBw26.lt
        refine wpF_step (op_store 41 w25.heap.size 0 41 (vA (nodC Nod.zero)) (nodC Nod.zero) (nodC Nod.zero) hBw26 (by rw [nodC_len]; kernel_rfl) (by first | (simp; done) | (simp; omega)) (nodC_one _) ?_)
        intro w27 hBw27 hCw27
        have hzw27 := hCw27.size
        rw [setFrom_all _ _ (by simp)] at hBw27
        refine wpF_run 1 [(11, (vI 1))] (wpF_end (then_code (wpC_seq (wpC_region (wpF_run 12 [(161, vF), (160, vF), (159, (vI 1)), (158, vT), (157, vT), (156, vT), (155, (vI 1)), (154, (vI 1)), (153, vT), (152, vT), (151, (vI 1)), (150, (vI 1))] ?_)))))
        have hK9 := (((((hBw24.ext hEw25)).ext hEw26)).chg hCw27 (fun hs => by have h : _ = _ := hs; omega))
        refine wpF_step (op_v (some 162) (Instr.loadAt 41 (vP w22.heap.size 0)) (vA (nodC Nod.zero)) (rn_lda (vs := nodC Nod.zero) (hK9.all) (by rw [nodC_len]; kernel_rfl)) ?_)
        refine wpF_run 1 [(163, (vA (nodC Nod.zero)))] (wpF_step (op_v (some 164) (bo .eql 41 (.tmp 162) (.tmp 163) (vA (nodC Nod.zero)) (vA (nodC Nod.zero))) vT (run_eqlAgg (r := true) (T := 41) ((run_eq_nod (dd := 9995) (N := 41) (R := 36) (E := 39) (r := 35) (en := 38) (t8 := 5) (td := 33) (e := 5) (tn := 31) (t32 := 28) (t64 := 29) Nod.zero Nod.zero).trans (congrArg (fun b => Result.ok b _) (show (Nod.zero.eqb Nod.zero) = true from (Nod.eqb_iff _ _).2 rfl)))) ?_))
        refine wpF_run 6 [(170, vF), (169, vF), (168, (vI 1)), (167, vT), (166, vT), (165, vT)] (wpF_step (op_v (some 171) (Instr.loadAt 41 (vP w25.heap.size 0)) (vA (nodC Nod.zero)) (rn_lda (vs := nodC Nod.zero) (hBw27.all) (by rw [nodC_len]; kernel_rfl)) ?_))
        refine wpF_run 1 [(172, (vA (nodC Nod.zero)))] (wpF_step (op_v (some 173) (bo .eql 41 (.tmp 171) (.tmp 172) (vA (nodC Nod.zero)) (vA (nodC Nod.zero))) vT (run_eqlAgg (r := true) (T := 41) ((run_eq_nod (dd := 9995) (N := 41) (R := 36) (E := 39) (r := 35) (en := 38) (t8 := 5) (td := 33) (e := 5) (tn := 31) (t32 := 28) (t64 := 29) Nod.zero Nod.zero).trans (congrArg (fun b => Result.ok b _) (show (Nod.zero.eqb Nod.zero) = true from (Nod.eqb_iff _ _).2 rfl)))) ?_))
        refine wpF_run 3 [(176, vT), (175, vT), (174, vT)] ?_
        have hK10 := (((((((((((((((((((hg0.ext hEl)).ext hEw12)).ext hEw13)).ext hEw14)).ext hEw22)).ext hEw23)).chg hCw24 (fun hs => by have h : _ = _ := hs; omega))).ext hEw25)).ext hEw26)).chg hCw27 (fun hs => by have h : _ = _ := hs; omega))
        refine wpF_step (op_call (some 177) (c_lives13 _ hK10) ?_)
        rintro _ w28 ⟨rfl, hEw28⟩
        have hzw28 := hEw28.size
        refine wpF_run 2 [(6, vT), (178, vT)] (wpF_end (then_code (wpC_ret (body_rets vT ?_))))
        have hX3 : Ext w w28 := ((Ext.own (((Ext.own (((((hEl.trans hEw12).trans hEw13).trans hEw14).trans hEw22).trans hEw23) hCw24 (by omega)).trans hEw25).trans hEw26) hCw27 (by omega)).trans hEw28)
        exact ⟨rfl, hX3⟩
      · replace hc118 : ¬ (p > ((3 : Nat) : Int)) := by have := of_d_f hc118; omega
        obtain ⟨q, rfl⟩ := Int.eq_ofNat_of_zero_le (show 0 ≤ p by omega)
        refine wpF_run 1 [(119, vF)] (wpF_end (then_code (wpC_false (wpC_skip (then_code (wpC_seq (wpC_region (wpF_run 4 [(15, (vI 1)), (14, (vI 1)), (121, (vI 1)), (120, (vI 1))] (wpF_end ?_)))))))))
        refine then_code (wpC_seq (wpC_seq (wpC_region (wpF_run 7 [(128, vF), (127, undef), (126, undef), (125, undef), (124, vF), (123, vF), (122, (vI 1))] (wpF_end (then_code (wpC_false (wpC_skip (then_code ?_)))))))))
        refine wpC_seq (wpC_seq (wpC_region (wpF_run 7 [(135, vF), (134, undef), (133, undef), (132, undef), (131, vF), (130, vF), (129, (vI 1))] (wpF_end (then_code (wpC_false (wpC_skip (then_code (wpC_seq ?_)))))))))
        refine wpC_region ?_
        have hK11 := (((((hBx.ext hEw12)).ext hEw13)).ext hEw14)
        refine wpF_step (op_v (some 137) (Instr.loadAt 41 (vP w.heap.size 0)) (vA (nodC x)) (rn_lda (vs := nodC x) (hK11.all) (by rw [nodC_len]; kernel_rfl)) ?_)
        refine wpF_run 2 [(139, (vA (recC Rec.zero))), (138, (vI q))] (wpF_step (op_call (some 140) (c_WithRecordBad x ((q : Nat) : Int) Rec.zero _ (by intro h; have hw := withE_ok h.1; omega)) ?_))
        rintro _ w29 ⟨rfl, hEw29⟩
        have hzw29 := hEw29.size
        refine wpF_run 3 [(142, (vI 1)), (141, (vA (nodC Nod.zero))), (136, (.tuple #[(vA (nodC Nod.zero)), (vI 1)]))] (wpF_step (op_new (some 16) (Instr.alloc 41 true (.tuple #[])) (vP w29.heap.size 0) (nodC Nod.zero) 41 ?_))
        intro w30 hBw30 hEw30
        have hzw30 := hEw30.size; have hlw30 := hBw30.lt
        refine wpF_step (op_store 41 w29.heap.size 0 41 (vA (nodC Nod.zero)) (nodC Nod.zero) (nodC Nod.zero) hBw30 (by rw [nodC_len]; kernel_rfl) (by first | (simp; done) | (simp; omega)) (nodC_one _) ?_)
        intro w31 hBw31 hCw31
        have hzw31 := hCw31.size
        rw [setFrom_all _ _ (by simp)] at hBw31
        refine wpF_run 1 [(9, (vI 1))] (wpF_end (then_code (wpC_seq (wpC_region ?_))))
        have hK12 := (((((hK11.ext hEw29)).ext hEw30)).chg hCw31 (fun hs => by have h : _ = _ := hs; omega))
        refine wpF_step (op_v (some 144) (Instr.loadAt 41 (vP w.heap.size 0)) (vA (nodC x)) (rn_lda (vs := nodC x) (hK12.all) (by rw [nodC_len]; kernel_rfl)) ?_)
        refine wpF_run 2 [(146, (vA (entC Ent.zero))), (145, (vI q))] (wpF_step (op_call (some 147) (c_WithEntryBad x ((q : Nat) : Int) Ent.zero _ (by intro h; have hw := withE_ok h.1; omega)) ?_))
        rintro _ w32 ⟨rfl, hEw32⟩
        have hzw32 := hEw32.size
        refine wpF_run 3 [(149, (vI 1)), (148, (vA (nodC Nod.zero))), (143, (.tuple #[(vA (nodC Nod.zero)), (vI 1)]))] (wpF_step (op_new (some 17) (Instr.alloc 41 true (.tuple #[])) (vP w32.heap.size 0) (nodC Nod.zero) 41 ?_))
        intro w33 hBw33 hEw33
        have hzw33 := hEw33.size; have hlw33 := hBw33.lt
        refine wpF_step (op_store 41 w32.heap.size 0 41 (vA (nodC Nod.zero)) (nodC Nod.zero) (nodC Nod.zero) hBw33 (by rw [nodC_len]; kernel_rfl) (by first | (simp; done) | (simp; omega)) (nodC_one _) ?_)
        intro w34 hBw34 hCw34
        have hzw34 := hCw34.size
        rw [setFrom_all _ _ (by simp)] at hBw34
        refine wpF_run 1 [(11, (vI 1))] (wpF_end (then_code (wpC_seq (wpC_region (wpF_run 12 [(161, vF), (160, vF), (159, (vI 1)), (158, vT), (157, vT), (156, vT), (155, (vI 1)), (154, (vI 1)), (153, vT), (152, vT), (151, (vI 1)), (150, (vI 1))] ?_)))))
        have hK13 := (((((hBw31.ext hEw32)).ext hEw33)).chg hCw34 (fun hs => by have h : _ = _ := hs; omega))
        refine wpF_step (op_v (some 162) (Instr.loadAt 41 (vP w29.heap.size 0)) (vA (nodC Nod.zero)) (rn_lda (vs := nodC Nod.zero) (hK13.all) (by rw [nodC_len]; kernel_rfl)) ?_)
        refine wpF_run 1 [(163, (vA (nodC Nod.zero)))] (wpF_step (op_v (some 164) (bo .eql 41 (.tmp 162) (.tmp 163) (vA (nodC Nod.zero)) (vA (nodC Nod.zero))) vT (run_eqlAgg (r := true) (T := 41) ((run_eq_nod (dd := 9995) (N := 41) (R := 36) (E := 39) (r := 35) (en := 38) (t8 := 5) (td := 33) (e := 5) (tn := 31) (t32 := 28) (t64 := 29) Nod.zero Nod.zero).trans (congrArg (fun b => Result.ok b _) (show (Nod.zero.eqb Nod.zero) = true from (Nod.eqb_iff _ _).2 rfl)))) ?_))
        refine wpF_run 6 [(170, vF), (169, vF), (168, (vI 1)), (167, vT), (166, vT), (165, vT)] (wpF_step (op_v (some 171) (Instr.loadAt 41 (vP w32.heap.size 0)) (vA (nodC Nod.zero)) (rn_lda (vs := nodC Nod.zero) (hBw34.all) (by rw [nodC_len]; kernel_rfl)) ?_))
        refine wpF_run 1 [(172, (vA (nodC Nod.zero)))] (wpF_step (op_v (some 173) (bo .eql 41 (.tmp 171) (.tmp 172) (vA (nodC Nod.zero)) (vA (nodC Nod.zero))) vT (run_eqlAgg (r := true) (T := 41) ((run_eq_nod (dd := 9995) (N := 41) (R := 36) (E := 39) (r := 35) (en := 38) (t8 := 5) (td := 33) (e := 5) (tn := 31) (t32 := 28) (t64 := 29) Nod.zero Nod.zero).trans (congrArg (fun b => Result.ok b _) (show (Nod.zero.eqb Nod.zero) = true from (Nod.eqb_iff _ _).2 rfl)))) ?_))
        refine wpF_run 3 [(176, vT), (175, vT), (174, vT)] ?_
        have hK14 := (((((((((((((((((((hg0.ext hEl)).ext hEw12)).ext hEw13)).ext hEw14)).ext hEw29)).ext hEw30)).chg hCw31 (fun hs => by have h : _ = _ := hs; omega))).ext hEw32)).ext hEw33)).chg hCw34 (fun hs => by have h : _ = _ := hs; omega))
        refine wpF_step (op_call (some 177) (c_lives13 _ hK14) ?_)
        rintro _ w35 ⟨rfl, hEw35⟩
        have hzw35 := hEw35.size
        refine wpF_run 2 [(6, vT), (178, vT)] (wpF_end (then_code (wpC_ret (body_rets vT ?_))))
        have hX4 : Ext w w35 := ((Ext.own (((Ext.own (((((hEl.trans hEw12).trans hEw13).trans hEw14).trans hEw29).trans hEw30) hCw31 (by omega)).trans hEw32).trans hEw33) hCw34 (by omega)).trans hEw35)
        exact ⟨rfl, hX4⟩

theorem c_NodesErrors (x : Nod) (n : Int) (p : Int)  (w : World) (hg0 : Gl 0 [vI 45, vI 33] w) (hg1 : Gl 1 (w8C iniA) w) (hg2 : Gl 2 (w64C kA) w) :
    Calls Tryd.prog 8 #[(vA (nodC x)), (.int .i64 n), (.int .i64 p)] w (Ret fun r w' => r = vT ∧ Ext w w') := by
  by_cases h : 1 ≤ n ∧ n ≤ 4096
  · obtain ⟨m, rfl⟩ := Int.eq_ofNat_of_zero_le (show 0 ≤ n by omega)
    rcases chkN_le x with hc | hc
    · exact c_NE00 x m p w hc (by omega) (by omega) hg0 hg1 hg2
    · exact c_NE10 x m p w hc (by omega) (by omega) hg0 hg1 hg2
  · rcases chkN_le x with hc | hc
    · exact c_NE01 x n p w hc h hg0 hg1 hg2
    · exact c_NE11 x n p w hc h hg0 hg1 hg2

end Go.Proofs.YtpcbhalagllhnaaDoor
