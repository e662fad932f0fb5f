/- CsC5: what each function does, by its own code. No condition beyond those of each statement. -/
import Derived.Test.YthjplefmfjkhfaaDoorCsC4
namespace Go.Proofs.YthjplefmfjkhfaaDoor
open Go Go.RowKit Go.Cs
set_option maxRecDepth 100000
set_option linter.all false
set_option linter.unusedVariables false

theorem c_CellsFollows (a : Cel) (b : Cel)  (w : World) (hg0 : Gl 0 [vI 45, vI 33] w) (hg1 : Gl 1 (w8C iniA) w) (hg2 : Gl 2 (w64C kA) w) :
    Calls Tryd.prog 5 #[(vA (celC a)), (vA (celC b))] w (Ret fun r w' => r = vT ∧ Ext w w') := by
  refine calls_of (n := 32) (σ := [(0, (vA (celC a))), (1, (vA (celC b)))]) Tryd.func5 rfl ?_
  have hgl0 := hg0.lt
  have hgl1 := hg1.lt
  have hgl2 := hg2.lt
  have f1 := fol_le a b; have f2 := fol_le b a
  refine wpC_seq (wpC_region (wpF_step (op_new (some 2) (Instr.box 30 (vA (celC a))) (vP w.heap.size 0) (celC a) 30 ?_)))
  intro w1 hBw1 hEw1
  have hzw1 := hEw1.size; have hlw1 := hBw1.lt
  refine wpF_step (op_new (some 3) (Instr.box 30 (vA (celC b))) (vP w1.heap.size 0) (celC b) 30 ?_)
  intro w2 hBw2 hEw2
  have hzw2 := hEw2.size; have hlw2 := hBw2.lt
  refine wpF_run 1 [(4, vF)] (wpF_end (then_code (wpC_seq (wpC_drawM (Ext w2.drew) 28 [(6, 4, 0), (7, 8, 0), (8, 96, 3), (9, 128, 4), (10, 4, 0), (11, 8, 0), (12, 1536, 52), (13, 2304, 72), (14, 4096, 192), (15, 8200, 256), (16, 8196, 256), (17, 57344, 1792), (18, 73728, 2304), (19, 8200, 256), (20, 8196, 256), (21, 794624, 26880), (22, 1187840, 37120), (23, 2105344, 65792), (24, 4194304, 163840), (25, 8388612, 262144), (26, 8388612, 262144), (27, 58720256, 1835008), (28, 75497472, 2359296), (29, 142606336, 4456448), (30, 268435456, 10485760), (31, 536870912, 16777216), (32, 1610612736, 50331648), (5, 2147483648, 134217727)] (fun hT753 => ?_)))))
  have hEw3 : Ext w2 w2.drew := Ext.drew w2
  generalize w2.drew = w3 at hEw3 ⊢
  have hzw3 := hEw3.size
  refine anyM_take hT753 0 1 (some 5) (vA (celC a)) (yld_val (Instr.loadAt 30 (vP w.heap.size 0)) (fun w' hC => rn_lda (vs := celC a) (((((hBw1.ext hEw2)).ext hEw3).ext hC).all) (by rw [celC_len]; kernel_rfl))) (anyM_take hT753 1 3 (some 6) (vA (celC b)) (yld_val (Instr.loadAt 30 (vP w1.heap.size 0)) (fun w' hC => rn_lda (vs := celC b) (((hBw2.ext hEw3).ext hC).all) (by rw [celC_len]; kernel_rfl))) (anyM_take hT753 4 19 (some 9) (vA (celC a)) (yld_val (Instr.loadAt 30 (vP w.heap.size 0)) (fun w' hC => rn_lda (vs := celC a) (((((hBw1.ext hEw2)).ext hEw3).ext hC).all) (by rw [celC_len]; kernel_rfl))) (anyM_take hT753 5 51 (some 10) (vA (celC b)) (yld_val (Instr.loadAt 30 (vP w1.heap.size 0)) (fun w' hC => rn_lda (vs := celC b) (((hBw2.ext hEw3).ext hC).all) (by rw [celC_len]; kernel_rfl))) (anyM_one 2 55 (op_call (some 7) (c_Fol a b _) ?_)))))
  rintro _ w4 ⟨rfl, hEw4⟩
  have hzw4 := hEw4.size
  refine ⟨.inr hEw4, ?_⟩
  refine anyM_take (hw := show Ext w3 w4 from hEw4) hT753 3 63 (some 8) (vI (fol a b)) (yld_in .i64 (IntKind.i64.wrap ((fol a b : Nat) : Int)) (wrapS rfl (by omega) (by omega))) (anyM_one 6 127 (op_call (some 11) (c_rFol a b _) ?_))
  rintro _ w5 ⟨rfl, hEw5⟩
  have hzw5 := hEw5.size
  refine ⟨.inr (hEw4.trans hEw5), ?_⟩
  refine anyM_take (hw := show Ext w3 w5 from (hEw4.trans hEw5)) hT753 7 255 (some 12) vT (yld_b (((fol a b : Nat) : Int) == ((fol a b : Nat) : Int)) (cmpEqT (by omega))) (anyM_run (hw := show Ext w3 w5 from (hEw4.trans hEw5)) hT753 [(8, 13, vT)] 1 511 (anyM_take (hw := show Ext w3 w5 from (hEw4.trans hEw5)) hT753 9 1023 (some 14) (vA (celC b)) (yld_val (Instr.loadAt 30 (vP w1.heap.size 0)) (fun w' hC => rn_lda (vs := celC b) (((hBw2.ext hEw3).ext hC).all) (by rw [celC_len]; kernel_rfl))) (anyM_take (hw := show Ext w3 w5 from (hEw4.trans hEw5)) hT753 10 2047 (some 15) (vA (celC a)) (yld_val (Instr.loadAt 30 (vP w.heap.size 0)) (fun w' hC => rn_lda (vs := celC a) (((((hBw1.ext hEw2)).ext hEw3).ext hC).all) (by rw [celC_len]; kernel_rfl))) (anyM_take (hw := show Ext w3 w5 from (hEw4.trans hEw5)) hT753 13 10239 (some 18) (vA (celC b)) (yld_val (Instr.loadAt 30 (vP w1.heap.size 0)) (fun w' hC => rn_lda (vs := celC b) (((hBw2.ext hEw3).ext hC).all) (by rw [celC_len]; kernel_rfl))) (anyM_take (hw := show Ext w3 w5 from (hEw4.trans hEw5)) hT753 14 26623 (some 19) (vA (celC a)) (yld_val (Instr.loadAt 30 (vP w.heap.size 0)) (fun w' hC => rn_lda (vs := celC a) (((((hBw1.ext hEw2)).ext hEw3).ext hC).all) (by rw [celC_len]; kernel_rfl))) (anyM_one 11 28671 (op_call (some 16) (c_Fol b a _) ?_)))))))
  rintro _ w6 ⟨rfl, hEw6⟩
  have hzw6 := hEw6.size
  refine ⟨.inr ((hEw4.trans hEw5).trans hEw6), ?_⟩
  refine anyM_take (hw := show Ext w3 w6 from ((hEw4.trans hEw5).trans hEw6)) hT753 12 32767 (some 17) (vI (fol b a)) (yld_in .i64 (IntKind.i64.wrap ((fol b a : Nat) : Int)) (wrapS rfl (by omega) (by omega))) (anyM_one 15 65535 (op_call (some 20) (c_rFol b a _) ?_))
  rintro _ w7 ⟨rfl, hEw7⟩
  have hzw7 := hEw7.size
  have hX1 : Ext w3 w7 := (((hEw4.trans hEw5).trans hEw6).trans hEw7)
  refine ⟨.inr hX1, ?_⟩
  refine anyM_take (hw := show Ext w3 w7 from hX1) hT753 16 131071 (some 21) vT (yld_b (((fol b a : Nat) : Int) == ((fol b a : Nat) : Int)) (cmpEqT (by omega))) (anyM_run (hw := show Ext w3 w7 from hX1) hT753 [(17, 22, vT), (18, 23, vT)] 2 524287 (anyM_take (hw := show Ext w3 w7 from hX1) hT753 19 1048575 (some 24) (vA (celC a)) (yld_val (Instr.loadAt 30 (vP w.heap.size 0)) (fun w' hC => rn_lda (vs := celC a) (((((hBw1.ext hEw2)).ext hEw3).ext hC).all) (by rw [celC_len]; kernel_rfl))) (anyM_take (hw := show Ext w3 w7 from hX1) hT753 20 2097151 (some 25) (vA (celC a)) (yld_val (Instr.loadAt 30 (vP w.heap.size 0)) (fun w' hC => rn_lda (vs := celC a) (((((hBw1.ext hEw2)).ext hEw3).ext hC).all) (by rw [celC_len]; kernel_rfl))) (anyM_one 21 4194303 (op_call (some 26) (c_Fol a a _) ?_)))))
  rintro _ w8 ⟨rfl, hEw8⟩
  have hzw8 := hEw8.size
  rw [show fol a a = 0 from fol_self a]
  refine ⟨.inr (hX1.trans hEw8), ?_⟩
  refine anyM_run (hw := show Ext w3 w8 from (hX1.trans hEw8)) hT753 [(22, 27, vT), (23, 28, vT), (24, 29, vT)] 3 33554431 ?_
  have hK1 := (((((((((hg0.ext hEw1)).ext hEw2)).ext hEw3)).ext hX1)).ext hEw8)
  have hK2 := (((((((((hg1.ext hEw1)).ext hEw2)).ext hEw3)).ext hX1)).ext hEw8)
  have hK3 := (((((((((hg2.ext hEw1)).ext hEw2)).ext hEw3)).ext hX1)).ext hEw8)
  refine anyM_one 25 67108863 (op_call (some 30) (c_lives15 _ hK1 hK2 hK3) ?_)
  rintro _ w9 ⟨rfl, hEw9⟩
  have hzw9 := hEw9.size
  refine ⟨.inr ((hX1.trans hEw8).trans hEw9), ?_⟩
  refine anyM_run (hw := show Ext w3 w9 from ((hX1.trans hEw8).trans hEw9)) hT753 [(26, 31, vT), (27, 4, vT)] 2 268435455 (anyM_done (then_code (wpC_ret (body_rets vT ?_))))
  have hX2 : Ext w w9 := (((((hEw1.trans hEw2).trans hEw3).trans hX1).trans hEw8).trans hEw9)
  exact ⟨rfl, hX2⟩

end Go.Proofs.YthjplefmfjkhfaaDoor
