/- CsS7: what each function does, by its own code. No condition beyond those of each statement. -/
import Derived.Test.YtpcbhalagllhnaaCsS6
namespace Go.Proofs.Ytpcbhalagllhnaa
open Go Go.RowKit Go.Cs
set_option maxRecDepth 100000
set_option linter.all false
set_option linter.unusedVariables false

theorem c_lives12   (w : World)  :
    Calls Try.prog 18 #[] w (Ret fun r w' => r = vT ∧ Ext w w') := by
  refine calls_of (n := 229) (σ := []) Try.func18 rfl ?_
  have h17 : hgt 17 = 2 := by decide
  refine wpC_seq (wpC_region (wpF_run 1 [(0, vF)] (wpF_end (then_code (wpC_seq (wpC_region (wpF_step (op_new (some 21) (Instr.buildSlice 60 6 #[(0, (vI 1)), (1, (vI 4)), (2, (vI 5)), (3, (vI 16)), (4, (vI 17)), (5, (vI 4096))]) (.slice (pA w.heap.size 0) 6 6) [(vI 1), (vI 4), (vI 5), (vI 16), (vI 17), (vI 4096)] 3 ?_))))))))
  intro w1 hBw1 hEw1
  have hzw1 := hEw1.size; have hlw1 := hBw1.lt
  have hSw1 : Es (nv .i64) w.heap.size (w.heap.size + 1) w1 (pA w.heap.size 0) 6 6 ([1, 4, 5, 16, 17, 4096]) := Es.of_blk hBw1 rfl rfl (Nat.le_refl _) (by decide) (Nat.le_refl _) (Nat.lt_succ_self _)
  refine wpF_run 1 [(1, (.slice (pA w.heap.size 0) 6 6))] (wpF_end (then_code (wpC_seq (wpC_region (wpF_step (op_new (some 22) (Instr.buildSlice 60 6 #[(0, (vI 0)), (1, (vI 0)), (2, (vI 1)), (3, (vI 1)), (4, (vI 2)), (5, (vI 5))]) (.slice (pA w1.heap.size 0) 6 6) [(vI 0), (vI 0), (vI 1), (vI 1), (vI 2), (vI 5)] 3 ?_))))))
  intro w2 hBw2 hEw2
  have hzw2 := hEw2.size; have hlw2 := hBw2.lt
  have hSw2 : Es (nv .i64) w1.heap.size (w1.heap.size + 1) w2 (pA w1.heap.size 0) 6 6 ([0, 0, 1, 1, 2, 5]) := Es.of_blk hBw2 rfl rfl (Nat.le_refl _) (by decide) (Nat.le_refl _) (Nat.lt_succ_self _)
  refine wpF_run 1 [(2, (.slice (pA w1.heap.size 0) 6 6))] (wpF_end (then_code (wpC_seq (wpC_seq (wpC_region (wpF_run 1 [(3, (vI 0))] (wpF_end (then_code (wpC_block ?_)))))))))
  refine wpC_loop (X := Nat) (fun i => [(3, (vI i))]) [0, 4, 5, 23, 24, 25, 26, 27, 28, 29, 30, 31, 32, 33, 34, 35, 36, 37, 38, 39, 40, 41, 42, 43, 44] (fun i w3 => i ≤ 6 ∧ Ext w2 w3) (fun i => 6 - i) 0 (by kernel_rfl) ⟨by omega, Ext.refl _⟩ ?_
  rintro i dw3 w3 ⟨hi, hEl⟩
  have hzl := hEl.size
  refine wpC_seq (wpC_seq (wpC_region (wpF_run 1 [(23, (vI i))] (wpF_step (op_split (some 24) (decide (((i : Nat) : Int) < ((6 : Nat) : Int))) (fun hc24 => ?_) (fun hc24 => ?_))))))
  · replace hc24 : i < 6 := by have := of_d_t hc24; omega
    have hh : 1 ≤ gt [1, 4, 5, 16, 17, 4096] i ∧ gt [1, 4, 5, 16, 17, 4096] i ≤ 4096 ∧ hgt (gt [1, 4, 5, 16, 17, 4096] i) = gt [0, 0, 1, 1, 2, 5] i := lv12 (by omega)
    refine wpF_end (then_code (wpC_true (wpC_skip (then_code (wpC_seq (wpC_block (wpC_seq (wpC_region (wpF_run 2 [(29, (vI i)), (28, (.slice (pA w.heap.size 0) 6 6))] ?_)))))))))
    refine wpF_step (op_v (some 30) (Instr.indexAt 60 (.slice (pA w.heap.size 0) 6 6) (vI i)) (vP w.heap.size (0 + i * 1)) (rn_ixs (E := 3) (sz := 1) (by omega)) ?_)
    refine wpF_step (op_v (some 31) (Instr.loadAt 3 (vP w.heap.size (0 + i * 1))) (vI (gt ([1, 4, 5, 16, 17, 4096]) i)) (rn_ld ((((hSw1.ext hEw2)).ext hEl).celln (by omega))) ?_)
    refine wpF_step (op_call (some 32) (c_Height (gt ([1, 4, 5, 16, 17, 4096]) i) _ (by omega) (by omega)) ?_)
    rintro _ w4 ⟨rfl, hEw4⟩
    have hzw4 := hEw4.size
    refine wpF_run 5 [(5, (vI 0)), (4, (vI (hgt (gt ([1, 4, 5, 16, 17, 4096]) i)))), (34, (vI 0)), (33, (vI (hgt (gt ([1, 4, 5, 16, 17, 4096]) i)))), (27, (.tuple #[(vI (hgt (gt ([1, 4, 5, 16, 17, 4096]) i))), (vI 0)]))] (wpF_end (then_code (wpC_seq (wpC_region (wpF_run 3 [(37, (vI i)), (36, (.slice (pA w1.heap.size 0) 6 6)), (35, (vI (hgt (gt ([1, 4, 5, 16, 17, 4096]) i))))] (wpF_step (op_v (some 38) (Instr.indexAt 60 (.slice (pA w1.heap.size 0) 6 6) (vI i)) (vP w1.heap.size (0 + i * 1)) (rn_ixs (E := 3) (sz := 1) (by omega)) ?_)))))))
    refine wpF_step (op_v (some 39) (Instr.loadAt 3 (vP w1.heap.size (0 + i * 1))) (vI (gt ([0, 0, 1, 1, 2, 5]) i)) (rn_ld ((((hSw2.ext hEl)).ext hEw4).celln (by omega))) ?_)
    refine wpF_step (op_b (some 40) (((hgt (gt ([1, 4, 5, 16, 17, 4096]) i) : Nat) : Int) != ((gt ([0, 0, 1, 1, 2, 5]) i : Nat) : Int)) false (cmpNeF (by have := hh.2.2; omega)) ?_)
    refine wpF_run 2 [(42, (vI 0)), (41, vF)] (wpF_step (op_b (some 43) (((0 : Nat) : Int) != ((0 : Nat) : Int)) false (cmpNeF (by omega)) ?_))
    refine wpF_run 1 [(44, vF)] (wpF_end (then_code (wpC_false (wpC_skip (inBlock_normal (then_code (wpC_region (wpF_run 1 [(25, (vI i))] (wpF_step (op_in (some 26) .i64 (IntKind.i64.wrap (((i : Nat) : Int) + ((1 : Nat) : Int))) (i + 1) (wrapS (by omega) (by omega) (by omega)) ?_))))))))))
    refine wpF_run 1 [(3, (vI (i + 1)))] (wpF_end (then_normal (endR_mk (i + 1) ?_ ?_)))
    · exact ⟨by omega, (hEl.trans hEw4)⟩
    · first | omega | (dsimp only; omega)
  · replace hc24 : ¬ (i < 6) := by have := of_d_f hc24; omega
    refine wpF_end (then_code (wpC_false (wpC_exit (then_exit (then_exit (inBlock_exit (then_code (wpC_seq (wpC_region ?_)))))))))
    refine wpF_step (op_call (some 46) (c_Count 5 0 _ (by first | omega | decide) (by first | omega | decide) (by first | omega | decide)) ?_)
    rintro _ w5 ⟨rfl, hEw5⟩
    have hzw5 := hEw5.size
    rw [show cnt 5 0 = 2 from by kernel_rfl]
    refine wpF_run 5 [(7, (vI 0)), (6, (vI 2)), (48, (vI 0)), (47, (vI 2)), (45, (.tuple #[(vI 2), (vI 0)]))] (wpF_end (then_code (wpC_seq (wpC_region (wpF_step (op_call (some 50) (c_Total 5 _ (by first | omega | decide) (by first | omega | decide)) ?_))))))
    rintro _ w6 ⟨rfl, hEw6⟩
    have hzw6 := hEw6.size
    rw [show tot 5 = 3 from by kernel_rfl]
    refine wpF_run 5 [(9, (vI 0)), (8, (vI 3)), (52, (vI 0)), (51, (vI 3)), (49, (.tuple #[(vI 3), (vI 0)]))] (wpF_end (then_code (wpC_seq (wpC_region (wpF_step (op_call (some 54) (c_Sectors 5 _ (by first | omega | decide) (by first | omega | decide)) ?_))))))
    rintro _ w7 ⟨rfl, hEw7⟩
    have hzw7 := hEw7.size
    rw [show bas 5 (hgt 5 + 1) = 16 from by kernel_rfl]
    refine wpF_run 5 [(11, (vI 0)), (10, (vI 16)), (56, (vI 0)), (55, (vI 16)), (53, (.tuple #[(vI 16), (vI 0)]))] (wpF_end (then_code (wpC_seq (wpC_region (wpF_step (op_call (some 58) (c_Path 17 16 _ (by first | omega | decide) (by first | omega | decide) (by first | omega | decide)) ?_))))))
    rintro _ w8 ⟨a1, rfl, hFz5_0, hEw8⟩
    have hzw8 := hEw8.size
    have hlea1 := hFz5_0.le
    refine wpF_run 5 [(13, (vI 0)), (12, (.slice a1 (hgt 17 + 1) (hgt 17 + 1))), (60, (vI 0)), (59, (.slice a1 (hgt 17 + 1) (hgt 17 + 1))), (57, (.tuple #[(.slice a1 (hgt 17 + 1) (hgt 17 + 1)), (vI 0)]))] (wpF_end (then_code (wpC_seq (wpC_seq ?_))))
    refine wpC_drawM (Ext w8.drew) 46 [(62, 64, 0), (63, 2305843009213693952, 1), (64, 4611686018427387904, 2), (65, 9223372036854776064, 4), (66, 27670116110564327424, 12), (67, 46116860184273879040, 20), (68, 73786976294838206464, 36), (69, 147573952589676413952, 64), (70, 442721857769029238784, 192), (71, 737869762948382064640, 320), (72, 1180591620717411303424, 576), (73, 2361183241434822610944, 1024), (74, 7083549724304467820544, 3072), (75, 11805916207174113034240, 5120), (76, 21250649172913403461632, 9216), (77, 37778931862957161709568, 17408), (78, 75557863725914323423232, 32768), (79, 226673591177742970257408, 98304), (80, 377789318629571617095680, 163840), (81, 75557863725914323419136, 32768), (82, 1888946593147858085478400, 819200), (83, 2493409502955172672831488, 1081344), (84, 4835703278458516698824704, 2621440), (85, 9671406556917033397653504, 4194304), (86, 29014219670751100192948224, 12582912), (87, 48357032784585166988247040, 20971520), (88, 9671406556917033397649408, 4194304), (89, 241785163922925834941235200, 104857600), (90, 319156416378262102122430464, 138412032), (91, 618970019642690137449562112, 335544320), (92, 1237940039285380274899128320, 536870912), (93, 3713820117856140824697372672, 1610612736), (94, 6189700196426901374495621120, 2684354560), (95, 1237940039285380274899124224, 536870912), (96, 30948500982134506872478105600, 13421772800), (97, 40852021296417549071671099392, 17716740096), (98, 79228162514264337593543950336, 42949672960), (99, 158456325028528675187087900800, 68719476736), (100, 158456325028528675187087901184, 68719476736), (101, 1109194275199700726309615304704, 481036337152), (102, 158456325028528675187087902720, 68719476736), (103, 3961408125713216879677197516800, 1717986918400), (104, 158456325028528675187087908864, 68719476736), (105, 15370263527767281493147526365184, 6665789243392), (106, 20440865928680199099134339186688, 8864812498944), (107, 40723275532331869523081590472704, 17660905521152)] (fun hT133 => ?_)
    have hEw9 : Ext w8 w8.drew := Ext.drew w8
    generalize w8.drew = w9 at hEw9 ⊢
    have hzw9 := hEw9.size
    refine anyM_run hT133 [(0, 61, (vI 2)), (1, 62, vF), (2, 63, vF), (3, 64, (vI 3)), (4, 65, vF), (5, 66, vF), (6, 67, vF), (7, 68, (vI 16)), (8, 69, vF), (9, 70, vF), (10, 71, vF), (11, 72, (.slice a1 (hgt 17 + 1) (hgt 17 + 1))), (12, 73, (vI (hgt 17 + 1)))] 13 8191 (anyM_take hT133 13 16383 (some 74) vF (yld_b (((hgt 17 + 1 : Nat) : Int) != ((3 : Nat) : Int)) (cmpNeF (by decide))) (anyM_run hT133 [(14, 75, vF), (15, 76, vF), (16, 77, (.slice a1 (hgt 17 + 1) (hgt 17 + 1)))] 3 131071 ?_))
    obtain ⟨b1, o1, rfl⟩ := hFz5_0.addr (by omega) (by decide)
    refine anyM_take hT133 17 262143 (some 78) (vP b1 (o1 + 0 * 2)) (yld_val (Instr.indexAt 54 (.slice (pA b1 o1) (hgt 17 + 1) (hgt 17 + 1)) (vI 0)) (fun w' hC => rn_ixs (E := 45) (sz := 2) (by omega))) (anyM_take hT133 18 524287 (some 79) (vA [(vI (((pathL 17 16).getD 0 (0, 0)).1)), (vI (((pathL 17 16).getD 0 (0, 0)).2))]) (yld_val (Instr.loadAt 45 (vP b1 (o1 + 0 * 2))) (fun w' hC => rn_lda (vs := [(vI (((pathL 17 16).getD 0 (0, 0)).1)), (vI (((pathL 17 16).getD 0 (0, 0)).2))]) (((hFz5_0.ext hEw9).ext hC).at (0, 0) (by omega)))) (anyM_one 19 1048575 (op_call (some 80) (c_place 2 0 _) ?_)))
    rintro _ w10 ⟨rfl, hEw10⟩
    have hzw10 := hEw10.size
    refine ⟨.inr hEw10, ?_⟩
    refine anyM_take (hw := show Ext w9 w10 from hEw10) hT133 20 2097151 (some 81) vF (yld_val (bo .neq 45 (.tmp 79) (.tmp 80) (vA [(vI (((pathL 17 16).getD 0 (0, 0)).1)), (vI (((pathL 17 16).getD 0 (0, 0)).2))]) (vA [(vI 2), (vI 0)])) (fun w' hC => run_neqAgg (r := true) (T := 45) ((run_eq_flat (dd := 9998) (t := 45) [(vI (((pathL 17 16).getD 0 (0, 0)).1)), (vI (((pathL 17 16).getD 0 (0, 0)).2))] [(vI 2), (vI 0)]).trans (congrArg (fun b => Result.ok b _) (show (eqvs [(vI (((pathL 17 16).getD 0 (0, 0)).1)), (vI (((pathL 17 16).getD 0 (0, 0)).2))] [(vI 2), (vI 0)]) = true from by kernel_rfl))))) (anyM_run (hw := show Ext w9 w10 from hEw10) hT133 [(21, 82, vF), (22, 83, vF), (23, 84, (.slice (pA b1 o1) (hgt 17 + 1) (hgt 17 + 1)))] 3 16777215 (anyM_take (hw := show Ext w9 w10 from hEw10) hT133 24 33554431 (some 85) (vP b1 (o1 + 1 * 2)) (yld_val (Instr.indexAt 54 (.slice (pA b1 o1) (hgt 17 + 1) (hgt 17 + 1)) (vI 1)) (fun w' hC => rn_ixs (E := 45) (sz := 2) (by omega))) (anyM_take (hw := show Ext w9 w10 from hEw10) hT133 25 67108863 (some 86) (vA [(vI (((pathL 17 16).getD 1 (0, 0)).1)), (vI (((pathL 17 16).getD 1 (0, 0)).2))]) (yld_val (Instr.loadAt 45 (vP b1 (o1 + 1 * 2))) (fun w' hC => rn_lda (vs := [(vI (((pathL 17 16).getD 1 (0, 0)).1)), (vI (((pathL 17 16).getD 1 (0, 0)).2))]) (((hFz5_0.ext hEw9).ext hC).at (0, 0) (by omega)))) (anyM_one 26 134217727 (op_call (some 87) (c_place 1 1 _) ?_)))))
    rintro _ w11 ⟨rfl, hEw11⟩
    have hzw11 := hEw11.size
    refine ⟨.inr (hEw10.trans hEw11), ?_⟩
    refine anyM_take (hw := show Ext w9 w11 from (hEw10.trans hEw11)) hT133 27 268435455 (some 88) vF (yld_val (bo .neq 45 (.tmp 86) (.tmp 87) (vA [(vI (((pathL 17 16).getD 1 (0, 0)).1)), (vI (((pathL 17 16).getD 1 (0, 0)).2))]) (vA [(vI 1), (vI 1)])) (fun w' hC => run_neqAgg (r := true) (T := 45) ((run_eq_flat (dd := 9998) (t := 45) [(vI (((pathL 17 16).getD 1 (0, 0)).1)), (vI (((pathL 17 16).getD 1 (0, 0)).2))] [(vI 1), (vI 1)]).trans (congrArg (fun b => Result.ok b _) (show (eqvs [(vI (((pathL 17 16).getD 1 (0, 0)).1)), (vI (((pathL 17 16).getD 1 (0, 0)).2))] [(vI 1), (vI 1)]) = true from by kernel_rfl))))) (anyM_run (hw := show Ext w9 w11 from (hEw10.trans hEw11)) hT133 [(28, 89, vF), (29, 90, vF), (30, 91, (.slice (pA b1 o1) (hgt 17 + 1) (hgt 17 + 1)))] 3 2147483647 (anyM_take (hw := show Ext w9 w11 from (hEw10.trans hEw11)) hT133 31 4294967295 (some 92) (vP b1 (o1 + 2 * 2)) (yld_val (Instr.indexAt 54 (.slice (pA b1 o1) (hgt 17 + 1) (hgt 17 + 1)) (vI 2)) (fun w' hC => rn_ixs (E := 45) (sz := 2) (by omega))) (anyM_take (hw := show Ext w9 w11 from (hEw10.trans hEw11)) hT133 32 8589934591 (some 93) (vA [(vI (((pathL 17 16).getD 2 (0, 0)).1)), (vI (((pathL 17 16).getD 2 (0, 0)).2))]) (yld_val (Instr.loadAt 45 (vP b1 (o1 + 2 * 2))) (fun w' hC => rn_lda (vs := [(vI (((pathL 17 16).getD 2 (0, 0)).1)), (vI (((pathL 17 16).getD 2 (0, 0)).2))]) (((hFz5_0.ext hEw9).ext hC).at (0, 0) (by omega)))) (anyM_one 33 17179869183 (op_call (some 94) (c_place 0 4 _) ?_)))))
    rintro _ w12 ⟨rfl, hEw12⟩
    have hzw12 := hEw12.size
    refine ⟨.inr ((hEw10.trans hEw11).trans hEw12), ?_⟩
    refine anyM_take (hw := show Ext w9 w12 from ((hEw10.trans hEw11).trans hEw12)) hT133 34 34359738367 (some 95) vF (yld_val (bo .neq 45 (.tmp 93) (.tmp 94) (vA [(vI (((pathL 17 16).getD 2 (0, 0)).1)), (vI (((pathL 17 16).getD 2 (0, 0)).2))]) (vA [(vI 0), (vI 4)])) (fun w' hC => run_neqAgg (r := true) (T := 45) ((run_eq_flat (dd := 9998) (t := 45) [(vI (((pathL 17 16).getD 2 (0, 0)).1)), (vI (((pathL 17 16).getD 2 (0, 0)).2))] [(vI 0), (vI 4)]).trans (congrArg (fun b => Result.ok b _) (show (eqvs [(vI (((pathL 17 16).getD 2 (0, 0)).1)), (vI (((pathL 17 16).getD 2 (0, 0)).2))] [(vI 0), (vI 4)]) = true from by kernel_rfl))))) (anyM_run (hw := show Ext w9 w12 from ((hEw10.trans hEw11).trans hEw12)) hT133 [(35, 96, vF), (36, 97, vF), (37, 98, (vI 0)), (38, 99, (vI 0))] 4 549755813887 (anyM_take (hw := show Ext w9 w12 from ((hEw10.trans hEw11).trans hEw12)) hT133 39 1099511627775 (some 100) (vI 0) (yld_in .i64 (IntKind.i64.wrap (((0 : Nat) : Int) + ((0 : Nat) : Int))) (wrapS (by omega) (by omega) (by omega))) (anyM_run (hw := show Ext w9 w12 from ((hEw10.trans hEw11).trans hEw12)) hT133 [(40, 101, (vI 0))] 1 2199023255551 (anyM_take (hw := show Ext w9 w12 from ((hEw10.trans hEw11).trans hEw12)) hT133 41 4398046511103 (some 102) (vI 0) (yld_in .i64 (IntKind.i64.wrap (((0 : Nat) : Int) + ((0 : Nat) : Int))) (wrapS (by omega) (by omega) (by omega))) (anyM_run (hw := show Ext w9 w12 from ((hEw10.trans hEw11).trans hEw12)) hT133 [(42, 103, (vI 0))] 1 8796093022207 ?_)))))
    refine anyM_take (hw := show Ext w9 w12 from ((hEw10.trans hEw11).trans hEw12)) hT133 43 17592186044415 (some 104) (vI 0) (yld_in .i64 (IntKind.i64.wrap (((0 : Nat) : Int) + ((0 : Nat) : Int))) (wrapS (by omega) (by omega) (by omega))) (anyM_run (hw := show Ext w9 w12 from ((hEw10.trans hEw11).trans hEw12)) hT133 [(44, 105, vF), (45, 106, vF)] 2 70368744177663 (anyM_done (then_code (wpC_false (wpC_skip (then_code (wpC_seq (wpC_region (wpF_step (op_call (some 108) (c_Parts 17 1 1 _ (by first | omega | decide) (by first | omega | decide) (by first | omega | decide) (by first | omega | decide)) ?_))))))))))
    rintro _ w13 ⟨rfl, hEw13⟩
    have hzw13 := hEw13.size
    rw [show prt 17 1 1 = 1 from by kernel_rfl]
    refine wpF_run 5 [(7, (vI 0)), (6, (vI 1)), (110, (vI 0)), (109, (vI 1)), (107, (.tuple #[(vI 1), (vI 0)]))] (wpF_end (then_code (wpC_seq (wpC_region (wpF_step (op_call (some 112) (c_Parts 17 2 0 _ (by first | omega | decide) (by first | omega | decide) (by first | omega | decide) (by first | omega | decide)) ?_))))))
    rintro _ w14 ⟨rfl, hEw14⟩
    have hzw14 := hEw14.size
    rw [show prt 17 2 0 = 2 from by kernel_rfl]
    refine wpF_run 5 [(9, (vI 0)), (8, (vI 2)), (114, (vI 0)), (113, (vI 2)), (111, (.tuple #[(vI 2), (vI 0)]))] (wpF_end (then_code (wpC_seq (wpC_region (wpF_step (op_call (some 116) (c_place 1 1 _) ?_))))))
    rintro _ w15 ⟨rfl, hEw15⟩
    have hzw15 := hEw15.size
    refine wpF_step (op_call (some 117) (c_Blocks 17 1 1 _ (by first | omega | decide) (by first | omega | decide) (by first | omega | decide) (by first | omega | decide)) ?_)
    rintro _ w16 ⟨rfl, hEw16⟩
    have hzw16 := hEw16.size
    rw [show 1 * wid 1 = 16 from by kernel_rfl]
    rw [show min 17 ((1 + 1) * wid 1) = 17 from by kernel_rfl]
    refine wpF_run 7 [(11, (vI 0)), (15, (vI 17)), (14, (vI 16)), (120, (vI 0)), (119, (vI 17)), (118, (vI 16)), (115, (.tuple #[(vI 16), (vI 17), (vI 0)]))] (wpF_end (then_code (wpC_seq (wpC_seq (wpC_region (wpF_run 17 [(137, (vI 0)), (136, (vI 0)), (135, vF), (134, vF), (133, vF), (132, (vI 17)), (131, vF), (130, vF), (129, vF), (128, (vI 16)), (127, vF), (126, vF), (125, vF), (124, (vI 2)), (123, vF), (122, vF), (121, (vI 1))] (wpF_step (op_in (some 138) .i64 (IntKind.i64.wrap (((0 : Nat) : Int) + ((0 : Nat) : Int))) 0 (wrapS (by omega) (by omega) (by omega)) ?_))))))))
    refine wpF_run 1 [(139, (vI 0))] (wpF_step (op_in (some 140) .i64 (IntKind.i64.wrap (((0 : Nat) : Int) + ((0 : Nat) : Int))) 0 (wrapS (by omega) (by omega) (by omega)) ?_))
    refine wpF_run 2 [(142, vF), (141, vF)] (wpF_end (then_code (wpC_false (wpC_skip (then_code (wpC_seq (wpC_region (wpF_step (op_call (some 144) (c_Data 5 4 1 _ (by first | omega | decide) (by first | omega | decide) (by first | omega | decide) (by first | omega | decide)) ?_)))))))))
    rintro _ w17 ⟨rfl, hEw17⟩
    have hzw17 := hEw17.size
    rw [show 2 * 4 + 1 = 9 from by kernel_rfl]
    refine wpF_run 5 [(7, (vI 0)), (6, (vI 9)), (146, (vI 0)), (145, (vI 9)), (143, (.tuple #[(vI 9), (vI 0)]))] (wpF_end (then_code (wpC_seq (wpC_region (wpF_step (op_call (some 148) (c_Node 5 0 1 0 _ (by first | omega | decide) (by first | omega | decide) (by first | omega | decide) (by first | omega | decide) (by first | omega | decide)) ?_))))))
    rintro _ w18 ⟨rfl, hEw18⟩
    have hzw18 := hEw18.size
    rw [show bas 5 0 + 2 * 1 + 0 = 12 from by kernel_rfl]
    refine wpF_run 5 [(9, (vI 0)), (8, (vI 12)), (150, (vI 0)), (149, (vI 12)), (147, (.tuple #[(vI 12), (vI 0)]))] (wpF_end (then_code (wpC_seq (wpC_region (wpF_step (op_call (some 152) (c_Node 5 1 0 1 _ (by first | omega | decide) (by first | omega | decide) (by first | omega | decide) (by first | omega | decide) (by first | omega | decide)) ?_))))))
    rintro _ w19 ⟨rfl, hEw19⟩
    have hzw19 := hEw19.size
    rw [show bas 5 1 + 2 * 0 + 1 = 15 from by kernel_rfl]
    refine wpF_run 5 [(11, (vI 0)), (10, (vI 15)), (154, (vI 0)), (153, (vI 15)), (151, (.tuple #[(vI 15), (vI 0)]))] (wpF_end (then_code (wpC_seq (wpC_region (wpF_step (op_call (some 156) (c_OfData 5 9 _ (by first | omega | decide) (by first | omega | decide) (by first | omega | decide)) ?_))))))
    rintro _ w20 ⟨rfl, hEw20⟩
    have hzw20 := hEw20.size
    rw [show 9 / 2 = 4 from by kernel_rfl]
    rw [show 9 % 2 = 1 from by kernel_rfl]
    refine wpF_run 3 [(158, (vI 0)), (157, (vA [vT, (vI 0), (vI 4), (vI 1)])), (155, (.tuple #[(vA [vT, (vI 0), (vI 4), (vI 1)]), (vI 0)]))] (wpF_step (op_new (some 16) (Instr.alloc 31 true (.tuple #[])) (vP w20.heap.size 0) ([vF, (vI 0), (vI 0), (vI 0)]) 31 ?_))
    intro w21 hBw21 hEw21
    have hzw21 := hEw21.size; have hlw21 := hBw21.lt
    refine wpF_step (op_store 31 w20.heap.size 0 31 (vA [vT, (vI 0), (vI 4), (vI 1)]) ([vF, (vI 0), (vI 0), (vI 0)]) ([vT, (vI 0), (vI 4), (vI 1)]) hBw21 (by kernel_rfl) (by first | decide | (simp; done) | (simp; omega)) (by simp [Value.oneCell']) ?_)
    intro w22 hBw22 hCw22
    have hzw22 := hCw22.size
    rw [setFrom_all _ _ (by kernel_rfl)] at hBw22
    refine wpF_run 1 [(13, (vI 0))] (wpF_end (then_code (wpC_seq (wpC_region (wpF_step (op_call (some 160) (c_OfNode 5 13 _ (by first | omega | decide) (by first | omega | decide) (by first | omega | decide) (by first | omega | decide)) ?_))))))
    rintro _ w23 ⟨rfl, hEw23⟩
    have hzw23 := hEw23.size
    rw [show lev 5 13 = 0 from by kernel_rfl]
    rw [show (13 - bas 5 0) / 2 = 1 from by kernel_rfl]
    rw [show (13 - bas 5 0) % 2 = 1 from by kernel_rfl]
    refine wpF_run 3 [(162, (vI 0)), (161, (vA [vF, (vI 0), (vI 1), (vI 1)])), (159, (.tuple #[(vA [vF, (vI 0), (vI 1), (vI 1)]), (vI 0)]))] (wpF_step (op_new (some 17) (Instr.alloc 31 true (.tuple #[])) (vP w23.heap.size 0) ([vF, (vI 0), (vI 0), (vI 0)]) 31 ?_))
    intro w24 hBw24 hEw24
    have hzw24 := hEw24.size; have hlw24 := hBw24.lt
    refine wpF_step (op_store 31 w23.heap.size 0 31 (vA [vF, (vI 0), (vI 1), (vI 1)]) ([vF, (vI 0), (vI 0), (vI 0)]) ([vF, (vI 0), (vI 1), (vI 1)]) hBw24 (by kernel_rfl) (by first | decide | (simp; done) | (simp; omega)) (by simp [Value.oneCell']) ?_)
    intro w25 hBw25 hCw25
    have hzw25 := hCw25.size
    rw [setFrom_all _ _ (by kernel_rfl)] at hBw25
    refine wpF_run 1 [(18, (vI 0))] (wpF_end (then_code (wpC_seq (wpC_region (wpF_step (op_call (some 164) (c_OfBad ((5 : Nat) : Int) ((16 : Nat) : Int) _ (by first | omega | decide)) ?_))))))
    rintro _ w26 ⟨rfl, hEw26⟩
    have hzw26 := hEw26.size
    refine wpF_run 3 [(166, (vI 1)), (165, (vA [vF, (vI 0), (vI 0), (vI 0)])), (163, (.tuple #[(vA [vF, (vI 0), (vI 0), (vI 0)]), (vI 1)]))] (wpF_step (op_new (some 19) (Instr.alloc 31 true (.tuple #[])) (vP w26.heap.size 0) ([vF, (vI 0), (vI 0), (vI 0)]) 31 ?_))
    intro w27 hBw27 hEw27
    have hzw27 := hEw27.size; have hlw27 := hBw27.lt
    refine wpF_step (op_store 31 w26.heap.size 0 31 (vA [vF, (vI 0), (vI 0), (vI 0)]) ([vF, (vI 0), (vI 0), (vI 0)]) ([vF, (vI 0), (vI 0), (vI 0)]) hBw27 (by kernel_rfl) (by first | decide | (simp; done) | (simp; omega)) (by simp [Value.oneCell']) ?_)
    intro w28 hBw28 hCw28
    have hzw28 := hCw28.size
    rw [setFrom_all _ _ (by kernel_rfl)] at hBw28
    refine wpF_run 1 [(20, (vI 1))] (wpF_end (then_code (wpC_seq (wpC_seq (wpC_region (wpF_run 13 [(179, (vI 0)), (178, (vI 0)), (177, vF), (176, vF), (175, vF), (174, (vI 15)), (173, vF), (172, vF), (171, vF), (170, (vI 12)), (169, vF), (168, vF), (167, (vI 9))] (wpF_step (op_in (some 180) .i64 (IntKind.i64.wrap (((0 : Nat) : Int) + ((0 : Nat) : Int))) 0 (wrapS (by omega) (by omega) (by omega)) ?_))))))))
    refine wpF_run 1 [(181, (vI 0))] (wpF_step (op_in (some 182) .i64 (IntKind.i64.wrap (((0 : Nat) : Int) + ((0 : Nat) : Int))) 0 (wrapS (by omega) (by omega) (by omega)) ?_))
    refine wpF_run 1 [(183, (vI 0))] (wpF_step (op_in (some 184) .i64 (IntKind.i64.wrap (((0 : Nat) : Int) + ((0 : Nat) : Int))) 0 (wrapS (by omega) (by omega) (by omega)) ?_))
    refine wpF_run 1 [(185, (vI 0))] (wpF_step (op_in (some 186) .i64 (IntKind.i64.wrap (((0 : Nat) : Int) + ((0 : Nat) : Int))) 0 (wrapS (by omega) (by omega) (by omega)) ?_))
    refine wpF_run 7 [(193, vF), (192, vF), (191, vF), (190, (vI 1)), (189, vF), (188, vF), (187, vF)] ?_
    have hK1 := (((((((((((hBw22.ext hEw23)).ext hEw24)).chg hCw25 (fun hs => by have h : _ = _ := hs; omega))).ext hEw26)).ext hEw27)).chg hCw28 (fun hs => by have h : _ = _ := hs; omega))
    refine wpF_step (op_v (some 194) (Instr.loadAt 31 (vP w20.heap.size 0)) (vA [vT, (vI 0), (vI 4), (vI 1)]) (rn_lda (vs := [vT, (vI 0), (vI 4), (vI 1)]) (hK1.all)) ?_)
    refine wpF_run 1 [(195, (vA [vT, (vI 0), (vI 4), (vI 1)]))] (wpF_step (op_v (some 196) (bo .neq 31 (.tmp 194) (.tmp 195) (vA [vT, (vI 0), (vI 4), (vI 1)]) (vA [vT, (vI 0), (vI 4), (vI 1)])) vF (run_neqAgg (r := true) (T := 31) ((run_eq_flat (dd := 9998) (t := 31) [vT, (vI 0), (vI 4), (vI 1)] [vT, (vI 0), (vI 4), (vI 1)]).trans (congrArg (fun b => Result.ok b _) (show (eqvs [vT, (vI 0), (vI 4), (vI 1)] [vT, (vI 0), (vI 4), (vI 1)]) = true from by kernel_rfl)))) ?_))
    refine wpF_run 2 [(198, vF), (197, vF)] ?_
    have hK2 := (((((hBw25.ext hEw26)).ext hEw27)).chg hCw28 (fun hs => by have h : _ = _ := hs; omega))
    refine wpF_step (op_v (some 199) (Instr.loadAt 31 (vP w23.heap.size 0)) (vA [vF, (vI 0), (vI 1), (vI 1)]) (rn_lda (vs := [vF, (vI 0), (vI 1), (vI 1)]) (hK2.all)) ?_)
    refine wpF_run 1 [(200, (vA [vF, (vI 0), (vI 1), (vI 1)]))] (wpF_step (op_v (some 201) (bo .neq 31 (.tmp 199) (.tmp 200) (vA [vF, (vI 0), (vI 1), (vI 1)]) (vA [vF, (vI 0), (vI 1), (vI 1)])) vF (run_neqAgg (r := true) (T := 31) ((run_eq_flat (dd := 9998) (t := 31) [vF, (vI 0), (vI 1), (vI 1)] [vF, (vI 0), (vI 1), (vI 1)]).trans (congrArg (fun b => Result.ok b _) (show (eqvs [vF, (vI 0), (vI 1), (vI 1)] [vF, (vI 0), (vI 1), (vI 1)]) = true from by kernel_rfl)))) ?_))
    refine wpF_run 1 [(202, vF)] (wpF_end (then_code (wpC_false (wpC_skip (then_code (wpC_seq (wpC_region (wpF_step (op_call (some 204) (c_place 2 0 _) ?_)))))))))
    rintro _ w29 ⟨rfl, hEw29⟩
    have hzw29 := hEw29.size
    refine wpF_step (op_call (some 205) (c_ChildNone 17 2 0 2 _ (by first | omega | decide) (by first | omega | decide) (by first | omega | decide) (by first | omega | decide) (by first | omega | decide) (by first | omega | decide) (by first | omega | decide)) ?_)
    rintro _ w30 ⟨rfl, hEw30⟩
    have hzw30 := hEw30.size
    refine wpF_run 4 [(7, (vI 11)), (207, (vI 11)), (206, (vA [(vI 0), (vI 0)])), (203, (.tuple #[(vA [(vI 0), (vI 0)]), (vI 11)]))] (wpF_end (then_code (wpC_seq (wpC_region (wpF_step (op_call (some 209) (c_place 0 0 _) ?_))))))
    rintro _ w31 ⟨rfl, hEw31⟩
    have hzw31 := hEw31.size
    refine wpF_step (op_call (some 210) (c_ChildLeaf 17 0 0 0 _ (by first | omega | decide) (by first | omega | decide) (by first | omega | decide) (by first | omega | decide) (by first | omega | decide) (by first | omega | decide)) ?_)
    rintro _ w32 ⟨rfl, hEw32⟩
    have hzw32 := hEw32.size
    refine wpF_run 4 [(9, (vI 11)), (212, (vI 11)), (211, (vA [(vI 0), (vI 0)])), (208, (.tuple #[(vA [(vI 0), (vI 0)]), (vI 11)]))] (wpF_end (then_code (wpC_seq (wpC_region (wpF_step (op_call (some 214) (c_place 2 0 _) ?_))))))
    rintro _ w33 ⟨rfl, hEw33⟩
    have hzw33 := hEw33.size
    refine wpF_step (op_call (some 215) (c_ParentTop 17 2 0 _ (by first | omega | decide) (by first | omega | decide) (by first | omega | decide) (by first | omega | decide) (by first | omega | decide)) ?_)
    rintro _ w34 ⟨rfl, hEw34⟩
    have hzw34 := hEw34.size
    refine wpF_run 5 [(11, (vI 11)), (218, (vI 11)), (217, (vI 0)), (216, (vA [(vI 0), (vI 0)])), (213, (.tuple #[(vA [(vI 0), (vI 0)]), (vI 0), (vI 11)]))] (wpF_end (then_code (wpC_seq (wpC_region (wpF_run 11 [(0, vT), (228, vT), (227, vT), (226, (vI 11)), (225, vT), (224, vT), (223, vT), (222, (vI 11)), (221, vT), (220, vT), (219, (vI 11))] (wpF_end (then_code (wpC_ret (body_rets vT ?_)))))))))
    have hX1 : Ext w w34 := (((((((Ext.own (((Ext.own (((Ext.own (((((((((((((((((((hEw1.trans hEw2).trans hEl).trans hEw5).trans hEw6).trans hEw7).trans hEw8).trans hEw9).trans hEw10).trans hEw11).trans hEw12).trans hEw13).trans hEw14).trans hEw15).trans hEw16).trans hEw17).trans hEw18).trans hEw19).trans hEw20).trans hEw21) hCw22 (by omega)).trans hEw23).trans hEw24) hCw25 (by omega)).trans hEw26).trans hEw27) hCw28 (by omega)).trans hEw29).trans hEw30).trans hEw31).trans hEw32).trans hEw33).trans hEw34)
    exact ⟨rfl, hX1⟩

theorem c_ShapesSectors (k : Nat) (f : Nat)  (w : World) (hp0 : k < 65536) (hp1 : f < 65536) :
    Calls Try.prog 3 #[(vA [(vH k)]), (vH f)] w (Ret fun r w' => r = vT ∧ Ext w w') := by
  refine calls_of (n := 146) (σ := [(0, (vA [(vH k)])), (1, (vH f))]) Try.func3 rfl ?_
  have hn1 := nof_pos k
  have hn2 := nof_le k
  have h5 := hgt_le (nof k)
  have hbg0 := bas_ge (nof k) (hgt (nof k) + 1)
  refine wpC_seq (wpC_region (wpF_step (op_new (some 2) (Instr.box 24 (vA [(vH k)])) (vP w.heap.size 0) ([(vH k)]) 24 ?_)))
  intro w1 hBw1 hEw1
  have hzw1 := hEw1.size; have hlw1 := hBw1.lt
  refine wpF_run 1 [(4, vF)] (wpF_end (then_code (wpC_seq (wpC_region (wpF_step (op_v (some 15) (Instr.loadAt 24 (vP w.heap.size 0)) (vA [(vH k)]) (rn_lda (vs := [(vH k)]) (hBw1.all)) ?_))))))
  refine wpF_step (op_call (some 16) (c_NOf k _ (by omega)) ?_)
  rintro _ w2 ⟨rfl, hEw2⟩
  have hzw2 := hEw2.size
  refine wpF_run 1 [(5, (vI (nof k)))] (wpF_end (then_code (wpC_seq (wpC_region (wpF_run 1 [(18, (vI (nof k)))] (wpF_step (op_call (some 19) (c_Sectors (nof k) _ (by omega) (by omega)) ?_)))))))
  rintro _ w3 ⟨rfl, hEw3⟩
  have hzw3 := hEw3.size
  refine wpF_run 5 [(7, (vI 0)), (6, (vI (bas (nof k) (hgt (nof k) + 1)))), (21, (vI 0)), (20, (vI (bas (nof k) (hgt (nof k) + 1)))), (17, (.tuple #[(vI (bas (nof k) (hgt (nof k) + 1))), (vI 0)]))] (wpF_end (then_code (wpC_seq (wpC_seq (wpC_region (wpF_run 1 [(22, (vI 0))] (wpF_step (op_b (some 23) (((0 : Nat) : Int) != ((0 : Nat) : Int)) false (cmpNeF (by omega)) ?_))))))))
  refine wpF_run 2 [(25, (vI (bas (nof k) (hgt (nof k) + 1)))), (24, vF)] (wpF_step (op_b (some 26) (decide (((bas (nof k) (hgt (nof k) + 1) : Nat) : Int) < ((1 : Nat) : Int))) false (cmpDF (by omega)) ?_))
  refine wpF_run 4 [(30, (vI (nof k))), (29, (vI (bas (nof k) (hgt (nof k) + 1)))), (28, vF), (27, vF)] (wpF_step (op_call (some 31) (c_rSectors (nof k) _ (by omega) (by omega)) ?_))
  rintro _ _ ⟨rfl, rfl⟩
  refine wpF_step (op_b (some 32) (((bas (nof k) (hgt (nof k) + 1) : Nat) : Int) != ((bas (nof k) (hgt (nof k) + 1) : Nat) : Int)) false (cmpNeF (by omega)) ?_)
  refine wpF_run 1 [(33, vF)] (wpF_end (then_code (wpC_false (wpC_skip (then_code (wpC_seq (wpC_seq (wpC_region (wpF_run 1 [(8, (vI 0))] ?_)))))))))
  refine wpF_end (then_code (wpC_block (wpC_loop (X := Nat) (fun v => [(8, (vI v))]) [4, 9, 10, 11, 12, 13, 14, 34, 35, 36, 37, 38, 39, 40, 41, 42, 43, 44, 45, 46, 47, 48, 49, 50, 51, 52, 53, 54, 55, 56, 57, 58, 59, 60, 61, 62, 63, 64, 65, 66, 67, 68, 69, 70, 71, 72, 73, 74, 75, 76, 77, 78, 79, 80, 81, 82, 83, 84, 85, 86, 87, 88, 89, 90, 91, 92, 93, 94, 95, 96, 97, 98, 99, 100, 101, 102, 103, 104, 105, 106, 107, 108, 109, 110, 111, 112, 113, 114, 115, 116, 117, 118, 119, 120, 121, 122, 123, 124, 125, 126, 127, 128, 129, 130, 131, 132, 133, 134, 135, 136, 137, 138, 139, 140, 141, 142, 143, 144] (fun v w4 => v ≤ 40 ∧ Ext w3 w4) (fun v => 40 - v) 0 (by kernel_rfl) ⟨by omega, Ext.refl _⟩ ?_)))
  rintro v dw4 w4 ⟨hv, hEl⟩
  have hzl := hEl.size
  have hbs := bas_small (l := hgt (nof k) + 1) hn2 (by omega)
  have hbg := bas_ge (nof k) (hgt (nof k) + 1)
  have hsl := Nat.mod_lt (f + v) (show 0 < bas (nof k) (hgt (nof k) + 1) by omega)
  refine wpC_seq (wpC_seq (wpC_region (wpF_run 1 [(34, (vI v))] (wpF_step (op_split (some 35) (decide (((v : Nat) : Int) < ((40 : Nat) : Int))) (fun hc35 => ?_) (fun hc35 => ?_))))))
  · replace hc35 : v < 40 := by have := of_d_t hc35; omega
    refine wpF_end (then_code (wpC_true (wpC_skip (then_code (wpC_seq (wpC_block (wpC_seq (wpC_region (wpF_run 1 [(38, (vH f))] ?_)))))))))
    refine wpF_step (op_in (some 39) .i64 (IntKind.i64.wrap ((f : Nat) : Int)) f (wrapS rfl (by omega) (by omega)) ?_)
    refine wpF_run 1 [(40, (vI v))] (wpF_step (op_in (some 41) .i64 (IntKind.i64.wrap (((f : Nat) : Int) + ((v : Nat) : Int))) (f + v) (wrapS (by omega) (by omega) (by omega)) ?_))
    refine wpF_run 1 [(42, (vI (bas (nof k) (hgt (nof k) + 1))))] (wpF_step (op_v (some 43) (bo .rem 3 (.tmp 41) (.tmp 42) (vI (f + v)) (vI (bas (nof k) (hgt (nof k) + 1)))) (vI ((f + v) % (bas (nof k) (hgt (nof k) + 1)))) (run_rem (by omega)) ?_))
    obtain ⟨s, hs⟩ : ∃ s, s = (f + v) % (bas (nof k) (hgt (nof k) + 1)) := ⟨_, rfl⟩
    rw [← hs] at hsl ⊢
    refine wpF_run 1 [(9, (vI s))] (wpF_end (then_code (wpC_seq (wpC_region (wpF_run 2 [(46, (vI s)), (45, (vI (nof k)))] ?_)))))
    by_cases hd : s < 2 * nof k
    · refine wpF_step (op_call (some 47) (c_OfData (nof k) s _ (by omega) (by omega) (by omega)) ?_)
      rintro _ w5 ⟨rfl, hEw5⟩
      have hzw5 := hEw5.size
      refine wpF_run 3 [(49, (vI 0)), (48, (vA [vT, (vI 0), (vI (s / 2)), (vI (s % 2))])), (44, (.tuple #[(vA [vT, (vI 0), (vI (s / 2)), (vI (s % 2))]), (vI 0)]))] (wpF_step (op_new (some 10) (Instr.alloc 31 true (.tuple #[])) (vP w5.heap.size 0) ([vF, (vI 0), (vI 0), (vI 0)]) 31 ?_))
      intro w6 hBw6 hEw6
      have hzw6 := hEw6.size; have hlw6 := hBw6.lt
      refine wpF_step (op_store 31 w5.heap.size 0 31 (vA [vT, (vI 0), (vI (s / 2)), (vI (s % 2))]) ([vF, (vI 0), (vI 0), (vI 0)]) ([vT, (vI 0), (vI (s / 2)), (vI (s % 2))]) hBw6 (by kernel_rfl) (by first | decide | (simp; done) | (simp; omega)) (by simp [Value.oneCell']) ?_)
      intro w7 hBw7 hCw7
      have hzw7 := hCw7.size
      rw [setFrom_all _ _ (by kernel_rfl)] at hBw7
      refine wpF_run 1 [(11, (vI 0))] (wpF_end (then_code (wpC_seq (wpC_seq (wpC_region (wpF_run 1 [(50, (vI 0))] (wpF_step (op_b (some 51) (((0 : Nat) : Int) != ((0 : Nat) : Int)) false (cmpNeF (by omega)) ?_))))))))
      refine wpF_run 2 [(53, (vP w5.heap.size 3)), (52, vF)] (wpF_step (op_v (some 54) (Instr.loadAt 3 (vP w5.heap.size 3)) (vI (s % 2)) (rn_ld (hBw7.cell rfl)) ?_))
      refine wpF_step (op_b (some 55) (decide (((s % 2 : Nat) : Int) < ((0 : Nat) : Int))) false (cmpDF (by omega)) ?_)
      refine wpF_run 3 [(58, (vP w5.heap.size 3)), (57, vF), (56, vF)] (wpF_step (op_v (some 59) (Instr.loadAt 3 (vP w5.heap.size 3)) (vI (s % 2)) (rn_ld (hBw7.cell rfl)) ?_))
      refine wpF_step (op_b (some 60) (decide (((s % 2 : Nat) : Int) > ((1 : Nat) : Int))) false (cmpDF (by omega)) ?_)
      refine wpF_run 1 [(61, vF)] (wpF_end (then_code (wpC_false (wpC_skip (then_code (wpC_seq (wpC_seq (wpC_region (wpF_run 1 [(62, (vP w5.heap.size 0))] ?_)))))))))
      refine wpF_step (op_v (some 63) (Instr.loadAt 4 (vP w5.heap.size 0)) vT (rn_ld (hBw7.cell rfl)) ?_)
      refine wpF_end (then_code (wpC_true (wpC_seq (wpC_region (wpF_run 2 [(66, (vP w5.heap.size 2)), (65, (vI (nof k)))] (wpF_step (op_v (some 67) (Instr.loadAt 3 (vP w5.heap.size 2)) (vI (s / 2)) (rn_ld (hBw7.cell rfl)) ?_)))))))
      refine wpF_run 1 [(68, (vP w5.heap.size 3))] (wpF_step (op_v (some 69) (Instr.loadAt 3 (vP w5.heap.size 3)) (vI (s % 2)) (rn_ld (hBw7.cell rfl)) ?_))
      refine wpF_step (op_call (some 70) (c_Data (nof k) (s / 2) (s % 2) _ (by omega) (by omega) (by omega) (by omega)) ?_)
      rintro _ w8 ⟨rfl, hEw8⟩
      have hzw8 := hEw8.size
      refine wpF_run 5 [(13, (vI 0)), (12, (vI (2 * (s / 2) + (s % 2)))), (72, (vI 0)), (71, (vI (2 * (s / 2) + (s % 2)))), (64, (.tuple #[(vI (2 * (s / 2) + (s % 2))), (vI 0)]))] (wpF_end (then_code (wpC_seq (wpC_seq (wpC_region (wpF_run 1 [(73, (vI 0))] (wpF_step (op_b (some 74) (((0 : Nat) : Int) != ((0 : Nat) : Int)) false (cmpNeF (by omega)) ?_))))))))
      refine wpF_run 3 [(77, (vI s)), (76, (vI (2 * (s / 2) + (s % 2)))), (75, vF)] (wpF_step (op_b (some 78) (((2 * (s / 2) + (s % 2) : Nat) : Int) != ((s : Nat) : Int)) false (cmpNeF (by omega)) ?_))
      refine wpF_run 3 [(81, (vP w5.heap.size 1)), (80, vF), (79, vF)] (wpF_step (op_v (some 82) (Instr.loadAt 3 (vP w5.heap.size 1)) (vI 0) (rn_ld ((hBw7.ext hEw8).cell rfl)) ?_))
      refine wpF_step (op_b (some 83) (((0 : Nat) : Int) != ((0 : Nat) : Int)) false (cmpNeF (by omega)) ?_)
      refine wpF_run 4 [(87, (vI (nof k))), (86, (vI s)), (85, vF), (84, vF)] (wpF_step (op_in (some 88) .i64 (IntKind.i64.wrap (((2 : Nat) : Int) * ((nof k : Nat) : Int))) (2 * nof k) (wrapS (by omega) (by omega) (by omega)) ?_))
      refine wpF_step (op_b (some 89) (decide (((s : Nat) : Int) ≥ ((2 * nof k : Nat) : Int))) false (cmpDF (by omega)) ?_)
      refine wpF_run 4 [(93, (vP w5.heap.size 2)), (92, (vI s)), (91, vF), (90, vF)] (wpF_step (op_v (some 94) (Instr.loadAt 3 (vP w5.heap.size 2)) (vI (s / 2)) (rn_ld ((hBw7.ext hEw8).cell rfl)) ?_))
      refine wpF_run 1 [(95, (vP w5.heap.size 3))] (wpF_step (op_v (some 96) (Instr.loadAt 3 (vP w5.heap.size 3)) (vI (s % 2)) (rn_ld ((hBw7.ext hEw8).cell rfl)) ?_))
      refine wpF_step (op_call (some 97) (c_rData (s / 2) (s % 2) _ (by omega) (by omega)) ?_)
      rintro _ _ ⟨rfl, rfl⟩
      refine wpF_step (op_b (some 98) (((s : Nat) : Int) != ((2 * (s / 2) + (s % 2) : Nat) : Int)) false (cmpNeF (by omega)) ?_)
      refine wpF_run 1 [(99, vF)] (wpF_end (then_code (wpC_false (wpC_skip (then_code (wpC_exit (then_exit (inBlock_exit (then_code ?_)))))))))
      refine wpC_region (wpF_run 1 [(36, (vI v))] (wpF_step (op_in (some 37) .i64 (IntKind.i64.wrap (((v : Nat) : Int) + ((1 : Nat) : Int))) (v + 1) (wrapS (by omega) (by omega) (by omega)) ?_)))
      refine wpF_run 1 [(8, (vI (v + 1)))] (wpF_end (then_normal ?_))
      have hX1 : Ext w3 w8 := ((Ext.own ((hEl.trans hEw5).trans hEw6) hCw7 (by omega)).trans hEw8)
      refine endR_mk (v + 1) ?_ ?_
      · exact ⟨by omega, hX1⟩
      · first | omega | (dsimp only; omega)
    · have hlv := lev_spec hn2 (by omega) hsl
      have hjb : (s - bas (nof k) (lev (nof k) s)) / 2 < cnt (nof k) (lev (nof k) s) := by have := hlv.2.2; rw [bas] at this; omega
      refine wpF_step (op_call (some 47) (c_OfNode (nof k) s _ (by omega) (by omega) (by omega) (by omega)) ?_)
      rintro _ w9 ⟨rfl, hEw9⟩
      have hzw9 := hEw9.size
      refine wpF_run 3 [(49, (vI 0)), (48, (vA [vF, (vI (lev (nof k) s)), (vI ((s - bas (nof k) (lev (nof k) s)) / 2)), (vI ((s - bas (nof k) (lev (nof k) s)) % 2))])), (44, (.tuple #[(vA [vF, (vI (lev (nof k) s)), (vI ((s - bas (nof k) (lev (nof k) s)) / 2)), (vI ((s - bas (nof k) (lev (nof k) s)) % 2))]), (vI 0)]))] (wpF_step (op_new (some 10) (Instr.alloc 31 true (.tuple #[])) (vP w9.heap.size 0) ([vF, (vI 0), (vI 0), (vI 0)]) 31 ?_))
      intro w10 hBw10 hEw10
      have hzw10 := hEw10.size; have hlw10 := hBw10.lt
      refine wpF_step (op_store 31 w9.heap.size 0 31 (vA [vF, (vI (lev (nof k) s)), (vI ((s - bas (nof k) (lev (nof k) s)) / 2)), (vI ((s - bas (nof k) (lev (nof k) s)) % 2))]) ([vF, (vI 0), (vI 0), (vI 0)]) ([vF, (vI (lev (nof k) s)), (vI ((s - bas (nof k) (lev (nof k) s)) / 2)), (vI ((s - bas (nof k) (lev (nof k) s)) % 2))]) hBw10 (by kernel_rfl) (by first | decide | (simp; done) | (simp; omega)) (by simp [Value.oneCell']) ?_)
      intro w11 hBw11 hCw11
      have hzw11 := hCw11.size
      rw [setFrom_all _ _ (by kernel_rfl)] at hBw11
      refine wpF_run 1 [(11, (vI 0))] (wpF_end (then_code (wpC_seq (wpC_seq (wpC_region (wpF_run 1 [(50, (vI 0))] (wpF_step (op_b (some 51) (((0 : Nat) : Int) != ((0 : Nat) : Int)) false (cmpNeF (by omega)) ?_))))))))
      refine wpF_run 2 [(53, (vP w9.heap.size 3)), (52, vF)] (wpF_step (op_v (some 54) (Instr.loadAt 3 (vP w9.heap.size 3)) (vI ((s - bas (nof k) (lev (nof k) s)) % 2)) (rn_ld (hBw11.cell rfl)) ?_))
      refine wpF_step (op_b (some 55) (decide ((((s - bas (nof k) (lev (nof k) s)) % 2 : Nat) : Int) < ((0 : Nat) : Int))) false (cmpDF (by omega)) ?_)
      refine wpF_run 3 [(58, (vP w9.heap.size 3)), (57, vF), (56, vF)] (wpF_step (op_v (some 59) (Instr.loadAt 3 (vP w9.heap.size 3)) (vI ((s - bas (nof k) (lev (nof k) s)) % 2)) (rn_ld (hBw11.cell rfl)) ?_))
      refine wpF_step (op_b (some 60) (decide ((((s - bas (nof k) (lev (nof k) s)) % 2 : Nat) : Int) > ((1 : Nat) : Int))) false (cmpDF (by omega)) ?_)
      refine wpF_run 1 [(61, vF)] (wpF_end (then_code (wpC_false (wpC_skip (then_code (wpC_seq (wpC_seq (wpC_region (wpF_run 1 [(62, (vP w9.heap.size 0))] ?_)))))))))
      refine wpF_step (op_v (some 63) (Instr.loadAt 4 (vP w9.heap.size 0)) vF (rn_ld (hBw11.cell rfl)) ?_)
      refine wpF_end (then_code (wpC_false (wpC_skip (then_code (wpC_seq (wpC_region (wpF_run 2 [(102, (vP w9.heap.size 1)), (101, (vI (nof k)))] (wpF_step (op_v (some 103) (Instr.loadAt 3 (vP w9.heap.size 1)) (vI (lev (nof k) s)) (rn_ld (hBw11.cell rfl)) ?_)))))))))
      refine wpF_run 1 [(104, (vP w9.heap.size 2))] (wpF_step (op_v (some 105) (Instr.loadAt 3 (vP w9.heap.size 2)) (vI ((s - bas (nof k) (lev (nof k) s)) / 2)) (rn_ld (hBw11.cell rfl)) ?_))
      refine wpF_run 1 [(106, (vP w9.heap.size 3))] (wpF_step (op_v (some 107) (Instr.loadAt 3 (vP w9.heap.size 3)) (vI ((s - bas (nof k) (lev (nof k) s)) % 2)) (rn_ld (hBw11.cell rfl)) ?_))
      refine wpF_step (op_call (some 108) (c_Node (nof k) (lev (nof k) s) ((s - bas (nof k) (lev (nof k) s)) / 2) ((s - bas (nof k) (lev (nof k) s)) % 2) _ (by omega) (by omega) (by omega) (by omega) (by omega)) ?_)
      rintro _ w12 ⟨rfl, hEw12⟩
      have hzw12 := hEw12.size
      refine wpF_run 5 [(11, (vI 0)), (14, (vI (bas (nof k) (lev (nof k) s) + 2 * ((s - bas (nof k) (lev (nof k) s)) / 2) + ((s - bas (nof k) (lev (nof k) s)) % 2)))), (110, (vI 0)), (109, (vI (bas (nof k) (lev (nof k) s) + 2 * ((s - bas (nof k) (lev (nof k) s)) / 2) + ((s - bas (nof k) (lev (nof k) s)) % 2)))), (100, (.tuple #[(vI (bas (nof k) (lev (nof k) s) + 2 * ((s - bas (nof k) (lev (nof k) s)) / 2) + ((s - bas (nof k) (lev (nof k) s)) % 2))), (vI 0)]))] (wpF_end (then_code (wpC_seq (wpC_region (wpF_run 1 [(111, (vI 0))] (wpF_step (op_b (some 112) (((0 : Nat) : Int) != ((0 : Nat) : Int)) false (cmpNeF (by omega)) ?_)))))))
      refine wpF_run 3 [(115, (vI s)), (114, (vI (bas (nof k) (lev (nof k) s) + 2 * ((s - bas (nof k) (lev (nof k) s)) / 2) + ((s - bas (nof k) (lev (nof k) s)) % 2)))), (113, vF)] (wpF_step (op_b (some 116) (((bas (nof k) (lev (nof k) s) + 2 * ((s - bas (nof k) (lev (nof k) s)) / 2) + ((s - bas (nof k) (lev (nof k) s)) % 2) : Nat) : Int) != ((s : Nat) : Int)) false (cmpNeF (by omega)) ?_))
      refine wpF_run 4 [(120, (vI (nof k))), (119, (vI s)), (118, vF), (117, vF)] (wpF_step (op_in (some 121) .i64 (IntKind.i64.wrap (((2 : Nat) : Int) * ((nof k : Nat) : Int))) (2 * nof k) (wrapS (by omega) (by omega) (by omega)) ?_))
      refine wpF_step (op_b (some 122) (decide (((s : Nat) : Int) < ((2 * nof k : Nat) : Int))) false (cmpDF (by omega)) ?_)
      refine wpF_run 4 [(126, (vP w9.heap.size 1)), (125, (vI (nof k))), (124, vF), (123, vF)] (wpF_step (op_v (some 127) (Instr.loadAt 3 (vP w9.heap.size 1)) (vI (lev (nof k) s)) (rn_ld ((hBw11.ext hEw12).cell rfl)) ?_))
      refine wpF_run 1 [(128, (vP w9.heap.size 2))] (wpF_step (op_v (some 129) (Instr.loadAt 3 (vP w9.heap.size 2)) (vI ((s - bas (nof k) (lev (nof k) s)) / 2)) (rn_ld ((hBw11.ext hEw12).cell rfl)) ?_))
      refine wpF_step (op_call (some 130) (c_rIs (nof k) (lev (nof k) s) ((s - bas (nof k) (lev (nof k) s)) / 2) _ (by omega) (by omega) (by omega) (by omega)) ?_)
      rintro _ _ ⟨rfl, rfl⟩
      refine wpF_run 6 [(136, (vP w9.heap.size 1)), (135, (vI (nof k))), (134, (vI s)), (133, vF), (132, vF), (131, vF)] (wpF_step (op_v (some 137) (Instr.loadAt 3 (vP w9.heap.size 1)) (vI (lev (nof k) s)) (rn_ld ((hBw11.ext hEw12).cell rfl)) ?_))
      refine wpF_run 1 [(138, (vP w9.heap.size 2))] (wpF_step (op_v (some 139) (Instr.loadAt 3 (vP w9.heap.size 2)) (vI ((s - bas (nof k) (lev (nof k) s)) / 2)) (rn_ld ((hBw11.ext hEw12).cell rfl)) ?_))
      refine wpF_run 1 [(140, (vP w9.heap.size 3))] (wpF_step (op_v (some 141) (Instr.loadAt 3 (vP w9.heap.size 3)) (vI ((s - bas (nof k) (lev (nof k) s)) % 2)) (rn_ld ((hBw11.ext hEw12).cell rfl)) ?_))
      refine wpF_step (op_call (some 142) (c_rNode (nof k) (lev (nof k) s) ((s - bas (nof k) (lev (nof k) s)) / 2) ((s - bas (nof k) (lev (nof k) s)) % 2) _ (by omega) (by omega) (by omega) (by omega) (by omega)) ?_)
      rintro _ _ ⟨rfl, rfl⟩
      refine wpF_step (op_b (some 143) (((s : Nat) : Int) != ((bas (nof k) (lev (nof k) s) + 2 * ((s - bas (nof k) (lev (nof k) s)) / 2) + ((s - bas (nof k) (lev (nof k) s)) % 2) : Nat) : Int)) false (cmpNeF (by omega)) ?_)
      refine wpF_run 1 [(144, vF)] (wpF_end (then_code (wpC_false (wpC_skip (inBlock_normal (then_code (wpC_region (wpF_run 1 [(36, (vI v))] (wpF_step (op_in (some 37) .i64 (IntKind.i64.wrap (((v : Nat) : Int) + ((1 : Nat) : Int))) (v + 1) (wrapS (by omega) (by omega) (by omega)) ?_))))))))))
      refine wpF_run 1 [(8, (vI (v + 1)))] (wpF_end (then_normal ?_))
      have hX2 : Ext w3 w12 := ((Ext.own ((hEl.trans hEw9).trans hEw10) hCw11 (by omega)).trans hEw12)
      refine endR_mk (v + 1) ?_ ?_
      · exact ⟨by omega, hX2⟩
      · first | omega | (dsimp only; omega)
  · replace hc35 : ¬ (v < 40) := by have := of_d_f hc35; omega
    refine wpF_end (then_code (wpC_false (wpC_exit (then_exit (then_exit (inBlock_exit (then_code (wpC_seq (wpC_region ?_)))))))))
    refine wpF_step (op_call (some 145) (c_lives12 _) ?_)
    rintro _ w13 ⟨rfl, hEw13⟩
    have hzw13 := hEw13.size
    refine wpF_run 1 [(4, vT)] (wpF_end (then_code (wpC_ret (body_rets vT ?_))))
    have hX3 : Ext w w13 := ((((hEw1.trans hEw2).trans hEw3).trans hEl).trans hEw13)
    exact ⟨rfl, hX3⟩

end Go.Proofs.Ytpcbhalagllhnaa
