/- CsS10: what each function does, by its own code. No condition beyond those of each statement. -/
import Derived.Test.YtpcbhalagllhnaaCsS7
namespace Go.Proofs.Ytpcbhalagllhnaa
open Go Go.RowKit Go.Cs
set_option maxRecDepth 100000
set_option linter.all false
set_option linter.unusedVariables false

theorem c_ShapesFamily (k : Nat) (lv : Nat) (ix : Nat)  (w : World) (hp0 : k < 65536) (hp1 : lv < 256) (hp2 : ix < 65536) :
    Calls Try.prog 5 #[(vA [(vH k)]), (vB lv), (vH ix)] w (Ret fun r w' => r = vT ∧ Ext w w') := by
  refine calls_of (n := 236) (σ := [(0, (vA [(vH k)])), (1, (vB lv)), (2, (vH ix))]) Try.func5 rfl ?_
  have hn1 := nof_pos k
  have hn2 := nof_le k
  have h5 := hgt_le (nof k)
  refine wpC_seq (wpC_region (wpF_step (op_new (some 3) (Instr.box 24 (vA [(vH k)])) (vP w.heap.size 0) ([(vH k)]) 24 ?_)))
  intro w1 hBw1 hEw1
  have hzw1 := hEw1.size; have hlw1 := hBw1.lt
  refine wpF_run 1 [(6, vF)] (wpF_end (then_code (wpC_seq (wpC_region (wpF_step (op_v (some 27) (Instr.loadAt 24 (vP w.heap.size 0)) (vA [(vH k)]) (rn_lda (vs := [(vH k)]) (hBw1.all)) ?_))))))
  refine wpF_step (op_call (some 28) (c_NOf k _ (by omega)) ?_)
  rintro _ w2 ⟨rfl, hEw2⟩
  have hzw2 := hEw2.size
  refine wpF_run 1 [(7, (vI (nof k)))] (wpF_end (then_code (wpC_seq (wpC_region (wpF_run 1 [(29, (vI (nof k)))] (wpF_step (op_call (some 30) (c_rHeight (nof k) _ (by omega) (by omega)) ?_)))))))
  rintro _ _ ⟨rfl, rfl⟩
  refine wpF_run 1 [(8, (vI (hgt (nof k))))] (wpF_end (then_code (wpC_seq (wpC_region (wpF_run 1 [(31, (vB lv))] (wpF_step (op_in (some 32) .i64 (IntKind.i64.wrap ((lv : Nat) : Int)) lv (wrapS rfl (by omega) (by omega)) ?_)))))))
  refine wpF_run 1 [(33, (vI (hgt (nof k))))] (wpF_step (op_in (some 34) .i64 (IntKind.i64.wrap (((hgt (nof k) : Nat) : Int) + ((1 : Nat) : Int))) (hgt (nof k) + 1) (wrapS (by omega) (by omega) (by omega)) ?_))
  refine wpF_step (op_v (some 35) (bo .rem 3 (.tmp 32) (.tmp 34) (vI lv) (vI (hgt (nof k) + 1))) (vI (lv % (hgt (nof k) + 1))) (run_rem (by omega)) ?_)
  have hl := Nat.mod_lt lv (show 0 < hgt (nof k) + 1 by omega)
  obtain ⟨l, e_l⟩ : ∃ l, l = lv % (hgt (nof k) + 1) := ⟨_, rfl⟩
  rw [← e_l] at hl ⊢
  refine wpF_run 1 [(9, (vI l))] (wpF_end (then_code (wpC_seq (wpC_region (wpF_run 2 [(37, (vH ix)), (36, (vI l))] (wpF_step (op_in (some 38) .i64 (IntKind.i64.wrap ((ix : Nat) : Int)) ix (wrapS rfl (by omega) (by omega)) ?_)))))))
  refine wpF_run 2 [(40, (vI l)), (39, (vI (nof k)))] (wpF_step (op_call (some 41) (c_rCount (nof k) l _ (by omega) (by omega) (by omega)) ?_))
  rintro _ _ ⟨rfl, rfl⟩
  have hcp := cnt_pos hn1 l
  refine wpF_step (op_v (some 42) (bo .rem 3 (.tmp 38) (.tmp 41) (vI ix) (vI (cnt (nof k) l))) (vI (ix % (cnt (nof k) l))) (run_rem (by omega)) ?_)
  have hj := Nat.mod_lt ix (show 0 < cnt (nof k) l by omega)
  obtain ⟨j, e_j⟩ : ∃ j, j = ix % (cnt (nof k) l) := ⟨_, rfl⟩
  rw [← e_j] at hj ⊢
  refine wpF_step (op_call (some 43) (c_place l j _) ?_)
  rintro _ w3 ⟨rfl, hEw3⟩
  have hzw3 := hEw3.size
  refine wpF_step (op_new (some 10) (Instr.alloc 45 true (.tuple #[])) (vP w3.heap.size 0) ([(vI 0), (vI 0)]) 45 ?_)
  intro w4 hBw4 hEw4
  have hzw4 := hEw4.size; have hlw4 := hBw4.lt
  refine wpF_step (op_store 45 w3.heap.size 0 45 (vA [(vI l), (vI j)]) ([(vI 0), (vI 0)]) ([(vI l), (vI j)]) hBw4 (by kernel_rfl) (by first | decide | (simp; done) | (simp; omega)) (by simp [Value.oneCell']) ?_)
  intro w5 hBw5 hCw5
  have hzw5 := hCw5.size
  rw [setFrom_all _ _ (by kernel_rfl)] at hBw5
  refine wpF_end (then_code (wpC_seq (wpC_region (wpF_run 2 [(45, (vP w3.heap.size 0)), (44, (vI (nof k)))] (wpF_step (op_v (some 46) (Instr.loadAt 3 (vP w3.heap.size 0)) (vI l) (rn_ld (hBw5.cell rfl)) ?_))))))
  refine wpF_run 1 [(47, (vP w3.heap.size 1))] (wpF_step (op_v (some 48) (Instr.loadAt 3 (vP w3.heap.size 1)) (vI j) (rn_ld (hBw5.cell rfl)) ?_))
  by_cases hl0 : l = 0
  · subst hl0
    have hcn := cnt_n (nof k) 0
    have hA := (cnt_wid (nof k) 0 j).1 hj
    have hB : (j + 1) * wid 0 = j * wid 0 + wid 0 := by rw [Nat.add_mul, Nat.one_mul]
    have hwp := wid_pos 0
    have hw0 : wid 0 = 4 := rfl
    have e1 : j * wid 0 = 4 * j := by rw [hw0]; omega
    have hp0 : prt (nof k) 0 j = min 4 (nof k - 4 * j) := rfl
    refine wpF_step (op_call (some 49) (c_rParts (nof k) 0 j _ (by omega) (by omega) (by omega) (by omega)) ?_)
    rintro _ _ ⟨rfl, rfl⟩
    refine wpF_run 1 [(11, (vI (prt (nof k) 0 j)))] (wpF_end (then_code (wpC_seq (wpC_region (wpF_run 1 [(51, (vI (nof k)))] (wpF_step (op_v (some 52) (Instr.loadAt 45 (vP w3.heap.size 0)) (vA [(vI 0), (vI j)]) (rn_lda (vs := [(vI 0), (vI j)]) (hBw5.all)) ?_)))))))
    refine wpF_step (op_call (some 53) (c_Blocks (nof k) 0 j _ (by omega) (by omega) (by omega) (by omega)) ?_)
    rintro _ w6 ⟨rfl, hEw6⟩
    have hzw6 := hEw6.size
    refine wpF_run 7 [(14, (vI 0)), (13, (vI (min (nof k) ((j + 1) * wid 0)))), (12, (vI (j * wid 0))), (56, (vI 0)), (55, (vI (min (nof k) ((j + 1) * wid 0)))), (54, (vI (j * wid 0))), (50, (.tuple #[(vI (j * wid 0)), (vI (min (nof k) ((j + 1) * wid 0))), (vI 0)]))] (wpF_end (then_code (wpC_seq (wpC_seq (wpC_region (wpF_run 1 [(57, (vI 0))] (wpF_step (op_b (some 58) (((0 : Nat) : Int) != ((0 : Nat) : Int)) false (cmpNeF (by omega)) ?_))))))))
    refine wpF_run 2 [(60, (vI (j * wid 0))), (59, vF)] (wpF_step (op_b (some 61) (decide (((j * wid 0 : Nat) : Int) < ((0 : Nat) : Int))) false (cmpDF (by omega)) ?_))
    refine wpF_run 4 [(65, (vI (nof k))), (64, (vI (min (nof k) ((j + 1) * wid 0)))), (63, vF), (62, vF)] (wpF_step (op_b (some 66) (decide (((min (nof k) ((j + 1) * wid 0) : Nat) : Int) > ((nof k : Nat) : Int))) false (cmpDF (by omega)) ?_))
    refine wpF_run 4 [(70, (vI (min (nof k) ((j + 1) * wid 0)))), (69, (vI (j * wid 0))), (68, vF), (67, vF)] (wpF_step (op_b (some 71) (decide (((j * wid 0 : Nat) : Int) ≥ ((min (nof k) ((j + 1) * wid 0) : Nat) : Int))) false (cmpDF (by omega)) ?_))
    refine wpF_run 1 [(72, vF)] (wpF_end (then_code (wpC_false (wpC_skip (then_code (wpC_seq (wpC_region (wpF_run 2 [(15, (vI (j * wid 0))), (73, (vI (j * wid 0)))] (wpF_end ?_)))))))))
    refine then_code (wpC_seq (wpC_seq (wpC_region (wpF_run 1 [(16, (vI 0))] (wpF_end (then_code (wpC_block (wpC_loop (X := Nat) (fun w_ => [(15, (vI (j * wid 0))), (16, (vI w_))]) [6, 17, 18, 19, 20, 21, 22, 23, 24, 74, 75, 76, 77, 78, 79, 80, 81, 82, 83, 84, 85, 86, 87, 88, 89, 90, 91, 92, 93, 94, 95, 96, 97, 98, 99, 100, 101, 102, 103, 104, 105, 106, 107, 108, 109, 110, 111, 112, 113, 114, 115, 116, 117, 118, 119, 120, 121, 122, 123, 124, 125, 126, 127, 128, 129, 130, 131, 132, 133, 134, 135, 136, 137, 138, 139, 140, 141, 142, 143, 144, 145, 146, 147, 148, 149, 150, 151, 152, 153, 154, 155] (fun w_ w7 => w_ ≤ 4 ∧ Ext w6 w7) (fun w_ => 4 - w_) 0 (by kernel_rfl) ⟨by omega, Ext.refl _⟩ ?_))))))))
    rintro w_ dw7 w7 ⟨hw, hEl⟩
    have hzl := hEl.size
    refine wpC_seq (wpC_seq (wpC_region (wpF_run 1 [(74, (vI w_))] (wpF_step (op_split (some 75) (decide (((w_ : Nat) : Int) < ((4 : Nat) : Int))) (fun hc75 => ?_) (fun hc75 => ?_))))))
    · replace hc75 : w_ < 4 := by have := of_d_t hc75; omega
      refine wpF_end (then_code (wpC_true (wpC_skip (then_code (wpC_seq (wpC_block (wpC_seq (wpC_region (wpF_run 1 [(79, (vI (nof k)))] ?_)))))))))
      refine wpF_step (op_v (some 80) (Instr.loadAt 45 (vP w3.heap.size 0)) (vA [(vI 0), (vI j)]) (rn_lda (vs := [(vI 0), (vI j)]) ((((hBw5.ext hEw6)).ext hEl).all)) ?_)
      refine wpF_run 1 [(81, (vI w_))] (wpF_step (op_call (some 82) (c_ChildLeaf (nof k) 0 j w_ _ (by omega) (by omega) (by omega) (by omega) (by omega) (by omega)) ?_))
      rintro _ w8 ⟨rfl, hEw8⟩
      have hzw8 := hEw8.size
      refine wpF_run 3 [(84, (vI 11)), (83, (vA [(vI 0), (vI 0)])), (78, (.tuple #[(vA [(vI 0), (vI 0)]), (vI 11)]))] (wpF_step (op_new (some 17) (Instr.alloc 45 true (.tuple #[])) (vP w8.heap.size 0) ([(vI 0), (vI 0)]) 45 ?_))
      intro w9 hBw9 hEw9
      have hzw9 := hEw9.size; have hlw9 := hBw9.lt
      refine wpF_step (op_store 45 w8.heap.size 0 45 (vA [(vI 0), (vI 0)]) ([(vI 0), (vI 0)]) ([(vI 0), (vI 0)]) hBw9 (by kernel_rfl) (by first | decide | (simp; done) | (simp; omega)) (by simp [Value.oneCell']) ?_)
      intro w10 hBw10 hCw10
      have hzw10 := hCw10.size
      rw [setFrom_all _ _ (by kernel_rfl)] at hBw10
      refine wpF_run 1 [(18, (vI 11))] (wpF_end (then_code (wpC_seq (wpC_seq (wpC_region (wpF_run 1 [(85, (vI 0))] (wpF_step (op_b (some 86) (((0 : Nat) : Int) == ((0 : Nat) : Int)) true (cmpEqT (by omega)) ?_))))))))
      refine wpF_run 5 [(91, vT), (90, undef), (89, undef), (88, undef), (87, vT)] (wpF_end (then_code (wpC_true (wpC_seq (wpC_seq (wpC_drawM (Ext w10.drew) 7 [(93, 262144, 0), (94, 4951760157141521099596496896, 1), (95, 9903520314283042199192993792, 2), (96, 19807040628566084398386118656, 4), (97, 19807040628566084398385987584, 4), (98, 138649284399962590788701913088, 28), (99, 178263365657094759585473888256, 36)] (fun hT173 => ?_)))))))
      have hEw11 : Ext w10 w10.drew := Ext.drew w10
      generalize w10.drew = w11 at hEw11 ⊢
      have hzw11 := hEw11.size
      refine anyM_run hT173 [(0, 92, (vI 11))] 1 1 (anyM_take hT173 1 3 (some 93) vF (yld_b (((11 : Nat) : Int) != ((11 : Nat) : Int)) (cmpNeF (by omega))) (anyM_run hT173 [(2, 94, vF)] 1 7 (anyM_take hT173 3 15 (some 95) (vA [(vI 0), (vI 0)]) (yld_val (Instr.loadAt 45 (vP w8.heap.size 0)) (fun w' hC => rn_lda (vs := [(vI 0), (vI 0)]) (((hBw10.ext hEw11).ext hC).all))) (anyM_one 4 31 (op_call (some 96) (c_place 0 0 _) ?_)))))
      rintro _ w12 ⟨rfl, hEw12⟩
      have hzw12 := hEw12.size
      refine ⟨.inr hEw12, ?_⟩
      refine anyM_take (hw := show Ext w11 w12 from hEw12) hT173 5 63 (some 97) vF (yld_val (bo .neq 45 (.tmp 95) (.tmp 96) (vA [(vI 0), (vI 0)]) (vA [(vI 0), (vI 0)])) (fun w' hC => run_neqAgg (r := true) (T := 45) ((run_eq_flat (dd := 9998) (t := 45) [(vI 0), (vI 0)] [(vI 0), (vI 0)]).trans (congrArg (fun b => Result.ok b _) (show (eqvs [(vI 0), (vI 0)] [(vI 0), (vI 0)]) = true from by rfl))))) (anyM_run (hw := show Ext w11 w12 from hEw12) hT173 [(6, 98, vF)] 1 127 (anyM_done (then_code (wpC_false (wpC_skip (then_code (wpC_exit (then_exit (inBlock_exit ?_)))))))))
      refine then_code (wpC_region (wpF_run 1 [(76, (vI w_))] (wpF_step (op_in (some 77) .i64 (IntKind.i64.wrap (((w_ : Nat) : Int) + ((1 : Nat) : Int))) (w_ + 1) (wrapS (by omega) (by omega) (by omega)) ?_))))
      refine wpF_run 1 [(16, (vI (w_ + 1)))] (wpF_end (then_normal ?_))
      have hX1 : Ext w6 w12 := (((Ext.own ((hEl.trans hEw8).trans hEw9) hCw10 (by omega)).trans hEw11).trans hEw12)
      refine endR_mk (w_ + 1) ?_ ?_
      · exact ⟨by omega, hX1⟩
      · first | omega | (dsimp only; omega)
    · replace hc75 : ¬ (w_ < 4) := by have := of_d_f hc75; omega
      obtain rfl : w_ = 4 := by omega
      refine wpF_end (then_code (wpC_false (wpC_exit (then_exit (then_exit (inBlock_exit (then_code (wpC_seq (wpC_seq ?_)))))))))
      refine wpC_region (wpF_run 1 [(156, (vI 0))] (wpF_step (op_b (some 157) (decide (((0 : Nat) : Int) > ((0 : Nat) : Int))) false (cmpDF (by omega)) ?_)))
      refine wpF_run 7 [(164, (vI 0)), (163, vF), (162, vF), (161, undef), (160, undef), (159, undef), (158, vF)] (wpF_step (op_b (some 165) (((0 : Nat) : Int) == ((0 : Nat) : Int)) true (cmpEqT (by omega)) ?_))
      refine wpF_run 3 [(168, (vP w3.heap.size 1)), (167, (vI (j * wid 0))), (166, vT)] (wpF_step (op_v (some 169) (Instr.loadAt 3 (vP w3.heap.size 1)) (vI j) (rn_ld ((((hBw5.ext hEw6)).ext hEl).cell rfl)) ?_))
      refine wpF_step (op_in (some 170) .i64 (IntKind.i64.wrap (((4 : Nat) : Int) * ((j : Nat) : Int))) (4 * j) (wrapS (by omega) (by omega) (by omega)) ?_)
      refine wpF_step (op_b (some 171) (((j * wid 0 : Nat) : Int) != ((4 * j : Nat) : Int)) false (cmpNeF (by omega)) ?_)
      refine wpF_run 4 [(175, (vI (prt (nof k) 0 j))), (174, (vI (j * wid 0))), (173, (vI (min (nof k) ((j + 1) * wid 0)))), (172, vF)] (wpF_step (op_in (some 176) .i64 (IntKind.i64.wrap (((j * wid 0 : Nat) : Int) + ((prt (nof k) 0 j : Nat) : Int))) (j * wid 0 + prt (nof k) 0 j) (wrapS (by omega) (by omega) (by omega)) ?_))
      refine wpF_step (op_b (some 177) (((min (nof k) ((j + 1) * wid 0) : Nat) : Int) != ((j * wid 0 + prt (nof k) 0 j : Nat) : Int)) false (cmpNeF (by (have e2 : (j + 1) * wid 0 = 4 * j + 4 := (by rw [hw0]; omega)); omega)) ?_)
      refine wpF_run 3 [(180, vF), (179, vF), (178, vF)] (wpF_end (then_code (wpC_false (wpC_skip (then_code (wpC_seq (wpC_region (wpF_run 1 [(182, (vI (nof k)))] (wpF_step (op_v (some 183) (Instr.loadAt 45 (vP w3.heap.size 0)) (vA [(vI 0), (vI j)]) (rn_lda (vs := [(vI 0), (vI j)]) ((((hBw5.ext hEw6)).ext hEl).all)) ?_))))))))))
      by_cases ht : 0 = hgt (nof k)
      · have hj0 : j = 0 := by have h := cnt_hgt hn1 hn2; rw [← ht] at h; omega
        have hf0 : j * wid 0 = 0 := by rw [hj0, Nat.zero_mul]
        have ht0 : (j + 1) * wid 0 = wid 0 := by rw [hj0, Nat.zero_add, Nat.one_mul]
        have hra := root_all hn1 hn2
        rw [← ht] at hra
        refine wpF_step (op_call (some 184) (c_ParentTop (nof k) 0 j _ (by omega) (by omega) (by omega) (by omega) (by omega)) ?_)
        rintro _ w13 ⟨rfl, hEw13⟩
        have hzw13 := hEw13.size
        refine wpF_run 4 [(187, (vI 11)), (186, (vI 0)), (185, (vA [(vI 0), (vI 0)])), (181, (.tuple #[(vA [(vI 0), (vI 0)]), (vI 0), (vI 11)]))] (wpF_step (op_new (some 25) (Instr.alloc 45 true (.tuple #[])) (vP w13.heap.size 0) ([(vI 0), (vI 0)]) 45 ?_))
        intro w14 hBw14 hEw14
        have hzw14 := hEw14.size; have hlw14 := hBw14.lt
        refine wpF_step (op_store 45 w13.heap.size 0 45 (vA [(vI 0), (vI 0)]) ([(vI 0), (vI 0)]) ([(vI 0), (vI 0)]) hBw14 (by kernel_rfl) (by first | decide | (simp; done) | (simp; omega)) (by simp [Value.oneCell']) ?_)
        intro w15 hBw15 hCw15
        have hzw15 := hCw15.size
        rw [setFrom_all _ _ (by kernel_rfl)] at hBw15
        refine wpF_run 2 [(14, (vI 11)), (26, (vI 0))] (wpF_end (then_code (wpC_seq (wpC_seq (wpC_region (wpF_run 2 [(189, (vI (hgt (nof k)))), (188, (vI 0))] (wpF_step (op_b (some 190) (((0 : Nat) : Int) == ((hgt (nof k) : Nat) : Int)) true (cmpEqT (by omega)) ?_))))))))
        refine wpF_end (then_code (wpC_true (wpC_seq ?_)))
        refine wpC_drawM (Ext w15.drew) 24 [(192, 16384, 0), (193, 3138550867693340381917894711603833208051177722232017256448, 1), (194, 6277101735386680763835789423207666416102355444464034512896, 2), (195, 12554203470773361527671578846415332832204710888928102580224, 4), (196, 12554203470773361527671578846415332832204710888928069025792, 4), (197, 87879424295413530693701051924907329825432976222496483180544, 28), (198, 112987831236960253749044209617737995489842398000352621232128, 36), (199, 200867255532373784442745261542645325315275374222849104412672, 80), (200, 401734511064747568885490523085290650630550748445698275934208, 128), (201, 1205203533194242706656471569255871951891652245337094626476032, 384), (202, 2008672555323737844427452615426453253152753742228491044126720, 640), (203, 3213876088517980551083924184682325205044405987565585670602752, 1152), (204, 6427752177035961102167848369364650410088811975131171341209600, 2048), (205, 19283256531107883306503545108093951230266435925393514023616512, 6144), (206, 32138760885179805510839241846823252050444059875655856706027520, 10240), (207, 51422017416287688817342786954917203280710495801049370729644032, 18432), (208, 102844034832575377634685573909834406561420991602098741459296256, 32768), (209, 102844034832575377634685573909834406561420991602098741459288192, 32768), (210, 719908243828027643442799017368840845929946941214691190215016448, 229376), (211, 925596313493178398712170165188509659052788924418888673133592576, 294912), (212, 1645504557321206042154969182557350504982735865633579863348609024, 557056), (213, 3291009114642412084309938365114701009965471731267159726697218048, 1048576), (214, 9873027343927236252929815095344103029896415193801479180091654144, 3145728), (7, 13164036458569648337239753460458804039861886925068638906788872192, 8388607)] (fun hT269 => ?_)
        have hEw16 : Ext w15 w15.drew := Ext.drew w15
        generalize w15.drew = w16 at hEw16 ⊢
        have hzw16 := hEw16.size
        refine anyM_run hT269 [(0, 191, (vI 11))] 1 1 (anyM_take hT269 1 3 (some 192) vT (yld_b (((11 : Nat) : Int) == ((11 : Nat) : Int)) (cmpEqT (by omega))) (anyM_run hT269 [(2, 193, vT)] 1 7 (anyM_take hT269 3 15 (some 194) (vA [(vI 0), (vI 0)]) (yld_val (Instr.loadAt 45 (vP w13.heap.size 0)) (fun w' hC => rn_lda (vs := [(vI 0), (vI 0)]) (((hBw15.ext hEw16).ext hC).all))) (anyM_one 4 31 (op_call (some 195) (c_place 0 0 _) ?_)))))
        rintro _ w17 ⟨rfl, hEw17⟩
        have hzw17 := hEw17.size
        refine ⟨.inr hEw17, ?_⟩
        refine anyM_take (hw := show Ext w16 w17 from hEw17) hT269 5 63 (some 196) vT (yld_val (bo .eql 45 (.tmp 194) (.tmp 195) (vA [(vI 0), (vI 0)]) (vA [(vI 0), (vI 0)])) (fun w' hC => run_eqlAgg (r := true) (T := 45) ((run_eq_flat (dd := 9998) (t := 45) [(vI 0), (vI 0)] [(vI 0), (vI 0)]).trans (congrArg (fun b => Result.ok b _) (show (eqvs [(vI 0), (vI 0)] [(vI 0), (vI 0)]) = true from by rfl))))) (anyM_run (hw := show Ext w16 w17 from hEw17) hT269 [(6, 197, vT), (7, 198, vT), (8, 199, (vI 0))] 3 511 (anyM_take (hw := show Ext w16 w17 from hEw17) hT269 9 1023 (some 200) vT (yld_b (((0 : Nat) : Int) == ((0 : Nat) : Int)) (cmpEqT (by omega))) (anyM_run (hw := show Ext w16 w17 from hEw17) hT269 [(10, 201, vT), (11, 202, vT), (12, 203, (vI (j * wid 0)))] 3 8191 (anyM_take (hw := show Ext w16 w17 from hEw17) hT269 13 16383 (some 204) vT (yld_b (((j * wid 0 : Nat) : Int) == ((0 : Nat) : Int)) (cmpEqT (by omega))) (anyM_run (hw := show Ext w16 w17 from hEw17) hT269 [(14, 205, vT), (15, 206, vT), (16, 207, (vI (min (nof k) ((j + 1) * wid 0)))), (17, 208, (vI (nof k)))] 4 262143 (anyM_take (hw := show Ext w16 w17 from hEw17) hT269 18 524287 (some 209) vT (yld_b (((min (nof k) ((j + 1) * wid 0) : Nat) : Int) == ((nof k : Nat) : Int)) (cmpEqT (by omega))) (anyM_run (hw := show Ext w16 w17 from hEw17) hT269 [(19, 210, vT), (20, 211, vT)] 2 2097151 (anyM_one 21 4194303 (op_call (some 212) (c_lives12 _) ?_)))))))))
        rintro _ w18 ⟨rfl, hEw18⟩
        have hzw18 := hEw18.size
        refine ⟨.inr (hEw17.trans hEw18), ?_⟩
        refine anyM_run (hw := show Ext w16 w18 from (hEw17.trans hEw18)) hT269 [(22, 213, vT), (23, 6, vT)] 2 16777215 (anyM_done (then_code (wpC_ret (then_ret (body_rets vT ?_)))))
        have hX2 : Ext w w18 := ((((Ext.own (((((Ext.own (((hEw1.trans hEw2).trans hEw3).trans hEw4) hCw5 (by omega)).trans hEw6).trans hEl).trans hEw13).trans hEw14) hCw15 (by omega)).trans hEw16).trans hEw17).trans hEw18)
        exact ⟨rfl, hX2⟩
      · have hlh : 0 < hgt (nof k) := by omega
        refine wpF_step (op_call (some 184) (c_Parent (nof k) 0 j _ (by omega) (by omega) (by omega) (by omega) (by omega)) ?_)
        rintro _ w19 ⟨rfl, hEw19⟩
        have hzw19 := hEw19.size
        rw [show 0 + 1 = 1 from by kernel_rfl]
        refine wpF_run 4 [(187, (vI 0)), (186, (vI (j % 4))), (185, (vA [(vI 1), (vI (j / 4))])), (181, (.tuple #[(vA [(vI 1), (vI (j / 4))]), (vI (j % 4)), (vI 0)]))] (wpF_step (op_new (some 25) (Instr.alloc 45 true (.tuple #[])) (vP w19.heap.size 0) ([(vI 0), (vI 0)]) 45 ?_))
        intro w20 hBw20 hEw20
        have hzw20 := hEw20.size; have hlw20 := hBw20.lt
        refine wpF_step (op_store 45 w19.heap.size 0 45 (vA [(vI 1), (vI (j / 4))]) ([(vI 0), (vI 0)]) ([(vI 1), (vI (j / 4))]) hBw20 (by kernel_rfl) (by first | decide | (simp; done) | (simp; omega)) (by simp [Value.oneCell']) ?_)
        intro w21 hBw21 hCw21
        have hzw21 := hCw21.size
        rw [setFrom_all _ _ (by kernel_rfl)] at hBw21
        refine wpF_run 2 [(14, (vI 0)), (26, (vI (j % 4)))] (wpF_end (then_code (wpC_seq (wpC_seq (wpC_region (wpF_run 2 [(189, (vI (hgt (nof k)))), (188, (vI 0))] (wpF_step (op_b (some 190) (((0 : Nat) : Int) == ((hgt (nof k) : Nat) : Int)) false (cmpEqF (by omega)) ?_))))))))
        refine wpF_end (then_code (wpC_false (wpC_skip (then_code (wpC_seq ?_)))))
        refine wpC_drawM (Ext w21.drew) 23 [(215, 16384, 0), (216, 26328072917139296674479506920917608079723773850137277813577744384, 1), (217, 52656145834278593348959013841835216159447547700274555627155488768, 2), (218, 105312291668557186697918027683670432318895095400549111254344531968, 4), (219, 105312291668557186697918027683670432318895095400549111254310978048, 4), (220, 526561458342785933489590138418352161594475477002745556271554887680, 20), (221, 105312291668557186697918027683670432318895095400549111254310978560, 4), (222, 1790308958365472173864606470622397349421216621809334891323286618112, 68), (223, 3475305625062387161031294913561124266523538148218120671392262258688, 132), (224, 7687797291804674628948016020907941559279341964240085121564701360128, 292), (225, 13795910208580991457427261626560826633775257497471933574314738057216, 524), (226, 27065258958819196981364933114703301105956039517941121592357921226752, 1028), (227, 53919893334301279589334030174039261347274288845081144962207220498432, 2560), (228, 107839786668602559178668060348078522694548577690162289924414508105728, 4096), (229, 107839786668602559178668060348078522694548577690162289924414440997888, 4096), (230, 539198933343012795893340301740392613472742888450811449622072204984320, 20480), (231, 970558080017423032608012543132706704250937199211460609319729968971776, 36864), (232, 2048955946703448624394693146613491931196422976113083508563874378940416, 77824), (233, 3558712960063884452896045991486591248920103063775355567505676552896512, 135168), (234, 6901746346790563787434755862277025452451108972170386555162524223799296, 266240), (235, 13803492693581127574869511724554050904902217944340773110325048447598592, 524288), (236, 41410478080743382724608535173662152714706653833022319330975145342795776, 1572864), (7, 55213970774324510299478046898216203619608871777363092441300193790394368, 4194303)] (fun hT328 => ?_)
        have hEw22 : Ext w21 w21.drew := Ext.drew w21
        generalize w21.drew = w22 at hEw22 ⊢
        have hzw22 := hEw22.size
        refine anyM_run hT328 [(0, 214, (vI 0))] 1 1 (anyM_take hT328 1 3 (some 215) vT (yld_b (((0 : Nat) : Int) == ((0 : Nat) : Int)) (cmpEqT (by omega))) (anyM_run hT328 [(2, 216, vT)] 1 7 (anyM_take hT328 3 15 (some 217) (vA [(vI 1), (vI (j / 4))]) (yld_val (Instr.loadAt 45 (vP w19.heap.size 0)) (fun w' hC => rn_lda (vs := [(vI 1), (vI (j / 4))]) (((hBw21.ext hEw22).ext hC).all))) (anyM_run hT328 [(4, 218, (vI 0))] 1 31 (anyM_take hT328 5 63 (some 219) (vI (0 + 1)) (yld_in .i64 (IntKind.i64.wrap (((0 : Nat) : Int) + ((1 : Nat) : Int))) (wrapS (by omega) (by omega) (by omega))) (anyM_run hT328 [(6, 220, (vP w3.heap.size 1))] 1 127 ?_))))))
        have hK1 := (((((((((((hBw5.ext hEw6)).ext hEl)).ext hEw19)).ext hEw20)).chg hCw21 (fun hs => by have h : _ = _ := hs; omega))).ext hEw22)
        refine anyM_take hT328 7 255 (some 221) (vI j) (yld_val (Instr.loadAt 3 (vP w3.heap.size 1)) (fun w' hC => rn_ld ((hK1.ext hC).cell rfl))) (anyM_take hT328 8 511 (some 222) (vI (j / 4)) (yld_in .i64 (IntKind.i64.wrap (((j : Nat) : Int).tdiv ((4 : Nat) : Int))) (wrapS (tdivN _ _) (by omega) (by omega))) (anyM_one 9 1023 (op_call (some 223) (c_place (0 + 1) (j / 4) _) ?_)))
        rintro _ w23 ⟨rfl, hEw23⟩
        have hzw23 := hEw23.size
        rw [show (0 + 1) = 1 from by kernel_rfl]
        refine ⟨.inr hEw23, ?_⟩
        refine anyM_take (hw := show Ext w22 w23 from hEw23) hT328 10 2047 (some 224) vT (yld_val (bo .eql 45 (.tmp 217) (.tmp 223) (vA [(vI 1), (vI (j / 4))]) (vA [(vI 1), (vI (j / 4))])) (fun w' hC => run_eqlAgg (r := true) (T := 45) ((run_eq_flat (dd := 9998) (t := 45) [(vI 1), (vI (j / 4))] [(vI 1), (vI (j / 4))]).trans (congrArg (fun b => Result.ok b _) (show (eqvs [(vI 1), (vI (j / 4))] [(vI 1), (vI (j / 4))]) = true from by simp [eqvs, eqv]))))) (anyM_run (hw := show Ext w22 w23 from hEw23) hT328 [(11, 225, vT), (12, 226, vT), (13, 227, (vI (j % 4))), (14, 228, (vP w3.heap.size 1))] 4 32767 (anyM_take (hw := show Ext w22 w23 from hEw23) hT328 15 65535 (some 229) (vI j) (yld_val (Instr.loadAt 3 (vP w3.heap.size 1)) (fun w' hC => rn_ld ((hK1.ext hC).cell rfl))) (anyM_take (hw := show Ext w22 w23 from hEw23) hT328 16 131071 (some 230) (vI (j % 4)) (yld_in .i64 (((j : Nat) : Int).tmod ((4 : Nat) : Int)) (tmodN _ _)) (anyM_take (hw := show Ext w22 w23 from hEw23) hT328 17 262143 (some 231) vT (yld_b (((j % 4 : Nat) : Int) == ((j % 4 : Nat) : Int)) (cmpEqT rfl)) (anyM_run (hw := show Ext w22 w23 from hEw23) hT328 [(18, 232, vT), (19, 233, vT)] 2 1048575 (anyM_one 20 2097151 (op_call (some 234) (c_lives12 _) ?_)))))))
        rintro _ w24 ⟨rfl, hEw24⟩
        have hzw24 := hEw24.size
        refine ⟨.inr (hEw23.trans hEw24), ?_⟩
        refine anyM_run (hw := show Ext w22 w24 from (hEw23.trans hEw24)) hT328 [(21, 235, vT), (22, 6, vT)] 2 8388607 (anyM_done (then_code (wpC_ret (body_rets vT ?_))))
        have hX3 : Ext w w24 := ((((Ext.own (((((Ext.own (((hEw1.trans hEw2).trans hEw3).trans hEw4) hCw5 (by omega)).trans hEw6).trans hEl).trans hEw19).trans hEw20) hCw21 (by omega)).trans hEw22).trans hEw23).trans hEw24)
        exact ⟨rfl, hX3⟩
  · obtain ⟨m, rfl⟩ : ∃ m, l = m + 1 := ⟨l - 1, by omega⟩
    have hcn := cnt_n (nof k) (m + 1)
    have hA := (cnt_wid (nof k) (m + 1) j).1 hj
    have hB : (j + 1) * wid (m + 1) = j * wid (m + 1) + wid (m + 1) := by rw [Nat.add_mul, Nat.one_mul]
    have hwp := wid_pos (m + 1)
    have hlc := lt_cnt.1 hj
    have hwm : ∀ x : Nat, x * 4 * wid m = x * wid (m + 1) := fun x => by rw [wid, Nat.mul_assoc, Nat.mul_comm 4]
    have hst : j * wid (m + 1) = min (nof k) ((4 * j + 0) * wid m) := by show _ = min (nof k) (4 * j * wid m); rw [Nat.mul_comm 4 j, hwm]; omega
    refine wpF_step (op_call (some 49) (c_rParts (nof k) (m + 1) j _ (by omega) (by omega) (by omega) (by omega)) ?_)
    rintro _ _ ⟨rfl, rfl⟩
    refine wpF_run 1 [(11, (vI (prt (nof k) (m + 1) j)))] (wpF_end (then_code (wpC_seq (wpC_region (wpF_run 1 [(51, (vI (nof k)))] (wpF_step (op_v (some 52) (Instr.loadAt 45 (vP w3.heap.size 0)) (vA [(vI (m + 1)), (vI j)]) (rn_lda (vs := [(vI (m + 1)), (vI j)]) (hBw5.all)) ?_)))))))
    refine wpF_step (op_call (some 53) (c_Blocks (nof k) (m + 1) j _ (by omega) (by omega) (by omega) (by omega)) ?_)
    rintro _ w25 ⟨rfl, hEw25⟩
    have hzw25 := hEw25.size
    refine wpF_run 7 [(14, (vI 0)), (13, (vI (min (nof k) ((j + 1) * wid (m + 1))))), (12, (vI (j * wid (m + 1)))), (56, (vI 0)), (55, (vI (min (nof k) ((j + 1) * wid (m + 1))))), (54, (vI (j * wid (m + 1)))), (50, (.tuple #[(vI (j * wid (m + 1))), (vI (min (nof k) ((j + 1) * wid (m + 1)))), (vI 0)]))] (wpF_end (then_code (wpC_seq (wpC_seq (wpC_region (wpF_run 1 [(57, (vI 0))] (wpF_step (op_b (some 58) (((0 : Nat) : Int) != ((0 : Nat) : Int)) false (cmpNeF (by omega)) ?_))))))))
    refine wpF_run 2 [(60, (vI (j * wid (m + 1)))), (59, vF)] (wpF_step (op_b (some 61) (decide (((j * wid (m + 1) : Nat) : Int) < ((0 : Nat) : Int))) false (cmpDF (by omega)) ?_))
    refine wpF_run 4 [(65, (vI (nof k))), (64, (vI (min (nof k) ((j + 1) * wid (m + 1))))), (63, vF), (62, vF)] (wpF_step (op_b (some 66) (decide (((min (nof k) ((j + 1) * wid (m + 1)) : Nat) : Int) > ((nof k : Nat) : Int))) false (cmpDF (by omega)) ?_))
    refine wpF_run 4 [(70, (vI (min (nof k) ((j + 1) * wid (m + 1))))), (69, (vI (j * wid (m + 1)))), (68, vF), (67, vF)] (wpF_step (op_b (some 71) (decide (((j * wid (m + 1) : Nat) : Int) ≥ ((min (nof k) ((j + 1) * wid (m + 1)) : Nat) : Int))) false (cmpDF (by omega)) ?_))
    refine wpF_run 1 [(72, vF)] (wpF_end (then_code (wpC_false (wpC_skip (then_code (wpC_seq (wpC_region (wpF_run 2 [(15, (vI (j * wid (m + 1)))), (73, (vI (j * wid (m + 1))))] (wpF_end ?_)))))))))
    refine then_code (wpC_seq (wpC_seq (wpC_region (wpF_run 1 [(16, (vI 0))] (wpF_end (then_code (wpC_block (wpC_loop (X := Nat) (fun w_ => [(15, (vI (min (nof k) ((4 * j + w_) * wid m)))), (16, (vI w_))]) [6, 17, 18, 19, 20, 21, 22, 23, 24, 74, 75, 76, 77, 78, 79, 80, 81, 82, 83, 84, 85, 86, 87, 88, 89, 90, 91, 92, 93, 94, 95, 96, 97, 98, 99, 100, 101, 102, 103, 104, 105, 106, 107, 108, 109, 110, 111, 112, 113, 114, 115, 116, 117, 118, 119, 120, 121, 122, 123, 124, 125, 126, 127, 128, 129, 130, 131, 132, 133, 134, 135, 136, 137, 138, 139, 140, 141, 142, 143, 144, 145, 146, 147, 148, 149, 150, 151, 152, 153, 154, 155] (fun w_ w26 => w_ ≤ 4 ∧ Ext w25 w26) (fun w_ => 4 - w_) 0 (by rw [show j * wid (m + 1) = min (nof k) ((4 * j + 0) * wid m) from hst]; kernel_rfl) ⟨by omega, Ext.refl _⟩ ?_))))))))
    rintro w_ dw26 w26 ⟨hw, hEl⟩
    have hzl := hEl.size
    refine wpC_seq (wpC_seq (wpC_region (wpF_run 1 [(74, (vI w_))] (wpF_step (op_split (some 75) (decide (((w_ : Nat) : Int) < ((4 : Nat) : Int))) (fun hc75 => ?_) (fun hc75 => ?_))))))
    · replace hc75 : w_ < 4 := by have := of_d_t hc75; omega
      refine wpF_end (then_code (wpC_true (wpC_skip (then_code (wpC_seq (wpC_block (wpC_seq (wpC_region (wpF_run 1 [(79, (vI (nof k)))] ?_)))))))))
      refine wpF_step (op_v (some 80) (Instr.loadAt 45 (vP w3.heap.size 0)) (vA [(vI (m + 1)), (vI j)]) (rn_lda (vs := [(vI (m + 1)), (vI j)]) ((((hBw5.ext hEw25)).ext hEl).all)) ?_)
      refine wpF_run 1 [(81, (vI w_))] ?_
      by_cases hwp2 : w_ < prt (nof k) (m + 1) j
      · have hcu := (lt_prt (n := nof k) (l := m + 1) (j := j) (by omega)).1 hwp2
        have hA2 := (cnt_wid (nof k) m (4 * j + w_)).1 hcu
        have hB2 : (4 * j + w_ + 1) * wid m = (4 * j + w_) * wid m + wid m := by rw [Nat.add_mul, Nat.one_mul]
        have hwp3 := wid_pos m
        refine wpF_step (op_call (some 82) (c_Child (nof k) (m + 1) j w_ _ (by omega) (by omega) (by omega) (by omega) (by omega) (by omega) (by omega)) ?_)
        rintro _ w27 ⟨rfl, hEw27⟩
        have hzw27 := hEw27.size
        rw [show (m + 1) - 1 = m from rfl]
        refine wpF_run 3 [(84, (vI 0)), (83, (vA [(vI m), (vI (4 * j + w_))])), (78, (.tuple #[(vA [(vI m), (vI (4 * j + w_))]), (vI 0)]))] (wpF_step (op_new (some 17) (Instr.alloc 45 true (.tuple #[])) (vP w27.heap.size 0) ([(vI 0), (vI 0)]) 45 ?_))
        intro w28 hBw28 hEw28
        have hzw28 := hEw28.size; have hlw28 := hBw28.lt
        refine wpF_step (op_store 45 w27.heap.size 0 45 (vA [(vI m), (vI (4 * j + w_))]) ([(vI 0), (vI 0)]) ([(vI m), (vI (4 * j + w_))]) hBw28 (by kernel_rfl) (by first | decide | (simp; done) | (simp; omega)) (by simp [Value.oneCell']) ?_)
        intro w29 hBw29 hCw29
        have hzw29 := hCw29.size
        rw [setFrom_all _ _ (by kernel_rfl)] at hBw29
        refine wpF_run 1 [(18, (vI 0))] (wpF_end (then_code (wpC_seq (wpC_seq (wpC_region (wpF_run 1 [(85, (vI (m + 1)))] (wpF_step (op_b (some 86) ((((m + 1) : Nat) : Int) == ((0 : Nat) : Int)) false (cmpEqF (by omega)) ?_))))))))
        refine wpF_run 3 [(89, (vI (prt (nof k) (m + 1) j))), (88, (vI w_)), (87, vF)] (wpF_step (op_b (some 90) (decide (((w_ : Nat) : Int) ≥ ((prt (nof k) (m + 1) j : Nat) : Int))) false (cmpDF (by omega)) ?_))
        refine wpF_run 1 [(91, vF)] (wpF_end (then_code (wpC_false (wpC_skip (then_code (wpC_seq (wpC_region (wpF_run 1 [(100, (vI (nof k)))] (wpF_step (op_v (some 101) (Instr.loadAt 45 (vP w27.heap.size 0)) (vA [(vI m), (vI (4 * j + w_))]) (rn_lda (vs := [(vI m), (vI (4 * j + w_))]) (hBw29.all)) ?_))))))))))
        refine wpF_step (op_call (some 102) (c_Parent (nof k) m (4 * j + w_) _ (by omega) (by omega) (by omega) (hcu) (by omega)) ?_)
        rintro _ w30 ⟨rfl, hEw30⟩
        have hzw30 := hEw30.size
        refine wpF_run 4 [(105, (vI 0)), (104, (vI ((4 * j + w_) % 4))), (103, (vA [(vI (m + 1)), (vI ((4 * j + w_) / 4))])), (99, (.tuple #[(vA [(vI (m + 1)), (vI ((4 * j + w_) / 4))]), (vI ((4 * j + w_) % 4)), (vI 0)]))] (wpF_step (op_new (some 19) (Instr.alloc 45 true (.tuple #[])) (vP w30.heap.size 0) ([(vI 0), (vI 0)]) 45 ?_))
        intro w31 hBw31 hEw31
        have hzw31 := hEw31.size; have hlw31 := hBw31.lt
        refine wpF_step (op_store 45 w30.heap.size 0 45 (vA [(vI (m + 1)), (vI ((4 * j + w_) / 4))]) ([(vI 0), (vI 0)]) ([(vI (m + 1)), (vI ((4 * j + w_) / 4))]) hBw31 (by kernel_rfl) (by first | decide | (simp; done) | (simp; omega)) (by simp [Value.oneCell']) ?_)
        intro w32 hBw32 hCw32
        have hzw32 := hCw32.size
        rw [setFrom_all _ _ (by kernel_rfl)] at hBw32
        refine wpF_run 2 [(21, (vI 0)), (20, (vI ((4 * j + w_) % 4)))] (wpF_end (then_code (wpC_seq (wpC_region (wpF_run 1 [(107, (vI (nof k)))] ?_)))))
        have hK2 := (((((hBw29.ext hEw30)).ext hEw31)).chg hCw32 (fun hs => by have h : _ = _ := hs; omega))
        refine wpF_step (op_v (some 108) (Instr.loadAt 45 (vP w27.heap.size 0)) (vA [(vI m), (vI (4 * j + w_))]) (rn_lda (vs := [(vI m), (vI (4 * j + w_))]) (hK2.all)) ?_)
        refine wpF_step (op_call (some 109) (c_Blocks (nof k) m (4 * j + w_) _ (by omega) (by omega) (by omega) (hcu)) ?_)
        rintro _ w33 ⟨rfl, hEw33⟩
        have hzw33 := hEw33.size
        refine wpF_run 7 [(24, (vI 0)), (23, (vI (min (nof k) (((4 * j + w_) + 1) * wid m)))), (22, (vI ((4 * j + w_) * wid m))), (112, (vI 0)), (111, (vI (min (nof k) (((4 * j + w_) + 1) * wid m)))), (110, (vI ((4 * j + w_) * wid m))), (106, (.tuple #[(vI ((4 * j + w_) * wid m)), (vI (min (nof k) (((4 * j + w_) + 1) * wid m))), (vI 0)]))] (wpF_end (then_code (wpC_seq (wpC_seq ?_))))
        refine wpC_drawM (Ext w33.drew) 42 [(114, 262144, 0), (115, 10384593717069655257060992658440192, 1), (116, 20769187434139310514121985316880384, 2), (117, 41538374868278621028243970635857920, 4), (118, 124615124604835863084731911901282304, 12), (119, 207691874341393105141219853168803840, 20), (120, 332306998946228968225951765070086144, 36), (121, 664613997892457936451903530156949504, 64), (122, 1993841993677373809355710590420516864, 192), (123, 3323069989462289682259517650700861440, 320), (124, 5316911983139663491615228241121378304, 576), (125, 10633823966279326983230456482242887680, 1024), (126, 10633823966279326983230456482242757120, 1024), (127, 53169119831396634916152282411213783040, 5120), (128, 10633823966279326983230456482242757632, 1024), (129, 180775007426748558714917760198126862336, 17408), (130, 350916190887217790446605063914010968064, 33792), (131, 10633823966279326983230456482242822144, 1024), (132, 2052328025491910107763478101072852025344, 197632), (133, 2817963351064021650556070967794330501120, 271360), (134, 5476419342633853396363685088355019653120, 527360), (135, 10899669565436310157811217894298825523200, 1049600), (136, 21778071482940061661655974875633165533184, 2621440), (137, 43556142965880123323311949751266331590656, 4194304), (138, 43556142965880123323311949751266331067392, 4194304), (139, 304893000761160863263183648258864317464576, 29360128), (140, 392005286692921109909807547761396979597312, 37748736), (141, 696898287454081973172991196020261297061888, 71303168), (142, 1393796574908163946345982392040522595172352, 134217728), (143, 1393796574908163946345982392040522594189312, 134217728), (144, 9756576024357147624421876744283658158866432, 939524096), (145, 12544169174173475517113841528364703347113984, 1207959552), (146, 22300745198530623141535718272648361505980416, 2281701376), (147, 44601490397061246283071436545296723016155136, 4294967296), (148, 44601490397061246283071436545296723011993600, 4294967296), (149, 312210432779428723981500055817077061083725824, 30064771072), (150, 401413413573551216547642928907670507107647488, 38654705664), (151, 713623846352979940529142984724747568191373312, 73014444032), (152, 1427247692705959881058285969449495136391135232, 137438953472), (153, 1427247692705959881058285969449495136386940928, 137438953472), (154, 9990733848941719167408001786146465954679226368, 962072674304), (155, 12845229234353638929524573725045456227444719616, 1236950581248)] (fun hT501 => ?_)
        have hEw34 : Ext w33 w33.drew := Ext.drew w33
        generalize w33.drew = w34 at hEw34 ⊢
        have hzw34 := hEw34.size
        refine anyM_run hT501 [(0, 113, (vI 0))] 1 1 (anyM_take hT501 1 3 (some 114) vF (yld_b (((0 : Nat) : Int) != ((0 : Nat) : Int)) (cmpNeF (by omega))) (anyM_run hT501 [(2, 115, vF), (3, 116, (vI 0))] 2 15 (anyM_take hT501 4 31 (some 117) vF (yld_b (((0 : Nat) : Int) != ((0 : Nat) : Int)) (cmpNeF (by omega))) (anyM_run hT501 [(5, 118, vF), (6, 119, vF), (7, 120, (vI 0))] 3 255 (anyM_take hT501 8 511 (some 121) vF (yld_b (((0 : Nat) : Int) != ((0 : Nat) : Int)) (cmpNeF (by omega))) (anyM_run hT501 [(9, 122, vF), (10, 123, vF)] 2 2047 (anyM_take hT501 11 4095 (some 124) (vA [(vI m), (vI (4 * j + w_))]) (yld_val (Instr.loadAt 45 (vP w27.heap.size 0)) (fun w' hC => rn_lda (vs := [(vI m), (vI (4 * j + w_))]) (((((hK2.ext hEw33)).ext hEw34).ext hC).all))) (anyM_run hT501 [(12, 125, (vI (m + 1)))] 1 8191 (anyM_take hT501 13 16383 (some 126) (vI m) (yld_in .i64 (IntKind.i64.wrap ((((m + 1) : Nat) : Int) - ((1 : Nat) : Int))) (wrapS (by omega) (by omega) (by omega))) ?_)))))))))
        refine anyM_run hT501 [(14, 127, (vP w3.heap.size 1))] 1 32767 ?_
        have hK3 := (((((((((((((((((((hBw5.ext hEw25)).ext hEl)).ext hEw27)).ext hEw28)).chg hCw29 (fun hs => by have h : _ = _ := hs; omega))).ext hEw30)).ext hEw31)).chg hCw32 (fun hs => by have h : _ = _ := hs; omega))).ext hEw33)).ext hEw34)
        refine anyM_take hT501 15 65535 (some 128) (vI j) (yld_val (Instr.loadAt 3 (vP w3.heap.size 1)) (fun w' hC => rn_ld ((hK3.ext hC).cell rfl))) (anyM_take hT501 16 131071 (some 129) (vI (4 * j)) (yld_in .i64 (IntKind.i64.wrap (((4 : Nat) : Int) * ((j : Nat) : Int))) (wrapS (by omega) (by omega) (by omega))) (anyM_run hT501 [(17, 130, (vI w_))] 1 262143 (anyM_take hT501 18 524287 (some 131) (vI (4 * j + w_)) (yld_in .i64 (IntKind.i64.wrap (((4 * j : Nat) : Int) + ((w_ : Nat) : Int))) (wrapS (by omega) (by omega) (by omega))) (anyM_one 19 1048575 (op_call (some 132) (c_place m (4 * j + w_) _) ?_)))))
        rintro _ w35 ⟨rfl, hEw35⟩
        have hzw35 := hEw35.size
        refine ⟨.inr hEw35, ?_⟩
        refine anyM_take (hw := show Ext w34 w35 from hEw35) hT501 20 2097151 (some 133) vF (yld_val (bo .neq 45 (.tmp 124) (.tmp 132) (vA [(vI m), (vI (4 * j + w_))]) (vA [(vI m), (vI (4 * j + w_))])) (fun w' hC => run_neqAgg (r := true) (T := 45) ((run_eq_flat (dd := 9998) (t := 45) [(vI m), (vI (4 * j + w_))] [(vI m), (vI (4 * j + w_))]).trans (congrArg (fun b => Result.ok b _) (show (eqvs [(vI m), (vI (4 * j + w_))] [(vI m), (vI (4 * j + w_))]) = true from by simp [eqvs, eqv]))))) (anyM_run (hw := show Ext w34 w35 from hEw35) hT501 [(21, 134, vF), (22, 135, vF)] 2 8388607 (anyM_take (hw := show Ext w34 w35 from hEw35) hT501 23 16777215 (some 136) (vA [(vI (m + 1)), (vI ((4 * j + w_) / 4))]) (yld_val (Instr.loadAt 45 (vP w30.heap.size 0)) (fun w' hC => rn_lda (vs := [(vI (m + 1)), (vI ((4 * j + w_) / 4))]) (((((hBw32.ext hEw33)).ext hEw34).ext hC).all))) (anyM_take (hw := show Ext w34 w35 from hEw35) hT501 24 33554431 (some 137) (vA [(vI (m + 1)), (vI j)]) (yld_val (Instr.loadAt 45 (vP w3.heap.size 0)) (fun w' hC => rn_lda (vs := [(vI (m + 1)), (vI j)]) ((hK3.ext hC).all))) (anyM_take (hw := show Ext w34 w35 from hEw35) hT501 25 67108863 (some 138) vF (yld_val (bo .neq 45 (.tmp 136) (.tmp 137) (vA [(vI (m + 1)), (vI ((4 * j + w_) / 4))]) (vA [(vI (m + 1)), (vI j)])) (fun w' hC => run_neqAgg (r := true) (T := 45) ((run_eq_flat (dd := 9998) (t := 45) [(vI (m + 1)), (vI ((4 * j + w_) / 4))] [(vI (m + 1)), (vI j)]).trans (congrArg (fun b => Result.ok b _) (show (eqvs [(vI (m + 1)), (vI ((4 * j + w_) / 4))] [(vI (m + 1)), (vI j)]) = true from by simp [eqvs, eqv]; omega))))) ?_))))
        refine anyM_run (hw := show Ext w34 w35 from hEw35) hT501 [(26, 139, vF), (27, 140, vF), (28, 141, (vI ((4 * j + w_) % 4))), (29, 142, (vI w_))] 4 1073741823 (anyM_take (hw := show Ext w34 w35 from hEw35) hT501 30 2147483647 (some 143) vF (yld_b ((((4 * j + w_) % 4 : Nat) : Int) != ((w_ : Nat) : Int)) (cmpNeF (by omega))) (anyM_run (hw := show Ext w34 w35 from hEw35) hT501 [(31, 144, vF), (32, 145, vF), (33, 146, (vI ((4 * j + w_) * wid m))), (34, 147, (vI (min (nof k) ((4 * j + w_) * wid m))))] 4 34359738367 (anyM_take (hw := show Ext w34 w35 from hEw35) hT501 35 68719476735 (some 148) vF (yld_b ((((4 * j + w_) * wid m : Nat) : Int) != ((min (nof k) ((4 * j + w_) * wid m) : Nat) : Int)) (cmpNeF (by omega))) (anyM_run (hw := show Ext w34 w35 from hEw35) hT501 [(36, 149, vF), (37, 150, vF), (38, 151, (vI (min (nof k) (((4 * j + w_) + 1) * wid m)))), (39, 152, (vI ((4 * j + w_) * wid m)))] 4 1099511627775 (anyM_take (hw := show Ext w34 w35 from hEw35) hT501 40 2199023255551 (some 153) vF (yld_b (decide (((min (nof k) (((4 * j + w_) + 1) * wid m) : Nat) : Int) ≤ (((4 * j + w_) * wid m : Nat) : Int))) (cmpDF (by omega))) (anyM_run (hw := show Ext w34 w35 from hEw35) hT501 [(41, 154, vF)] 1 4398046511103 (anyM_done (then_code (wpC_false ?_)))))))))
        refine wpC_skip (then_code (wpC_region (wpF_run 2 [(15, (vI (min (nof k) (((4 * j + w_) + 1) * wid m)))), (155, (vI (min (nof k) (((4 * j + w_) + 1) * wid m))))] (wpF_end (inBlock_normal (then_code (wpC_region (wpF_run 1 [(76, (vI w_))] (wpF_step (op_in (some 77) .i64 (IntKind.i64.wrap (((w_ : Nat) : Int) + ((1 : Nat) : Int))) (w_ + 1) (wrapS (by omega) (by omega) (by omega)) ?_))))))))))
        refine wpF_run 1 [(16, (vI (w_ + 1)))] (wpF_end (then_normal ?_))
        have hX4 : Ext w25 w35 := ((((Ext.own (((Ext.own ((hEl.trans hEw27).trans hEw28) hCw29 (by omega)).trans hEw30).trans hEw31) hCw32 (by omega)).trans hEw33).trans hEw34).trans hEw35)
        refine endR_mk (w_ + 1) ?_ ?_
        · exact ⟨by omega, hX4⟩
        · first | omega | (dsimp only; omega)
      · have hcu : und (nof k) (m + 1) ≤ 4 * j + w_ := by rcases Nat.lt_or_ge (4 * j + w_) (und (nof k) (m + 1)) with h | h; exact absurd ((lt_prt (by omega)).2 h) hwp2; exact h
        have hA2 : nof k ≤ (4 * j + w_) * wid m := by rcases Nat.lt_or_ge ((4 * j + w_) * wid m) (nof k) with h | h; exact absurd ((cnt_wid (nof k) m (4 * j + w_)).2 h) (by rw [← und_succ]; omega); exact h
        have hnw : min (nof k) ((4 * j + w_) * wid m) = min (nof k) ((4 * j + (w_ + 1)) * wid m) := by have := Nat.mul_le_mul_right (wid m) (show 4 * j + w_ ≤ 4 * j + (w_ + 1) by omega); omega
        refine wpF_step (op_call (some 82) (c_ChildNone (nof k) (m + 1) j w_ _ (by omega) (by omega) (by omega) (by omega) (by omega) (by omega) (by omega)) ?_)
        rintro _ w36 ⟨rfl, hEw36⟩
        have hzw36 := hEw36.size
        refine wpF_run 3 [(84, (vI 11)), (83, (vA [(vI 0), (vI 0)])), (78, (.tuple #[(vA [(vI 0), (vI 0)]), (vI 11)]))] (wpF_step (op_new (some 17) (Instr.alloc 45 true (.tuple #[])) (vP w36.heap.size 0) ([(vI 0), (vI 0)]) 45 ?_))
        intro w37 hBw37 hEw37
        have hzw37 := hEw37.size; have hlw37 := hBw37.lt
        refine wpF_step (op_store 45 w36.heap.size 0 45 (vA [(vI 0), (vI 0)]) ([(vI 0), (vI 0)]) ([(vI 0), (vI 0)]) hBw37 (by kernel_rfl) (by first | decide | (simp; done) | (simp; omega)) (by simp [Value.oneCell']) ?_)
        intro w38 hBw38 hCw38
        have hzw38 := hCw38.size
        rw [setFrom_all _ _ (by kernel_rfl)] at hBw38
        refine wpF_run 1 [(18, (vI 11))] (wpF_end (then_code (wpC_seq (wpC_seq (wpC_region (wpF_run 1 [(85, (vI (m + 1)))] (wpF_step (op_b (some 86) ((((m + 1) : Nat) : Int) == ((0 : Nat) : Int)) false (cmpEqF (by omega)) ?_))))))))
        refine wpF_run 3 [(89, (vI (prt (nof k) (m + 1) j))), (88, (vI w_)), (87, vF)] (wpF_step (op_b (some 90) (decide (((w_ : Nat) : Int) ≥ ((prt (nof k) (m + 1) j : Nat) : Int))) true (cmpDT (by omega)) ?_))
        refine wpF_run 1 [(91, vT)] (wpF_end (then_code (wpC_true (wpC_seq (wpC_seq (wpC_drawM (Ext w38.drew) 7 [(93, 262144, 0), (94, 4951760157141521099596496896, 1), (95, 9903520314283042199192993792, 2), (96, 19807040628566084398386118656, 4), (97, 19807040628566084398385987584, 4), (98, 138649284399962590788701913088, 28), (99, 178263365657094759585473888256, 36)] (fun hT587 => ?_)))))))
        have hEw39 : Ext w38 w38.drew := Ext.drew w38
        generalize w38.drew = w39 at hEw39 ⊢
        have hzw39 := hEw39.size
        refine anyM_run hT587 [(0, 92, (vI 11))] 1 1 (anyM_take hT587 1 3 (some 93) vF (yld_b (((11 : Nat) : Int) != ((11 : Nat) : Int)) (cmpNeF (by omega))) (anyM_run hT587 [(2, 94, vF)] 1 7 (anyM_take hT587 3 15 (some 95) (vA [(vI 0), (vI 0)]) (yld_val (Instr.loadAt 45 (vP w36.heap.size 0)) (fun w' hC => rn_lda (vs := [(vI 0), (vI 0)]) (((hBw38.ext hEw39).ext hC).all))) (anyM_one 4 31 (op_call (some 96) (c_place 0 0 _) ?_)))))
        rintro _ w40 ⟨rfl, hEw40⟩
        have hzw40 := hEw40.size
        refine ⟨.inr hEw40, ?_⟩
        refine anyM_take (hw := show Ext w39 w40 from hEw40) hT587 5 63 (some 97) vF (yld_val (bo .neq 45 (.tmp 95) (.tmp 96) (vA [(vI 0), (vI 0)]) (vA [(vI 0), (vI 0)])) (fun w' hC => run_neqAgg (r := true) (T := 45) ((run_eq_flat (dd := 9998) (t := 45) [(vI 0), (vI 0)] [(vI 0), (vI 0)]).trans (congrArg (fun b => Result.ok b _) (show (eqvs [(vI 0), (vI 0)] [(vI 0), (vI 0)]) = true from by rfl))))) (anyM_run (hw := show Ext w39 w40 from hEw40) hT587 [(6, 98, vF)] 1 127 (anyM_done (then_code (wpC_false (wpC_skip (then_code (wpC_exit (then_exit (inBlock_exit ?_)))))))))
        refine then_code (wpC_region (wpF_run 1 [(76, (vI w_))] (wpF_step (op_in (some 77) .i64 (IntKind.i64.wrap (((w_ : Nat) : Int) + ((1 : Nat) : Int))) (w_ + 1) (wrapS (by omega) (by omega) (by omega)) ?_))))
        refine wpF_run 1 [(16, (vI (w_ + 1)))] (wpF_end (then_normal ?_))
        rw [hnw]
        have hX5 : Ext w25 w40 := (((Ext.own ((hEl.trans hEw36).trans hEw37) hCw38 (by omega)).trans hEw39).trans hEw40)
        refine endR_mk (w_ + 1) ?_ ?_
        · exact ⟨by omega, hX5⟩
        · first | omega | (dsimp only; omega)
    · replace hc75 : ¬ (w_ < 4) := by have := of_d_f hc75; omega
      obtain rfl : w_ = 4 := by omega
      refine wpF_end (then_code (wpC_false (wpC_exit (then_exit (then_exit (inBlock_exit (then_code (wpC_seq (wpC_seq ?_)))))))))
      refine wpC_region (wpF_run 1 [(156, (vI (m + 1)))] (wpF_step (op_b (some 157) (decide ((((m + 1) : Nat) : Int) > ((0 : Nat) : Int))) true (cmpDT (by omega)) ?_)))
      refine wpF_run 3 [(160, (vI (min (nof k) ((j + 1) * wid (m + 1))))), (159, (vI (min (nof k) ((4 * j + 4) * wid m)))), (158, vT)] (wpF_step (op_b (some 161) (((min (nof k) ((4 * j + 4) * wid m) : Nat) : Int) != ((min (nof k) ((j + 1) * wid (m + 1)) : Nat) : Int)) false (cmpNeF (by (have e4 : (4 * j + 4) * wid m = (j + 1) * wid (m + 1) := (by rw [← hwm (j + 1), show (j + 1) * 4 = 4 * j + 4 by omega])); omega)) ?_))
      refine wpF_run 3 [(164, (vI (m + 1))), (163, vF), (162, vF)] (wpF_step (op_b (some 165) ((((m + 1) : Nat) : Int) == ((0 : Nat) : Int)) false (cmpEqF (by omega)) ?_))
      refine wpF_run 15 [(180, vF), (179, vF), (178, undef), (177, undef), (176, undef), (175, undef), (174, undef), (173, undef), (172, undef), (171, undef), (170, undef), (169, undef), (168, undef), (167, undef), (166, vF)] (wpF_end (then_code (wpC_false (wpC_skip (then_code (wpC_seq (wpC_region (wpF_run 1 [(182, (vI (nof k)))] (wpF_step (op_v (some 183) (Instr.loadAt 45 (vP w3.heap.size 0)) (vA [(vI (m + 1)), (vI j)]) (rn_lda (vs := [(vI (m + 1)), (vI j)]) ((((hBw5.ext hEw25)).ext hEl).all)) ?_))))))))))
      by_cases ht : (m + 1) = hgt (nof k)
      · have hj0 : j = 0 := by have h := cnt_hgt hn1 hn2; rw [← ht] at h; omega
        have hf0 : j * wid (m + 1) = 0 := by rw [hj0, Nat.zero_mul]
        have ht0 : (j + 1) * wid (m + 1) = wid (m + 1) := by rw [hj0, Nat.zero_add, Nat.one_mul]
        have hra := root_all hn1 hn2
        rw [← ht] at hra
        refine wpF_step (op_call (some 184) (c_ParentTop (nof k) (m + 1) j _ (by omega) (by omega) (by omega) (by omega) (by omega)) ?_)
        rintro _ w41 ⟨rfl, hEw41⟩
        have hzw41 := hEw41.size
        refine wpF_run 4 [(187, (vI 11)), (186, (vI 0)), (185, (vA [(vI 0), (vI 0)])), (181, (.tuple #[(vA [(vI 0), (vI 0)]), (vI 0), (vI 11)]))] (wpF_step (op_new (some 25) (Instr.alloc 45 true (.tuple #[])) (vP w41.heap.size 0) ([(vI 0), (vI 0)]) 45 ?_))
        intro w42 hBw42 hEw42
        have hzw42 := hEw42.size; have hlw42 := hBw42.lt
        refine wpF_step (op_store 45 w41.heap.size 0 45 (vA [(vI 0), (vI 0)]) ([(vI 0), (vI 0)]) ([(vI 0), (vI 0)]) hBw42 (by kernel_rfl) (by first | decide | (simp; done) | (simp; omega)) (by simp [Value.oneCell']) ?_)
        intro w43 hBw43 hCw43
        have hzw43 := hCw43.size
        rw [setFrom_all _ _ (by kernel_rfl)] at hBw43
        refine wpF_run 2 [(14, (vI 11)), (26, (vI 0))] (wpF_end (then_code (wpC_seq (wpC_seq (wpC_region (wpF_run 2 [(189, (vI (hgt (nof k)))), (188, (vI (m + 1)))] (wpF_step (op_b (some 190) ((((m + 1) : Nat) : Int) == ((hgt (nof k) : Nat) : Int)) true (cmpEqT (by omega)) ?_))))))))
        refine wpF_end (then_code (wpC_true (wpC_seq ?_)))
        refine wpC_drawM (Ext w43.drew) 24 [(192, 16384, 0), (193, 3138550867693340381917894711603833208051177722232017256448, 1), (194, 6277101735386680763835789423207666416102355444464034512896, 2), (195, 12554203470773361527671578846415332832204710888928102580224, 4), (196, 12554203470773361527671578846415332832204710888928069025792, 4), (197, 87879424295413530693701051924907329825432976222496483180544, 28), (198, 112987831236960253749044209617737995489842398000352621232128, 36), (199, 200867255532373784442745261542645325315275374222849104412672, 80), (200, 401734511064747568885490523085290650630550748445698275934208, 128), (201, 1205203533194242706656471569255871951891652245337094626476032, 384), (202, 2008672555323737844427452615426453253152753742228491044126720, 640), (203, 3213876088517980551083924184682325205044405987565585670602752, 1152), (204, 6427752177035961102167848369364650410088811975131171341209600, 2048), (205, 19283256531107883306503545108093951230266435925393514023616512, 6144), (206, 32138760885179805510839241846823252050444059875655856706027520, 10240), (207, 51422017416287688817342786954917203280710495801049370729644032, 18432), (208, 102844034832575377634685573909834406561420991602098741459296256, 32768), (209, 102844034832575377634685573909834406561420991602098741459288192, 32768), (210, 719908243828027643442799017368840845929946941214691190215016448, 229376), (211, 925596313493178398712170165188509659052788924418888673133592576, 294912), (212, 1645504557321206042154969182557350504982735865633579863348609024, 557056), (213, 3291009114642412084309938365114701009965471731267159726697218048, 1048576), (214, 9873027343927236252929815095344103029896415193801479180091654144, 3145728), (7, 13164036458569648337239753460458804039861886925068638906788872192, 8388607)] (fun hT679 => ?_)
        have hEw44 : Ext w43 w43.drew := Ext.drew w43
        generalize w43.drew = w44 at hEw44 ⊢
        have hzw44 := hEw44.size
        refine anyM_run hT679 [(0, 191, (vI 11))] 1 1 (anyM_take hT679 1 3 (some 192) vT (yld_b (((11 : Nat) : Int) == ((11 : Nat) : Int)) (cmpEqT (by omega))) (anyM_run hT679 [(2, 193, vT)] 1 7 (anyM_take hT679 3 15 (some 194) (vA [(vI 0), (vI 0)]) (yld_val (Instr.loadAt 45 (vP w41.heap.size 0)) (fun w' hC => rn_lda (vs := [(vI 0), (vI 0)]) (((hBw43.ext hEw44).ext hC).all))) (anyM_one 4 31 (op_call (some 195) (c_place 0 0 _) ?_)))))
        rintro _ w45 ⟨rfl, hEw45⟩
        have hzw45 := hEw45.size
        refine ⟨.inr hEw45, ?_⟩
        refine anyM_take (hw := show Ext w44 w45 from hEw45) hT679 5 63 (some 196) vT (yld_val (bo .eql 45 (.tmp 194) (.tmp 195) (vA [(vI 0), (vI 0)]) (vA [(vI 0), (vI 0)])) (fun w' hC => run_eqlAgg (r := true) (T := 45) ((run_eq_flat (dd := 9998) (t := 45) [(vI 0), (vI 0)] [(vI 0), (vI 0)]).trans (congrArg (fun b => Result.ok b _) (show (eqvs [(vI 0), (vI 0)] [(vI 0), (vI 0)]) = true from by rfl))))) (anyM_run (hw := show Ext w44 w45 from hEw45) hT679 [(6, 197, vT), (7, 198, vT), (8, 199, (vI 0))] 3 511 (anyM_take (hw := show Ext w44 w45 from hEw45) hT679 9 1023 (some 200) vT (yld_b (((0 : Nat) : Int) == ((0 : Nat) : Int)) (cmpEqT (by omega))) (anyM_run (hw := show Ext w44 w45 from hEw45) hT679 [(10, 201, vT), (11, 202, vT), (12, 203, (vI (j * wid (m + 1))))] 3 8191 (anyM_take (hw := show Ext w44 w45 from hEw45) hT679 13 16383 (some 204) vT (yld_b (((j * wid (m + 1) : Nat) : Int) == ((0 : Nat) : Int)) (cmpEqT (by omega))) (anyM_run (hw := show Ext w44 w45 from hEw45) hT679 [(14, 205, vT), (15, 206, vT), (16, 207, (vI (min (nof k) ((j + 1) * wid (m + 1))))), (17, 208, (vI (nof k)))] 4 262143 (anyM_take (hw := show Ext w44 w45 from hEw45) hT679 18 524287 (some 209) vT (yld_b (((min (nof k) ((j + 1) * wid (m + 1)) : Nat) : Int) == ((nof k : Nat) : Int)) (cmpEqT (by omega))) (anyM_run (hw := show Ext w44 w45 from hEw45) hT679 [(19, 210, vT), (20, 211, vT)] 2 2097151 (anyM_one 21 4194303 (op_call (some 212) (c_lives12 _) ?_)))))))))
        rintro _ w46 ⟨rfl, hEw46⟩
        have hzw46 := hEw46.size
        refine ⟨.inr (hEw45.trans hEw46), ?_⟩
        refine anyM_run (hw := show Ext w44 w46 from (hEw45.trans hEw46)) hT679 [(22, 213, vT), (23, 6, vT)] 2 16777215 (anyM_done (then_code (wpC_ret (then_ret (body_rets vT ?_)))))
        have hX6 : Ext w w46 := ((((Ext.own (((((Ext.own (((hEw1.trans hEw2).trans hEw3).trans hEw4) hCw5 (by omega)).trans hEw25).trans hEl).trans hEw41).trans hEw42) hCw43 (by omega)).trans hEw44).trans hEw45).trans hEw46)
        exact ⟨rfl, hX6⟩
      · have hlh : (m + 1) < hgt (nof k) := by omega
        refine wpF_step (op_call (some 184) (c_Parent (nof k) (m + 1) j _ (by omega) (by omega) (by omega) (by omega) (by omega)) ?_)
        rintro _ w47 ⟨rfl, hEw47⟩
        have hzw47 := hEw47.size
        refine wpF_run 4 [(187, (vI 0)), (186, (vI (j % 4))), (185, (vA [(vI ((m + 1) + 1)), (vI (j / 4))])), (181, (.tuple #[(vA [(vI ((m + 1) + 1)), (vI (j / 4))]), (vI (j % 4)), (vI 0)]))] (wpF_step (op_new (some 25) (Instr.alloc 45 true (.tuple #[])) (vP w47.heap.size 0) ([(vI 0), (vI 0)]) 45 ?_))
        intro w48 hBw48 hEw48
        have hzw48 := hEw48.size; have hlw48 := hBw48.lt
        refine wpF_step (op_store 45 w47.heap.size 0 45 (vA [(vI ((m + 1) + 1)), (vI (j / 4))]) ([(vI 0), (vI 0)]) ([(vI ((m + 1) + 1)), (vI (j / 4))]) hBw48 (by kernel_rfl) (by first | decide | (simp; done) | (simp; omega)) (by simp [Value.oneCell']) ?_)
        intro w49 hBw49 hCw49
        have hzw49 := hCw49.size
        rw [setFrom_all _ _ (by kernel_rfl)] at hBw49
        refine wpF_run 2 [(14, (vI 0)), (26, (vI (j % 4)))] (wpF_end (then_code (wpC_seq (wpC_seq (wpC_region (wpF_run 2 [(189, (vI (hgt (nof k)))), (188, (vI (m + 1)))] (wpF_step (op_b (some 190) ((((m + 1) : Nat) : Int) == ((hgt (nof k) : Nat) : Int)) false (cmpEqF (by omega)) ?_))))))))
        refine wpF_end (then_code (wpC_false (wpC_skip (then_code (wpC_seq ?_)))))
        refine wpC_drawM (Ext w49.drew) 23 [(215, 16384, 0), (216, 26328072917139296674479506920917608079723773850137277813577744384, 1), (217, 52656145834278593348959013841835216159447547700274555627155488768, 2), (218, 105312291668557186697918027683670432318895095400549111254344531968, 4), (219, 105312291668557186697918027683670432318895095400549111254310978048, 4), (220, 526561458342785933489590138418352161594475477002745556271554887680, 20), (221, 105312291668557186697918027683670432318895095400549111254310978560, 4), (222, 1790308958365472173864606470622397349421216621809334891323286618112, 68), (223, 3475305625062387161031294913561124266523538148218120671392262258688, 132), (224, 7687797291804674628948016020907941559279341964240085121564701360128, 292), (225, 13795910208580991457427261626560826633775257497471933574314738057216, 524), (226, 27065258958819196981364933114703301105956039517941121592357921226752, 1028), (227, 53919893334301279589334030174039261347274288845081144962207220498432, 2560), (228, 107839786668602559178668060348078522694548577690162289924414508105728, 4096), (229, 107839786668602559178668060348078522694548577690162289924414440997888, 4096), (230, 539198933343012795893340301740392613472742888450811449622072204984320, 20480), (231, 970558080017423032608012543132706704250937199211460609319729968971776, 36864), (232, 2048955946703448624394693146613491931196422976113083508563874378940416, 77824), (233, 3558712960063884452896045991486591248920103063775355567505676552896512, 135168), (234, 6901746346790563787434755862277025452451108972170386555162524223799296, 266240), (235, 13803492693581127574869511724554050904902217944340773110325048447598592, 524288), (236, 41410478080743382724608535173662152714706653833022319330975145342795776, 1572864), (7, 55213970774324510299478046898216203619608871777363092441300193790394368, 4194303)] (fun hT737 => ?_)
        have hEw50 : Ext w49 w49.drew := Ext.drew w49
        generalize w49.drew = w50 at hEw50 ⊢
        have hzw50 := hEw50.size
        refine anyM_run hT737 [(0, 214, (vI 0))] 1 1 (anyM_take hT737 1 3 (some 215) vT (yld_b (((0 : Nat) : Int) == ((0 : Nat) : Int)) (cmpEqT (by omega))) (anyM_run hT737 [(2, 216, vT)] 1 7 (anyM_take hT737 3 15 (some 217) (vA [(vI ((m + 1) + 1)), (vI (j / 4))]) (yld_val (Instr.loadAt 45 (vP w47.heap.size 0)) (fun w' hC => rn_lda (vs := [(vI ((m + 1) + 1)), (vI (j / 4))]) (((hBw49.ext hEw50).ext hC).all))) (anyM_run hT737 [(4, 218, (vI (m + 1)))] 1 31 (anyM_take hT737 5 63 (some 219) (vI ((m + 1) + 1)) (yld_in .i64 (IntKind.i64.wrap ((((m + 1) : Nat) : Int) + ((1 : Nat) : Int))) (wrapS (by omega) (by omega) (by omega))) (anyM_run hT737 [(6, 220, (vP w3.heap.size 1))] 1 127 ?_))))))
        have hK4 := (((((((((((hBw5.ext hEw25)).ext hEl)).ext hEw47)).ext hEw48)).chg hCw49 (fun hs => by have h : _ = _ := hs; omega))).ext hEw50)
        refine anyM_take hT737 7 255 (some 221) (vI j) (yld_val (Instr.loadAt 3 (vP w3.heap.size 1)) (fun w' hC => rn_ld ((hK4.ext hC).cell rfl))) (anyM_take hT737 8 511 (some 222) (vI (j / 4)) (yld_in .i64 (IntKind.i64.wrap (((j : Nat) : Int).tdiv ((4 : Nat) : Int))) (wrapS (tdivN _ _) (by omega) (by omega))) (anyM_one 9 1023 (op_call (some 223) (c_place ((m + 1) + 1) (j / 4) _) ?_)))
        rintro _ w51 ⟨rfl, hEw51⟩
        have hzw51 := hEw51.size
        refine ⟨.inr hEw51, ?_⟩
        refine anyM_take (hw := show Ext w50 w51 from hEw51) hT737 10 2047 (some 224) vT (yld_val (bo .eql 45 (.tmp 217) (.tmp 223) (vA [(vI ((m + 1) + 1)), (vI (j / 4))]) (vA [(vI ((m + 1) + 1)), (vI (j / 4))])) (fun w' hC => run_eqlAgg (r := true) (T := 45) ((run_eq_flat (dd := 9998) (t := 45) [(vI ((m + 1) + 1)), (vI (j / 4))] [(vI ((m + 1) + 1)), (vI (j / 4))]).trans (congrArg (fun b => Result.ok b _) (show (eqvs [(vI ((m + 1) + 1)), (vI (j / 4))] [(vI ((m + 1) + 1)), (vI (j / 4))]) = true from by simp [eqvs, eqv]))))) (anyM_run (hw := show Ext w50 w51 from hEw51) hT737 [(11, 225, vT), (12, 226, vT), (13, 227, (vI (j % 4))), (14, 228, (vP w3.heap.size 1))] 4 32767 (anyM_take (hw := show Ext w50 w51 from hEw51) hT737 15 65535 (some 229) (vI j) (yld_val (Instr.loadAt 3 (vP w3.heap.size 1)) (fun w' hC => rn_ld ((hK4.ext hC).cell rfl))) (anyM_take (hw := show Ext w50 w51 from hEw51) hT737 16 131071 (some 230) (vI (j % 4)) (yld_in .i64 (((j : Nat) : Int).tmod ((4 : Nat) : Int)) (tmodN _ _)) (anyM_take (hw := show Ext w50 w51 from hEw51) hT737 17 262143 (some 231) vT (yld_b (((j % 4 : Nat) : Int) == ((j % 4 : Nat) : Int)) (cmpEqT rfl)) (anyM_run (hw := show Ext w50 w51 from hEw51) hT737 [(18, 232, vT), (19, 233, vT)] 2 1048575 (anyM_one 20 2097151 (op_call (some 234) (c_lives12 _) ?_)))))))
        rintro _ w52 ⟨rfl, hEw52⟩
        have hzw52 := hEw52.size
        refine ⟨.inr (hEw51.trans hEw52), ?_⟩
        refine anyM_run (hw := show Ext w50 w52 from (hEw51.trans hEw52)) hT737 [(21, 235, vT), (22, 6, vT)] 2 8388607 (anyM_done (then_code (wpC_ret (body_rets vT ?_))))
        have hX7 : Ext w w52 := ((((Ext.own (((((Ext.own (((hEw1.trans hEw2).trans hEw3).trans hEw4) hCw5 (by omega)).trans hEw25).trans hEl).trans hEw47).trans hEw48) hCw49 (by omega)).trans hEw50).trans hEw51).trans hEw52)
        exact ⟨rfl, hX7⟩

end Go.Proofs.Ytpcbhalagllhnaa
