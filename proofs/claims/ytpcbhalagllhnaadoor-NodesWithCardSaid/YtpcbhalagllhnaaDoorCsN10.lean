/- CsN10: what each function does, by its own code. No condition beyond those of each statement. -/
import Derived.Test.YtpcbhalagllhnaaDoorCsN7
import Derived.Test.YtpcbhalagllhnaaDoorCsNod3
namespace Go.Proofs.YtpcbhalagllhnaaDoor
open Go Go.RowKit Go.Cs
set_option maxRecDepth 100000
set_option linter.all false
set_option linter.unusedVariables false

theorem c_NW00 (x : NN) (v : Nat) (z : Par)  (w : World) (hp0 : x.l = 0) (hp1 : chkR z.r = 0) (hg0 : Gl 0 [vI 45, vI 33] w) :
    Calls Tryd.prog 6 #[(vA (nnC x)), (vB v), (vA (parC z))] w (Ret fun r w' => r = vT ∧ Ext w w') := by
  refine calls_of (n := 110) (σ := [(0, (vA (nnC x))), (1, (vB v)), (2, (vA (parC z)))]) Tryd.func6 rfl ?_
  have hgl0 := hg0.lt
  have hn1 := x.n_ok
  have hl5 := x.l_le5
  have hc0 := x.chk0
  have hnp := nodB_pos (x.nod x.p)
  have hv4 : v % 4 < 4 := Nat.mod_lt _ (by decide)
  have hlv0 : (x.nod x.p).lv = x.l := rfl
  have hcw : chkN ((x.nod x.p).setR (v % 4) z.r) = 0 := by rw [chkN_setR hv4 hc0 (by omega)]; exact hp1
  have hw0 : withE (x.nod x.p) ((v % 4 : Nat) : Int) 0 = 0 := withE_yes hv4 hc0 (by omega)
  refine wpC_seq (wpC_region (wpF_step (op_new (some 3) (Instr.box 27 (vA (nnC x))) (vP w.heap.size 0) (nnC x) 27 ?_)))
  intro w1 hBw1 hEw1
  have hzw1 := hEw1.size; have hlw1 := hBw1.lt
  refine wpF_step (op_new (some 5) (Instr.box 63 (vA (parC z))) (vP w1.heap.size 0) (parC z) 63 ?_)
  intro w2 hBw2 hEw2
  have hzw2 := hEw2.size; have hlw2 := hBw2.lt
  refine wpF_run 1 [(6, vF)] (wpF_end (then_code (wpC_seq (wpC_region (wpF_step (op_v (some 17) (Instr.loadAt 27 (vP w.heap.size 0)) (vA (nnC x)) (rn_lda (vs := nnC x) ((hBw1.ext hEw2).all) (by rw [nnC_len]; kernel_rfl)) ?_))))))
  refine wpF_step (op_call (some 18) (c_NNOf x _) ?_)
  rintro _ w3 ⟨rfl, hEw3⟩
  have hzw3 := hEw3.size
  refine wpF_run 3 [(20, (vA (nodC (x.nod x.p)))), (19, (vI x.n)), (16, (.tuple #[(vI x.n), (vA (nodC (x.nod x.p)))]))] (wpF_step (op_new (some 8) (Instr.alloc 41 true (.tuple #[])) (vP w3.heap.size 0) (nodC Nod.zero) 41 ?_))
  intro w4 hBw4 hEw4
  have hzw4 := hEw4.size; have hlw4 := hBw4.lt
  refine wpF_run 1 [(7, (vI x.n))] (wpF_step (op_store 41 w3.heap.size 0 41 (vA (nodC (x.nod x.p))) (nodC Nod.zero) (nodC (x.nod x.p)) hBw4 (by rw [nodC_len]; kernel_rfl) (by first | (simp; done) | (simp; omega)) (nodC_one _) ?_))
  intro w5 hBw5 hCw5
  have hzw5 := hCw5.size
  rw [setFrom_all _ _ (by simp)] at hBw5
  refine wpF_end (then_code (wpC_seq (wpC_region (wpF_run 1 [(21, (vB v))] (wpF_step (op_in (some 22) .u8 (((v : Nat) : Int).tmod ((4 : Nat) : Int)) (v % 4) (tmodN _ _) ?_))))))
  refine wpF_step (op_in (some 23) .i64 (IntKind.i64.wrap ((v % 4 : Nat) : Int)) (v % 4) (wrapS rfl (by omega) (by omega)) ?_)
  refine wpF_run 1 [(9, (vI (v % 4)))] (wpF_end (then_code (wpC_seq (wpC_region (wpF_step (op_v (some 24) (Instr.loadAt 41 (vP w3.heap.size 0)) (vA (nodC (x.nod x.p))) (rn_lda (vs := nodC (x.nod x.p)) (hBw5.all) (by rw [nodC_len]; kernel_rfl)) ?_))))))
  refine wpF_step (op_new (some 10) (Instr.alloc 41 true (.tuple #[])) (vP w5.heap.size 0) (nodC Nod.zero) 41 ?_)
  intro w6 hBw6 hEw6
  have hzw6 := hEw6.size; have hlw6 := hBw6.lt
  refine wpF_step (op_store 41 w5.heap.size 0 41 (vA (nodC (x.nod x.p))) (nodC Nod.zero) (nodC (x.nod x.p)) hBw6 (by rw [nodC_len]; kernel_rfl) (by first | (simp; done) | (simp; omega)) (nodC_one _) ?_)
  intro w7 hBw7 hCw7
  have hzw7 := hCw7.size
  rw [setFrom_all _ _ (by simp)] at hBw7
  refine wpF_end (then_code (wpC_seq (wpC_region (wpF_run 2 [(26, (vP w1.heap.size 0)), (25, (vI (v % 4)))] ?_))))
  have hK1 := (((((((((hBw2.ext hEw3)).ext hEw4)).chg hCw5 (fun hs => by have h : _ = _ := hs; omega))).ext hEw6)).chg hCw7 (fun hs => by have h : _ = _ := hs; omega))
  refine wpF_step (op_v (some 27) (Instr.loadAt 35 (vP w1.heap.size 0)) (vA (recC z.r)) (rn_lda (vs := recC z.r) (hK1.at 0 (recC z.r) (par_r _)) (by rw [recC_len]; kernel_rfl)) ?_)
  refine wpF_run 1 [(28, (vP w5.heap.size 2))] (wpF_step (op_v (some 29) (Instr.indexAt 36 (vP w5.heap.size 2) (vI (v % 4))) (vP w5.heap.size (2 + (v % 4) * 35)) (rn_ixa (E := 35) (sz := 35) (m := 4) (by omega)) ?_))
  refine wpF_step (op_store 35 w5.heap.size (2 + (v % 4) * 35) 41 (vA (recC z.r)) (nodC (x.nod x.p)) (recC z.r) hBw7 (by rw [recC_len]; kernel_rfl) (by first | (simp; done) | (simp; omega)) (recC_one _) ?_)
  intro w8 hBw8 hCw8
  have hzw8 := hCw8.size
  rw [show (setFrom (nodC (x.nod x.p)) (2 + (v % 4) * 35) (recC z.r) : List Value) = nodC ((x.nod x.p).setR (v % 4) z.r) from nod_setR (by omega)] at hBw8
  refine wpF_end (then_code (wpC_seq (wpC_region (wpF_run 2 [(31, (vP w1.heap.size 35)), (30, (vI (v % 4)))] (wpF_step (op_v (some 32) (Instr.loadAt 38 (vP w1.heap.size 35)) (vA (entC z.e)) (rn_lda (vs := entC z.e) (((hK1).chg hCw8 (fun hs => by have h : _ = _ := hs; omega)).at 35 (entC z.e) (par_e _)) (by rw [entC_len]; kernel_rfl)) ?_))))))
  refine wpF_run 1 [(33, (vP w5.heap.size 142))] (wpF_step (op_v (some 34) (Instr.indexAt 39 (vP w5.heap.size 142) (vI (v % 4))) (vP w5.heap.size (142 + (v % 4) * 33)) (rn_ixa (E := 38) (sz := 33) (m := 4) (by omega)) ?_))
  refine wpF_step (op_store 38 w5.heap.size (142 + (v % 4) * 33) 41 (vA (entC z.e)) (nodC ((x.nod x.p).setR (v % 4) z.r)) (entC z.e) hBw8 (by rw [entC_len]; kernel_rfl) (by first | (simp; done) | (simp; omega)) (entC_one _) ?_)
  intro w9 hBw9 hCw9
  have hzw9 := hCw9.size
  rw [show (setFrom (nodC ((x.nod x.p).setR (v % 4) z.r)) (142 + (v % 4) * 33) (entC z.e) : List Value) = nodC (((x.nod x.p).setR (v % 4) z.r).setE (v % 4) z.e) from nod_setE (by omega)] at hBw9
  refine wpF_end (then_code (wpC_seq (wpC_seq (wpC_region (wpF_run 1 [(35, (vP w3.heap.size 0))] ?_)))))
  have hK2 := (((((((hBw5.ext hEw6)).chg hCw7 (fun hs => by have h : _ = _ := hs; omega))).chg hCw8 (fun hs => by have h : _ = _ := hs; omega))).chg hCw9 (fun hs => by have h : _ = _ := hs; omega))
  refine wpF_step (op_v (some 36) (Instr.loadAt 5 (vP w3.heap.size 0)) (vB ((x.nod x.p).lv)) (rn_ld (hK2.cell rfl)) ?_)
  refine wpF_step (op_b (some 37) ((((x.nod x.p).lv : Nat) : Int) == ((0 : Nat) : Int)) true (cmpEqT (by omega)) ?_)
  refine wpF_end (then_code (wpC_true (wpC_region (wpF_run 3 [(40, (vP w5.heap.size 142)), (39, (vA (entC Ent.zero))), (38, (vI (v % 4)))] (wpF_step (op_v (some 41) (Instr.indexAt 39 (vP w5.heap.size 142) (vI (v % 4))) (vP w5.heap.size (142 + (v % 4) * 33)) (rn_ixa (E := 38) (sz := 33) (m := 4) (by omega)) ?_))))))
  refine wpF_step (op_store 38 w5.heap.size (142 + (v % 4) * 33) 41 (vA (entC Ent.zero)) (nodC (((x.nod x.p).setR (v % 4) z.r).setE (v % 4) z.e)) (entC Ent.zero) hBw9 (by rw [entC_len]; kernel_rfl) (by first | (simp; done) | (simp; omega)) (entC_one _) ?_)
  intro w10 hBw10 hCw10
  have hzw10 := hCw10.size
  rw [show (setFrom (nodC (((x.nod x.p).setR (v % 4) z.r).setE (v % 4) z.e)) (142 + (v % 4) * 33) (entC Ent.zero) : List Value) = nodC ((x.nod x.p).setR (v % 4) z.r) from (nod_setE (by omega)).trans (congrArg nodC (wantR (by omega) (x.es0 hp0 (by omega))))] at hBw10
  refine wpF_end (then_code (wpC_seq (wpC_region (wpF_step (op_v (some 47) (Instr.loadAt 41 (vP w3.heap.size 0)) (vA (nodC (x.nod x.p))) (rn_lda (vs := nodC (x.nod x.p)) (((hK2).chg hCw10 (fun hs => by have h : _ = _ := hs; omega)).all) (by rw [nodC_len]; kernel_rfl)) ?_)))))
  refine wpF_run 2 [(49, (vP w1.heap.size 0)), (48, (vI (v % 4)))] ?_
  have hK3 := ((((((hK1).chg hCw8 (fun hs => by have h : _ = _ := hs; omega))).chg hCw9 (fun hs => by have h : _ = _ := hs; omega))).chg hCw10 (fun hs => by have h : _ = _ := hs; omega))
  refine wpF_step (op_v (some 50) (Instr.loadAt 35 (vP w1.heap.size 0)) (vA (recC z.r)) (rn_lda (vs := recC z.r) (hK3.at 0 (recC z.r) (par_r _)) (by rw [recC_len]; kernel_rfl)) ?_)
  refine wpF_step (op_call (some 51) (c_WithRecord (x.nod x.p) (v % 4) z.r _ (hw0) (by assumption)) ?_)
  rintro _ w11 ⟨rfl, hEw11⟩
  have hzw11 := hEw11.size
  refine wpF_run 3 [(53, (vI 0)), (52, (vA (nodC ((x.nod x.p).setR (v % 4) z.r)))), (46, (.tuple #[(vA (nodC ((x.nod x.p).setR (v % 4) z.r))), (vI 0)]))] (wpF_step (op_new (some 11) (Instr.alloc 41 true (.tuple #[])) (vP w11.heap.size 0) (nodC Nod.zero) 41 ?_))
  intro w12 hBw12 hEw12
  have hzw12 := hEw12.size; have hlw12 := hBw12.lt
  refine wpF_step (op_store 41 w11.heap.size 0 41 (vA (nodC ((x.nod x.p).setR (v % 4) z.r))) (nodC Nod.zero) (nodC ((x.nod x.p).setR (v % 4) z.r)) hBw12 (by rw [nodC_len]; kernel_rfl) (by first | (simp; done) | (simp; omega)) (nodC_one _) ?_)
  intro w13 hBw13 hCw13
  have hzw13 := hCw13.size
  rw [setFrom_all _ _ (by simp)] at hBw13
  refine wpF_run 1 [(12, (vI 0))] (wpF_end (then_code (wpC_seq (wpC_seq (wpC_region (wpF_run 1 [(54, (vP w3.heap.size 0))] ?_))))))
  have hK4 := ((((((((hK2).chg hCw10 (fun hs => by have h : _ = _ := hs; omega))).ext hEw11)).ext hEw12)).chg hCw13 (fun hs => by have h : _ = _ := hs; omega))
  refine wpF_step (op_v (some 55) (Instr.loadAt 5 (vP w3.heap.size 0)) (vB ((x.nod x.p).lv)) (rn_ld (hK4.cell rfl)) ?_)
  refine wpF_step (op_b (some 56) (decide ((((x.nod x.p).lv : Nat) : Int) > ((0 : Nat) : Int))) false (cmpDF (by omega)) ?_)
  refine wpF_end (then_code (wpC_false (wpC_skip (then_code (wpC_seq (wpC_region ?_))))))
  have hK5 := (((((hBw10.ext hEw11)).ext hEw12)).chg hCw13 (fun hs => by have h : _ = _ := hs; omega))
  refine wpF_step (op_v (some 72) (Instr.loadAt 41 (vP w5.heap.size 0)) (vA (nodC ((x.nod x.p).setR (v % 4) z.r))) (rn_lda (vs := nodC ((x.nod x.p).setR (v % 4) z.r)) (hK5.all) (by rw [nodC_len]; kernel_rfl)) ?_)
  refine wpF_step (op_call (some 73) (c_rNCheck ((x.nod x.p).setR (v % 4) z.r) _) ?_)
  rintro _ w14 ⟨rfl, hEw14⟩
  have hzw14 := hEw14.size
  rw [show chkN ((x.nod x.p).setR (v % 4) z.r) = 0 from hcw]
  refine wpF_run 1 [(13, (vI 0))] (wpF_end (then_code (wpC_seq (wpC_seq (wpC_region (wpF_run 2 [(75, (vI 0)), (74, (vI 0))] (wpF_step (op_b (some 76) (((0 : Nat) : Int) != ((0 : Nat) : Int)) false (cmpNeF (by omega)) ?_))))))))
  refine wpF_end (then_code (wpC_false (wpC_skip (then_code (wpC_seq (wpC_seq (wpC_region (wpF_run 1 [(77, (vI 0))] (wpF_step (op_b (some 78) (((0 : Nat) : Int) != ((0 : Nat) : Int)) false (cmpNeF (by omega)) ?_))))))))))
  refine wpF_end (then_code (wpC_false (wpC_skip (then_code (wpC_seq (wpC_region ?_))))))
  have hK6 := (((((((((((((((((((((((((hBw1.ext hEw2)).ext hEw3)).ext hEw4)).chg hCw5 (fun hs => by have h : _ = _ := hs; omega))).ext hEw6)).chg hCw7 (fun hs => by have h : _ = _ := hs; omega))).chg hCw8 (fun hs => by have h : _ = _ := hs; omega))).chg hCw9 (fun hs => by have h : _ = _ := hs; omega))).chg hCw10 (fun hs => by have h : _ = _ := hs; omega))).ext hEw11)).ext hEw12)).chg hCw13 (fun hs => by have h : _ = _ := hs; omega))).ext hEw14)
  refine wpF_step (op_v (some 86) (Instr.loadAt 27 (vP w.heap.size 0)) (vA (nnC x)) (rn_lda (vs := nnC x) (hK6.all) (by rw [nnC_len]; kernel_rfl)) ?_)
  refine wpF_step (op_call (some 87) (c_NNOf x _) ?_)
  rintro _ w15 ⟨rfl, hEw15⟩
  have hzw15 := hEw15.size
  refine wpF_run 3 [(89, (vA (nodC (x.nod x.p)))), (88, (vI x.n)), (85, (.tuple #[(vI x.n), (vA (nodC (x.nod x.p)))]))] (wpF_step (op_new (some 15) (Instr.alloc 41 true (.tuple #[])) (vP w15.heap.size 0) (nodC Nod.zero) 41 ?_))
  intro w16 hBw16 hEw16
  have hzw16 := hEw16.size; have hlw16 := hBw16.lt
  refine wpF_run 1 [(14, (vI x.n))] (wpF_step (op_store 41 w15.heap.size 0 41 (vA (nodC (x.nod x.p))) (nodC Nod.zero) (nodC (x.nod x.p)) hBw16 (by rw [nodC_len]; kernel_rfl) (by first | (simp; done) | (simp; omega)) (nodC_one _) ?_))
  intro w17 hBw17 hCw17
  have hzw17 := hCw17.size
  rw [setFrom_all _ _ (by simp)] at hBw17
  refine wpF_end (then_code (wpC_seq (wpC_drawM (Ext w17.drew) 21 [(91, 2048, 0), (92, 1024, 0), (93, 3713820117856140824697372672, 3), (94, 4951760157141521099596496896, 4), (95, 9903520314283042199192994048, 8), (96, 9903520314283042199193026560, 8), (97, 69324642199981295394350956544, 56), (98, 89131682828547379792736944128, 72), (99, 158456325028528675187087900672, 136), (100, 316912650057057350374175801472, 256), (101, 316912650057057350374175803392, 256), (102, 2218388550399401452619230609408, 1792), (103, 316912650057057350374175801472, 256), (104, 316912650057057350374175802368, 256), (105, 15528719852795810168334614265856, 14592), (106, 23134623454165186577314833498112, 18688), (107, 40881731857360398198268678373376, 33024), (108, 81129638414606681695789005144064, 81920), (109, 162259276829213363391578010288128, 131072), (110, 486777830487640090174734030864384, 393216), (7, 649037107316853453566312041152512, 1048575)] (fun hT186 => ?_))))
  have hEw18 : Ext w17 w17.drew := Ext.drew w17
  generalize w17.drew = w18 at hEw18 ⊢
  have hzw18 := hEw18.size
  have hK7 := (((((((((hBw13.ext hEw14)).ext hEw15)).ext hEw16)).chg hCw17 (fun hs => by have h : _ = _ := hs; omega))).ext hEw18)
  refine anyM_take hT186 0 1 (some 90) (vA (nodC ((x.nod x.p).setR (v % 4) z.r))) (yld_val (Instr.loadAt 41 (vP w11.heap.size 0)) (fun w' hC => rn_lda (vs := nodC ((x.nod x.p).setR (v % 4) z.r)) ((hK7.ext hC).all) (by rw [nodC_len]; kernel_rfl))) ?_
  have hK8 := (((((((((hK5.ext hEw14)).ext hEw15)).ext hEw16)).chg hCw17 (fun hs => by have h : _ = _ := hs; omega))).ext hEw18)
  refine anyM_take hT186 1 3 (some 91) (vA (nodC ((x.nod x.p).setR (v % 4) z.r))) (yld_val (Instr.loadAt 41 (vP w5.heap.size 0)) (fun w' hC => rn_lda (vs := nodC ((x.nod x.p).setR (v % 4) z.r)) ((hK8.ext hC).all) (by rw [nodC_len]; kernel_rfl))) (anyM_take hT186 2 7 (some 92) vT (yld_val (bo .eql 41 (.tmp 90) (.tmp 91) (vA (nodC ((x.nod x.p).setR (v % 4) z.r))) (vA (nodC ((x.nod x.p).setR (v % 4) z.r)))) (fun w' hC => run_eqlAgg (r := true) (T := 41) ((run_eq_nod (dd := 9995) (N := 41) (R := 36) (E := 39) (r := 35) (en := 38) (t8 := 5) (td := 33) (e := 5) (tn := 31) (t32 := 28) (t64 := 29) ((x.nod x.p).setR (v % 4) z.r) ((x.nod x.p).setR (v % 4) z.r)).trans (congrArg (fun b => Result.ok b _) (show (((x.nod x.p).setR (v % 4) z.r).eqb ((x.nod x.p).setR (v % 4) z.r)) = true from (Nod.eqb_iff _ _).2 rfl))))) (anyM_run hT186 [(3, 93, vT)] 1 15 ?_))
  have hK9 := (((((((((hK4.ext hEw14)).ext hEw15)).ext hEw16)).chg hCw17 (fun hs => by have h : _ = _ := hs; omega))).ext hEw18)
  refine anyM_take hT186 4 31 (some 94) (vA (nodC (x.nod x.p))) (yld_val (Instr.loadAt 41 (vP w3.heap.size 0)) (fun w' hC => rn_lda (vs := nodC (x.nod x.p)) ((hK9.ext hC).all) (by rw [nodC_len]; kernel_rfl))) (anyM_take hT186 5 63 (some 95) (vA (nodC (x.nod x.p))) (yld_val (Instr.loadAt 41 (vP w15.heap.size 0)) (fun w' hC => rn_lda (vs := nodC (x.nod x.p)) (((hBw17.ext hEw18).ext hC).all) (by rw [nodC_len]; kernel_rfl))) (anyM_take hT186 6 127 (some 96) vT (yld_val (bo .eql 41 (.tmp 94) (.tmp 95) (vA (nodC (x.nod x.p))) (vA (nodC (x.nod x.p)))) (fun w' hC => run_eqlAgg (r := true) (T := 41) ((run_eq_nod (dd := 9995) (N := 41) (R := 36) (E := 39) (r := 35) (en := 38) (t8 := 5) (td := 33) (e := 5) (tn := 31) (t32 := 28) (t64 := 29) (x.nod x.p) (x.nod x.p)).trans (congrArg (fun b => Result.ok b _) (show ((x.nod x.p).eqb (x.nod x.p)) = true from (Nod.eqb_iff _ _).2 rfl))))) (anyM_run hT186 [(7, 97, vT), (8, 98, vT), (9, 99, (vI x.n))] 3 1023 (anyM_take hT186 10 2047 (some 100) (vA (nodC ((x.nod x.p).setR (v % 4) z.r))) (yld_val (Instr.loadAt 41 (vP w11.heap.size 0)) (fun w' hC => rn_lda (vs := nodC ((x.nod x.p).setR (v % 4) z.r)) ((hK7.ext hC).all) (by rw [nodC_len]; kernel_rfl))) (anyM_run hT186 [(12, 102, (vI x.n))] 1 6143 (anyM_take hT186 13 14335 (some 103) (vA (nodC ((x.nod x.p).setR (v % 4) z.r))) (yld_val (Instr.loadAt 41 (vP w5.heap.size 0)) (fun w' hC => rn_lda (vs := nodC ((x.nod x.p).setR (v % 4) z.r)) ((hK8.ext hC).all) (by rw [nodC_len]; kernel_rfl))) (anyM_one 11 16383 (op_call (some 101) (c_NFits x.n ((x.nod x.p).setR (v % 4) z.r) _ (by omega) (by omega)) ?_))))))))
  rintro _ w19 ⟨rfl, hEw19⟩
  have hzw19 := hEw19.size
  refine ⟨.inr hEw19, ?_⟩
  refine anyM_one 14 32767 (op_call (some 104) (c_rNFits x.n ((x.nod x.p).setR (v % 4) z.r) _ (by omega) (by omega)) ?_)
  rintro _ w20 ⟨rfl, hEw20⟩
  have hzw20 := hEw20.size
  refine ⟨.inr (hEw19.trans hEw20), ?_⟩
  refine anyM_take (hw := show Ext w18 w20 from (hEw19.trans hEw20)) hT186 15 65535 (some 105) vT (yld_b (((fitV x.n ((x.nod x.p).setR (v % 4) z.r) : Nat) : Int) == ((fitV x.n ((x.nod x.p).setR (v % 4) z.r) : Nat) : Int)) (cmpEqT (by omega))) (anyM_run (hw := show Ext w18 w20 from (hEw19.trans hEw20)) hT186 [(16, 106, vT), (17, 107, vT)] 2 262143 ?_)
  have hK10 := (((((((((((((((((((((((((((((((((((((((hg0.ext hEw1)).ext hEw2)).ext hEw3)).ext hEw4)).chg hCw5 (fun hs => by have h : _ = _ := hs; omega))).ext hEw6)).chg hCw7 (fun hs => by have h : _ = _ := hs; omega))).chg hCw8 (fun hs => by have h : _ = _ := hs; omega))).chg hCw9 (fun hs => by have h : _ = _ := hs; omega))).chg hCw10 (fun hs => by have h : _ = _ := hs; omega))).ext hEw11)).ext hEw12)).chg hCw13 (fun hs => by have h : _ = _ := hs; omega))).ext hEw14)).ext hEw15)).ext hEw16)).chg hCw17 (fun hs => by have h : _ = _ := hs; omega))).ext hEw18)).ext hEw19)).ext hEw20)
  refine anyM_one 18 524287 (op_call (some 108) (c_lives13 _ hK10) ?_)
  rintro _ w21 ⟨rfl, hEw21⟩
  have hzw21 := hEw21.size
  refine ⟨.inr ((hEw19.trans hEw20).trans hEw21), ?_⟩
  refine anyM_run (hw := show Ext w18 w21 from ((hEw19.trans hEw20).trans hEw21)) hT186 [(19, 109, vT), (20, 6, vT)] 2 2097151 (anyM_done (then_code (wpC_ret (body_rets vT ?_))))
  have hX1 : Ext w w21 := (((((Ext.own ((((Ext.own (((Ext.own (Ext.own (Ext.own (Ext.own ((Ext.own (((hEw1.trans hEw2).trans hEw3).trans hEw4) hCw5 (by omega)).trans hEw6) hCw7 (by omega)) hCw8 (by omega)) hCw9 (by omega)) hCw10 (by omega)).trans hEw11).trans hEw12) hCw13 (by omega)).trans hEw14).trans hEw15).trans hEw16) hCw17 (by omega)).trans hEw18).trans hEw19).trans hEw20).trans hEw21)
  exact ⟨rfl, hX1⟩

theorem c_NW01 (x : NN) (v : Nat) (z : Par)  (w : World) (hp0 : x.l = 0) (hp1 : chkR z.r = 1) (hg0 : Gl 0 [vI 45, vI 33] w) :
    Calls Tryd.prog 6 #[(vA (nnC x)), (vB v), (vA (parC z))] w (Ret fun r w' => r = vT ∧ Ext w w') := by
  refine calls_of (n := 110) (σ := [(0, (vA (nnC x))), (1, (vB v)), (2, (vA (parC z)))]) Tryd.func6 rfl ?_
  have hgl0 := hg0.lt
  have hn1 := x.n_ok
  have hl5 := x.l_le5
  have hc0 := x.chk0
  have hnp := nodB_pos (x.nod x.p)
  have hv4 : v % 4 < 4 := Nat.mod_lt _ (by decide)
  have hlv0 : (x.nod x.p).lv = x.l := rfl
  have hcw : chkN ((x.nod x.p).setR (v % 4) z.r) = 1 := by rw [chkN_setR hv4 hc0 (by omega)]; exact hp1
  have hw0 : withE (x.nod x.p) ((v % 4 : Nat) : Int) 0 = 0 := withE_yes hv4 hc0 (by omega)
  refine wpC_seq (wpC_region (wpF_step (op_new (some 3) (Instr.box 27 (vA (nnC x))) (vP w.heap.size 0) (nnC x) 27 ?_)))
  intro w1 hBw1 hEw1
  have hzw1 := hEw1.size; have hlw1 := hBw1.lt
  refine wpF_step (op_new (some 5) (Instr.box 63 (vA (parC z))) (vP w1.heap.size 0) (parC z) 63 ?_)
  intro w2 hBw2 hEw2
  have hzw2 := hEw2.size; have hlw2 := hBw2.lt
  refine wpF_run 1 [(6, vF)] (wpF_end (then_code (wpC_seq (wpC_region (wpF_step (op_v (some 17) (Instr.loadAt 27 (vP w.heap.size 0)) (vA (nnC x)) (rn_lda (vs := nnC x) ((hBw1.ext hEw2).all) (by rw [nnC_len]; kernel_rfl)) ?_))))))
  refine wpF_step (op_call (some 18) (c_NNOf x _) ?_)
  rintro _ w3 ⟨rfl, hEw3⟩
  have hzw3 := hEw3.size
  refine wpF_run 3 [(20, (vA (nodC (x.nod x.p)))), (19, (vI x.n)), (16, (.tuple #[(vI x.n), (vA (nodC (x.nod x.p)))]))] (wpF_step (op_new (some 8) (Instr.alloc 41 true (.tuple #[])) (vP w3.heap.size 0) (nodC Nod.zero) 41 ?_))
  intro w4 hBw4 hEw4
  have hzw4 := hEw4.size; have hlw4 := hBw4.lt
  refine wpF_run 1 [(7, (vI x.n))] (wpF_step (op_store 41 w3.heap.size 0 41 (vA (nodC (x.nod x.p))) (nodC Nod.zero) (nodC (x.nod x.p)) hBw4 (by rw [nodC_len]; kernel_rfl) (by first | (simp; done) | (simp; omega)) (nodC_one _) ?_))
  intro w5 hBw5 hCw5
  have hzw5 := hCw5.size
  rw [setFrom_all _ _ (by simp)] at hBw5
  refine wpF_end (then_code (wpC_seq (wpC_region (wpF_run 1 [(21, (vB v))] (wpF_step (op_in (some 22) .u8 (((v : Nat) : Int).tmod ((4 : Nat) : Int)) (v % 4) (tmodN _ _) ?_))))))
  refine wpF_step (op_in (some 23) .i64 (IntKind.i64.wrap ((v % 4 : Nat) : Int)) (v % 4) (wrapS rfl (by omega) (by omega)) ?_)
  refine wpF_run 1 [(9, (vI (v % 4)))] (wpF_end (then_code (wpC_seq (wpC_region (wpF_step (op_v (some 24) (Instr.loadAt 41 (vP w3.heap.size 0)) (vA (nodC (x.nod x.p))) (rn_lda (vs := nodC (x.nod x.p)) (hBw5.all) (by rw [nodC_len]; kernel_rfl)) ?_))))))
  refine wpF_step (op_new (some 10) (Instr.alloc 41 true (.tuple #[])) (vP w5.heap.size 0) (nodC Nod.zero) 41 ?_)
  intro w6 hBw6 hEw6
  have hzw6 := hEw6.size; have hlw6 := hBw6.lt
  refine wpF_step (op_store 41 w5.heap.size 0 41 (vA (nodC (x.nod x.p))) (nodC Nod.zero) (nodC (x.nod x.p)) hBw6 (by rw [nodC_len]; kernel_rfl) (by first | (simp; done) | (simp; omega)) (nodC_one _) ?_)
  intro w7 hBw7 hCw7
  have hzw7 := hCw7.size
  rw [setFrom_all _ _ (by simp)] at hBw7
  refine wpF_end (then_code (wpC_seq (wpC_region (wpF_run 2 [(26, (vP w1.heap.size 0)), (25, (vI (v % 4)))] ?_))))
  have hK1 := (((((((((hBw2.ext hEw3)).ext hEw4)).chg hCw5 (fun hs => by have h : _ = _ := hs; omega))).ext hEw6)).chg hCw7 (fun hs => by have h : _ = _ := hs; omega))
  refine wpF_step (op_v (some 27) (Instr.loadAt 35 (vP w1.heap.size 0)) (vA (recC z.r)) (rn_lda (vs := recC z.r) (hK1.at 0 (recC z.r) (par_r _)) (by rw [recC_len]; kernel_rfl)) ?_)
  refine wpF_run 1 [(28, (vP w5.heap.size 2))] (wpF_step (op_v (some 29) (Instr.indexAt 36 (vP w5.heap.size 2) (vI (v % 4))) (vP w5.heap.size (2 + (v % 4) * 35)) (rn_ixa (E := 35) (sz := 35) (m := 4) (by omega)) ?_))
  refine wpF_step (op_store 35 w5.heap.size (2 + (v % 4) * 35) 41 (vA (recC z.r)) (nodC (x.nod x.p)) (recC z.r) hBw7 (by rw [recC_len]; kernel_rfl) (by first | (simp; done) | (simp; omega)) (recC_one _) ?_)
  intro w8 hBw8 hCw8
  have hzw8 := hCw8.size
  rw [show (setFrom (nodC (x.nod x.p)) (2 + (v % 4) * 35) (recC z.r) : List Value) = nodC ((x.nod x.p).setR (v % 4) z.r) from nod_setR (by omega)] at hBw8
  refine wpF_end (then_code (wpC_seq (wpC_region (wpF_run 2 [(31, (vP w1.heap.size 35)), (30, (vI (v % 4)))] (wpF_step (op_v (some 32) (Instr.loadAt 38 (vP w1.heap.size 35)) (vA (entC z.e)) (rn_lda (vs := entC z.e) (((hK1).chg hCw8 (fun hs => by have h : _ = _ := hs; omega)).at 35 (entC z.e) (par_e _)) (by rw [entC_len]; kernel_rfl)) ?_))))))
  refine wpF_run 1 [(33, (vP w5.heap.size 142))] (wpF_step (op_v (some 34) (Instr.indexAt 39 (vP w5.heap.size 142) (vI (v % 4))) (vP w5.heap.size (142 + (v % 4) * 33)) (rn_ixa (E := 38) (sz := 33) (m := 4) (by omega)) ?_))
  refine wpF_step (op_store 38 w5.heap.size (142 + (v % 4) * 33) 41 (vA (entC z.e)) (nodC ((x.nod x.p).setR (v % 4) z.r)) (entC z.e) hBw8 (by rw [entC_len]; kernel_rfl) (by first | (simp; done) | (simp; omega)) (entC_one _) ?_)
  intro w9 hBw9 hCw9
  have hzw9 := hCw9.size
  rw [show (setFrom (nodC ((x.nod x.p).setR (v % 4) z.r)) (142 + (v % 4) * 33) (entC z.e) : List Value) = nodC (((x.nod x.p).setR (v % 4) z.r).setE (v % 4) z.e) from nod_setE (by omega)] at hBw9
  refine wpF_end (then_code (wpC_seq (wpC_seq (wpC_region (wpF_run 1 [(35, (vP w3.heap.size 0))] ?_)))))
  have hK2 := (((((((hBw5.ext hEw6)).chg hCw7 (fun hs => by have h : _ = _ := hs; omega))).chg hCw8 (fun hs => by have h : _ = _ := hs; omega))).chg hCw9 (fun hs => by have h : _ = _ := hs; omega))
  refine wpF_step (op_v (some 36) (Instr.loadAt 5 (vP w3.heap.size 0)) (vB ((x.nod x.p).lv)) (rn_ld (hK2.cell rfl)) ?_)
  refine wpF_step (op_b (some 37) ((((x.nod x.p).lv : Nat) : Int) == ((0 : Nat) : Int)) true (cmpEqT (by omega)) ?_)
  refine wpF_end (then_code (wpC_true (wpC_region (wpF_run 3 [(40, (vP w5.heap.size 142)), (39, (vA (entC Ent.zero))), (38, (vI (v % 4)))] (wpF_step (op_v (some 41) (Instr.indexAt 39 (vP w5.heap.size 142) (vI (v % 4))) (vP w5.heap.size (142 + (v % 4) * 33)) (rn_ixa (E := 38) (sz := 33) (m := 4) (by omega)) ?_))))))
  refine wpF_step (op_store 38 w5.heap.size (142 + (v % 4) * 33) 41 (vA (entC Ent.zero)) (nodC (((x.nod x.p).setR (v % 4) z.r).setE (v % 4) z.e)) (entC Ent.zero) hBw9 (by rw [entC_len]; kernel_rfl) (by first | (simp; done) | (simp; omega)) (entC_one _) ?_)
  intro w10 hBw10 hCw10
  have hzw10 := hCw10.size
  rw [show (setFrom (nodC (((x.nod x.p).setR (v % 4) z.r).setE (v % 4) z.e)) (142 + (v % 4) * 33) (entC Ent.zero) : List Value) = nodC ((x.nod x.p).setR (v % 4) z.r) from (nod_setE (by omega)).trans (congrArg nodC (wantR (by omega) (x.es0 hp0 (by omega))))] at hBw10
  refine wpF_end (then_code (wpC_seq (wpC_region (wpF_step (op_v (some 47) (Instr.loadAt 41 (vP w3.heap.size 0)) (vA (nodC (x.nod x.p))) (rn_lda (vs := nodC (x.nod x.p)) (((hK2).chg hCw10 (fun hs => by have h : _ = _ := hs; omega)).all) (by rw [nodC_len]; kernel_rfl)) ?_)))))
  refine wpF_run 2 [(49, (vP w1.heap.size 0)), (48, (vI (v % 4)))] ?_
  have hK3 := ((((((hK1).chg hCw8 (fun hs => by have h : _ = _ := hs; omega))).chg hCw9 (fun hs => by have h : _ = _ := hs; omega))).chg hCw10 (fun hs => by have h : _ = _ := hs; omega))
  refine wpF_step (op_v (some 50) (Instr.loadAt 35 (vP w1.heap.size 0)) (vA (recC z.r)) (rn_lda (vs := recC z.r) (hK3.at 0 (recC z.r) (par_r _)) (by rw [recC_len]; kernel_rfl)) ?_)
  refine wpF_step (op_call (some 51) (c_WithRecordBad (x.nod x.p) ((v % 4 : Nat) : Int) z.r _ (by intro h; first | omega | (have := h.1; omega))) ?_)
  rintro _ w11 ⟨rfl, hEw11⟩
  have hzw11 := hEw11.size
  refine wpF_run 3 [(53, (vI 1)), (52, (vA (nodC Nod.zero))), (46, (.tuple #[(vA (nodC Nod.zero)), (vI 1)]))] (wpF_step (op_new (some 11) (Instr.alloc 41 true (.tuple #[])) (vP w11.heap.size 0) (nodC Nod.zero) 41 ?_))
  intro w12 hBw12 hEw12
  have hzw12 := hEw12.size; have hlw12 := hBw12.lt
  refine wpF_step (op_store 41 w11.heap.size 0 41 (vA (nodC Nod.zero)) (nodC Nod.zero) (nodC Nod.zero) hBw12 (by rw [nodC_len]; kernel_rfl) (by first | (simp; done) | (simp; omega)) (nodC_one _) ?_)
  intro w13 hBw13 hCw13
  have hzw13 := hCw13.size
  rw [setFrom_all _ _ (by simp)] at hBw13
  refine wpF_run 1 [(12, (vI 1))] (wpF_end (then_code (wpC_seq (wpC_seq (wpC_region (wpF_run 1 [(54, (vP w3.heap.size 0))] ?_))))))
  have hK4 := ((((((((hK2).chg hCw10 (fun hs => by have h : _ = _ := hs; omega))).ext hEw11)).ext hEw12)).chg hCw13 (fun hs => by have h : _ = _ := hs; omega))
  refine wpF_step (op_v (some 55) (Instr.loadAt 5 (vP w3.heap.size 0)) (vB ((x.nod x.p).lv)) (rn_ld (hK4.cell rfl)) ?_)
  refine wpF_step (op_b (some 56) (decide ((((x.nod x.p).lv : Nat) : Int) > ((0 : Nat) : Int))) false (cmpDF (by omega)) ?_)
  refine wpF_end (then_code (wpC_false (wpC_skip (then_code (wpC_seq (wpC_region ?_))))))
  have hK5 := (((((hBw10.ext hEw11)).ext hEw12)).chg hCw13 (fun hs => by have h : _ = _ := hs; omega))
  refine wpF_step (op_v (some 72) (Instr.loadAt 41 (vP w5.heap.size 0)) (vA (nodC ((x.nod x.p).setR (v % 4) z.r))) (rn_lda (vs := nodC ((x.nod x.p).setR (v % 4) z.r)) (hK5.all) (by rw [nodC_len]; kernel_rfl)) ?_)
  refine wpF_step (op_call (some 73) (c_rNCheck ((x.nod x.p).setR (v % 4) z.r) _) ?_)
  rintro _ w14 ⟨rfl, hEw14⟩
  have hzw14 := hEw14.size
  rw [show chkN ((x.nod x.p).setR (v % 4) z.r) = 1 from hcw]
  refine wpF_run 1 [(13, (vI 1))] (wpF_end (then_code (wpC_seq (wpC_seq (wpC_region (wpF_run 2 [(75, (vI 1)), (74, (vI 1))] (wpF_step (op_b (some 76) (((1 : Nat) : Int) != ((1 : Nat) : Int)) false (cmpNeF (by omega)) ?_))))))))
  refine wpF_end (then_code (wpC_false (wpC_skip (then_code (wpC_seq (wpC_seq (wpC_region (wpF_run 1 [(77, (vI 1))] (wpF_step (op_b (some 78) (((1 : Nat) : Int) != ((0 : Nat) : Int)) true (cmpNeT (by omega)) ?_))))))))))
  refine wpF_end (then_code (wpC_true (wpC_seq (wpC_region (wpF_step (op_v (some 79) (Instr.loadAt 41 (vP w11.heap.size 0)) (vA (nodC Nod.zero)) (rn_lda (vs := nodC Nod.zero) ((hBw13.ext hEw14).all) (by rw [nodC_len]; kernel_rfl)) ?_))))))
  refine wpF_run 1 [(80, (vA (nodC Nod.zero)))] (wpF_step (op_v (some 81) (bo .eql 41 (.tmp 79) (.tmp 80) (vA (nodC Nod.zero)) (vA (nodC Nod.zero))) vT (run_eqlAgg (r := true) (T := 41) ((run_eq_nod (dd := 9995) (N := 41) (R := 36) (E := 39) (r := 35) (en := 38) (t8 := 5) (td := 33) (e := 5) (tn := 31) (t32 := 28) (t64 := 29) Nod.zero Nod.zero).trans (congrArg (fun b => Result.ok b _) (show (Nod.zero.eqb Nod.zero) = true from (Nod.eqb_iff _ _).2 rfl)))) ?_))
  refine wpF_run 1 [(82, vT)] ?_
  have hK6 := (((((((((((((((((((((((((((hg0.ext hEw1)).ext hEw2)).ext hEw3)).ext hEw4)).chg hCw5 (fun hs => by have h : _ = _ := hs; omega))).ext hEw6)).chg hCw7 (fun hs => by have h : _ = _ := hs; omega))).chg hCw8 (fun hs => by have h : _ = _ := hs; omega))).chg hCw9 (fun hs => by have h : _ = _ := hs; omega))).chg hCw10 (fun hs => by have h : _ = _ := hs; omega))).ext hEw11)).ext hEw12)).chg hCw13 (fun hs => by have h : _ = _ := hs; omega))).ext hEw14)
  refine wpF_step (op_call (some 83) (c_lives13 _ hK6) ?_)
  rintro _ w15 ⟨rfl, hEw15⟩
  have hzw15 := hEw15.size
  refine wpF_run 2 [(6, vT), (84, vT)] (wpF_end (then_code (wpC_ret (then_ret (body_rets vT ?_)))))
  have hX1 : Ext w w15 := (((Ext.own (((Ext.own (Ext.own (Ext.own (Ext.own ((Ext.own (((hEw1.trans hEw2).trans hEw3).trans hEw4) hCw5 (by omega)).trans hEw6) hCw7 (by omega)) hCw8 (by omega)) hCw9 (by omega)) hCw10 (by omega)).trans hEw11).trans hEw12) hCw13 (by omega)).trans hEw14).trans hEw15)
  exact ⟨rfl, hX1⟩

theorem c_NW10 (x : NN) (v : Nat) (z : Par)  (w : World) (hp0 : ¬ x.l = 0) (hp1 : chkE z.e = 0) (hg0 : Gl 0 [vI 45, vI 33] w) :
    Calls Tryd.prog 6 #[(vA (nnC x)), (vB v), (vA (parC z))] w (Ret fun r w' => r = vT ∧ Ext w w') := by
  refine calls_of (n := 110) (σ := [(0, (vA (nnC x))), (1, (vB v)), (2, (vA (parC z)))]) Tryd.func6 rfl ?_
  have hgl0 := hg0.lt
  have hn1 := x.n_ok
  have hl5 := x.l_le5
  have hc0 := x.chk0
  have hnp := nodB_pos (x.nod x.p)
  have hv4 : v % 4 < 4 := Nat.mod_lt _ (by decide)
  have hlv0 : (x.nod x.p).lv = x.l := rfl
  have hcw : chkN ((x.nod x.p).setE (v % 4) z.e) = 0 := by rw [chkN_setE hv4 hc0 (by omega)]; exact hp1
  have hw0 : withE (x.nod x.p) ((v % 4 : Nat) : Int) 0 = 1 := withE_no (by omega)
  have hw1 : withE (x.nod x.p) ((v % 4 : Nat) : Int) 1 = 0 := withE_yes hv4 hc0 (by omega)
  refine wpC_seq (wpC_region (wpF_step (op_new (some 3) (Instr.box 27 (vA (nnC x))) (vP w.heap.size 0) (nnC x) 27 ?_)))
  intro w1 hBw1 hEw1
  have hzw1 := hEw1.size; have hlw1 := hBw1.lt
  refine wpF_step (op_new (some 5) (Instr.box 63 (vA (parC z))) (vP w1.heap.size 0) (parC z) 63 ?_)
  intro w2 hBw2 hEw2
  have hzw2 := hEw2.size; have hlw2 := hBw2.lt
  refine wpF_run 1 [(6, vF)] (wpF_end (then_code (wpC_seq (wpC_region (wpF_step (op_v (some 17) (Instr.loadAt 27 (vP w.heap.size 0)) (vA (nnC x)) (rn_lda (vs := nnC x) ((hBw1.ext hEw2).all) (by rw [nnC_len]; kernel_rfl)) ?_))))))
  refine wpF_step (op_call (some 18) (c_NNOf x _) ?_)
  rintro _ w3 ⟨rfl, hEw3⟩
  have hzw3 := hEw3.size
  refine wpF_run 3 [(20, (vA (nodC (x.nod x.p)))), (19, (vI x.n)), (16, (.tuple #[(vI x.n), (vA (nodC (x.nod x.p)))]))] (wpF_step (op_new (some 8) (Instr.alloc 41 true (.tuple #[])) (vP w3.heap.size 0) (nodC Nod.zero) 41 ?_))
  intro w4 hBw4 hEw4
  have hzw4 := hEw4.size; have hlw4 := hBw4.lt
  refine wpF_run 1 [(7, (vI x.n))] (wpF_step (op_store 41 w3.heap.size 0 41 (vA (nodC (x.nod x.p))) (nodC Nod.zero) (nodC (x.nod x.p)) hBw4 (by rw [nodC_len]; kernel_rfl) (by first | (simp; done) | (simp; omega)) (nodC_one _) ?_))
  intro w5 hBw5 hCw5
  have hzw5 := hCw5.size
  rw [setFrom_all _ _ (by simp)] at hBw5
  refine wpF_end (then_code (wpC_seq (wpC_region (wpF_run 1 [(21, (vB v))] (wpF_step (op_in (some 22) .u8 (((v : Nat) : Int).tmod ((4 : Nat) : Int)) (v % 4) (tmodN _ _) ?_))))))
  refine wpF_step (op_in (some 23) .i64 (IntKind.i64.wrap ((v % 4 : Nat) : Int)) (v % 4) (wrapS rfl (by omega) (by omega)) ?_)
  refine wpF_run 1 [(9, (vI (v % 4)))] (wpF_end (then_code (wpC_seq (wpC_region (wpF_step (op_v (some 24) (Instr.loadAt 41 (vP w3.heap.size 0)) (vA (nodC (x.nod x.p))) (rn_lda (vs := nodC (x.nod x.p)) (hBw5.all) (by rw [nodC_len]; kernel_rfl)) ?_))))))
  refine wpF_step (op_new (some 10) (Instr.alloc 41 true (.tuple #[])) (vP w5.heap.size 0) (nodC Nod.zero) 41 ?_)
  intro w6 hBw6 hEw6
  have hzw6 := hEw6.size; have hlw6 := hBw6.lt
  refine wpF_step (op_store 41 w5.heap.size 0 41 (vA (nodC (x.nod x.p))) (nodC Nod.zero) (nodC (x.nod x.p)) hBw6 (by rw [nodC_len]; kernel_rfl) (by first | (simp; done) | (simp; omega)) (nodC_one _) ?_)
  intro w7 hBw7 hCw7
  have hzw7 := hCw7.size
  rw [setFrom_all _ _ (by simp)] at hBw7
  refine wpF_end (then_code (wpC_seq (wpC_region (wpF_run 2 [(26, (vP w1.heap.size 0)), (25, (vI (v % 4)))] ?_))))
  have hK1 := (((((((((hBw2.ext hEw3)).ext hEw4)).chg hCw5 (fun hs => by have h : _ = _ := hs; omega))).ext hEw6)).chg hCw7 (fun hs => by have h : _ = _ := hs; omega))
  refine wpF_step (op_v (some 27) (Instr.loadAt 35 (vP w1.heap.size 0)) (vA (recC z.r)) (rn_lda (vs := recC z.r) (hK1.at 0 (recC z.r) (par_r _)) (by rw [recC_len]; kernel_rfl)) ?_)
  refine wpF_run 1 [(28, (vP w5.heap.size 2))] (wpF_step (op_v (some 29) (Instr.indexAt 36 (vP w5.heap.size 2) (vI (v % 4))) (vP w5.heap.size (2 + (v % 4) * 35)) (rn_ixa (E := 35) (sz := 35) (m := 4) (by omega)) ?_))
  refine wpF_step (op_store 35 w5.heap.size (2 + (v % 4) * 35) 41 (vA (recC z.r)) (nodC (x.nod x.p)) (recC z.r) hBw7 (by rw [recC_len]; kernel_rfl) (by first | (simp; done) | (simp; omega)) (recC_one _) ?_)
  intro w8 hBw8 hCw8
  have hzw8 := hCw8.size
  rw [show (setFrom (nodC (x.nod x.p)) (2 + (v % 4) * 35) (recC z.r) : List Value) = nodC ((x.nod x.p).setR (v % 4) z.r) from nod_setR (by omega)] at hBw8
  refine wpF_end (then_code (wpC_seq (wpC_region (wpF_run 2 [(31, (vP w1.heap.size 35)), (30, (vI (v % 4)))] (wpF_step (op_v (some 32) (Instr.loadAt 38 (vP w1.heap.size 35)) (vA (entC z.e)) (rn_lda (vs := entC z.e) (((hK1).chg hCw8 (fun hs => by have h : _ = _ := hs; omega)).at 35 (entC z.e) (par_e _)) (by rw [entC_len]; kernel_rfl)) ?_))))))
  refine wpF_run 1 [(33, (vP w5.heap.size 142))] (wpF_step (op_v (some 34) (Instr.indexAt 39 (vP w5.heap.size 142) (vI (v % 4))) (vP w5.heap.size (142 + (v % 4) * 33)) (rn_ixa (E := 38) (sz := 33) (m := 4) (by omega)) ?_))
  refine wpF_step (op_store 38 w5.heap.size (142 + (v % 4) * 33) 41 (vA (entC z.e)) (nodC ((x.nod x.p).setR (v % 4) z.r)) (entC z.e) hBw8 (by rw [entC_len]; kernel_rfl) (by first | (simp; done) | (simp; omega)) (entC_one _) ?_)
  intro w9 hBw9 hCw9
  have hzw9 := hCw9.size
  rw [show (setFrom (nodC ((x.nod x.p).setR (v % 4) z.r)) (142 + (v % 4) * 33) (entC z.e) : List Value) = nodC (((x.nod x.p).setR (v % 4) z.r).setE (v % 4) z.e) from nod_setE (by omega)] at hBw9
  refine wpF_end (then_code (wpC_seq (wpC_seq (wpC_region (wpF_run 1 [(35, (vP w3.heap.size 0))] ?_)))))
  have hK2 := (((((((hBw5.ext hEw6)).chg hCw7 (fun hs => by have h : _ = _ := hs; omega))).chg hCw8 (fun hs => by have h : _ = _ := hs; omega))).chg hCw9 (fun hs => by have h : _ = _ := hs; omega))
  refine wpF_step (op_v (some 36) (Instr.loadAt 5 (vP w3.heap.size 0)) (vB ((x.nod x.p).lv)) (rn_ld (hK2.cell rfl)) ?_)
  refine wpF_step (op_b (some 37) ((((x.nod x.p).lv : Nat) : Int) == ((0 : Nat) : Int)) false (cmpEqF (by omega)) ?_)
  refine wpF_end (then_code (wpC_false (wpC_region (wpF_run 3 [(44, (vP w5.heap.size 2)), (43, (vA (recC Rec.zero))), (42, (vI (v % 4)))] (wpF_step (op_v (some 45) (Instr.indexAt 36 (vP w5.heap.size 2) (vI (v % 4))) (vP w5.heap.size (2 + (v % 4) * 35)) (rn_ixa (E := 35) (sz := 35) (m := 4) (by omega)) ?_))))))
  refine wpF_step (op_store 35 w5.heap.size (2 + (v % 4) * 35) 41 (vA (recC Rec.zero)) (nodC (((x.nod x.p).setR (v % 4) z.r).setE (v % 4) z.e)) (recC Rec.zero) hBw9 (by rw [recC_len]; kernel_rfl) (by first | (simp; done) | (simp; omega)) (recC_one _) ?_)
  intro w10 hBw10 hCw10
  have hzw10 := hCw10.size
  rw [show (setFrom (nodC (((x.nod x.p).setR (v % 4) z.r).setE (v % 4) z.e)) (2 + (v % 4) * 35) (recC Rec.zero) : List Value) = nodC ((x.nod x.p).setE (v % 4) z.e) from (nod_setR (by omega)).trans (congrArg nodC (wantE (by omega) (x.rs0 hp0 (by omega))))] at hBw10
  refine wpF_end (then_code (wpC_seq (wpC_region (wpF_step (op_v (some 47) (Instr.loadAt 41 (vP w3.heap.size 0)) (vA (nodC (x.nod x.p))) (rn_lda (vs := nodC (x.nod x.p)) (((hK2).chg hCw10 (fun hs => by have h : _ = _ := hs; omega)).all) (by rw [nodC_len]; kernel_rfl)) ?_)))))
  refine wpF_run 2 [(49, (vP w1.heap.size 0)), (48, (vI (v % 4)))] ?_
  have hK3 := ((((((hK1).chg hCw8 (fun hs => by have h : _ = _ := hs; omega))).chg hCw9 (fun hs => by have h : _ = _ := hs; omega))).chg hCw10 (fun hs => by have h : _ = _ := hs; omega))
  refine wpF_step (op_v (some 50) (Instr.loadAt 35 (vP w1.heap.size 0)) (vA (recC z.r)) (rn_lda (vs := recC z.r) (hK3.at 0 (recC z.r) (par_r _)) (by rw [recC_len]; kernel_rfl)) ?_)
  refine wpF_step (op_call (some 51) (c_WithRecordBad (x.nod x.p) ((v % 4 : Nat) : Int) z.r _ (by intro h; first | omega | (have := h.1; omega))) ?_)
  rintro _ w11 ⟨rfl, hEw11⟩
  have hzw11 := hEw11.size
  refine wpF_run 3 [(53, (vI 1)), (52, (vA (nodC Nod.zero))), (46, (.tuple #[(vA (nodC Nod.zero)), (vI 1)]))] (wpF_step (op_new (some 11) (Instr.alloc 41 true (.tuple #[])) (vP w11.heap.size 0) (nodC Nod.zero) 41 ?_))
  intro w12 hBw12 hEw12
  have hzw12 := hEw12.size; have hlw12 := hBw12.lt
  refine wpF_step (op_store 41 w11.heap.size 0 41 (vA (nodC Nod.zero)) (nodC Nod.zero) (nodC Nod.zero) hBw12 (by rw [nodC_len]; kernel_rfl) (by first | (simp; done) | (simp; omega)) (nodC_one _) ?_)
  intro w13 hBw13 hCw13
  have hzw13 := hCw13.size
  rw [setFrom_all _ _ (by simp)] at hBw13
  refine wpF_run 1 [(12, (vI 1))] (wpF_end (then_code (wpC_seq (wpC_seq (wpC_region (wpF_run 1 [(54, (vP w3.heap.size 0))] ?_))))))
  have hK4 := ((((((((hK2).chg hCw10 (fun hs => by have h : _ = _ := hs; omega))).ext hEw11)).ext hEw12)).chg hCw13 (fun hs => by have h : _ = _ := hs; omega))
  refine wpF_step (op_v (some 55) (Instr.loadAt 5 (vP w3.heap.size 0)) (vB ((x.nod x.p).lv)) (rn_ld (hK4.cell rfl)) ?_)
  refine wpF_step (op_b (some 56) (decide ((((x.nod x.p).lv : Nat) : Int) > ((0 : Nat) : Int))) true (cmpDT (by omega)) ?_)
  refine wpF_end (then_code (wpC_true (wpC_seq (wpC_seq (wpC_region (wpF_run 3 [(59, vF), (58, vF), (57, (vI 1))] (wpF_step (op_v (some 60) (Instr.loadAt 41 (vP w11.heap.size 0)) (vA (nodC Nod.zero)) (rn_lda (vs := nodC Nod.zero) (hBw13.all) (by rw [nodC_len]; kernel_rfl)) ?_))))))))
  refine wpF_run 1 [(61, (vA (nodC Nod.zero)))] (wpF_step (op_v (some 62) (bo .neq 41 (.tmp 60) (.tmp 61) (vA (nodC Nod.zero)) (vA (nodC Nod.zero))) vF (run_neqAgg (r := true) (T := 41) ((run_eq_nod (dd := 9995) (N := 41) (R := 36) (E := 39) (r := 35) (en := 38) (t8 := 5) (td := 33) (e := 5) (tn := 31) (t32 := 28) (t64 := 29) Nod.zero Nod.zero).trans (congrArg (fun b => Result.ok b _) (show (Nod.zero.eqb Nod.zero) = true from (Nod.eqb_iff _ _).2 rfl)))) ?_))
  refine wpF_run 1 [(63, vF)] (wpF_end (then_code (wpC_false (wpC_skip (then_code (wpC_region (wpF_step (op_v (some 65) (Instr.loadAt 41 (vP w3.heap.size 0)) (vA (nodC (x.nod x.p))) (rn_lda (vs := nodC (x.nod x.p)) (hK4.all) (by rw [nodC_len]; kernel_rfl)) ?_))))))))
  refine wpF_run 2 [(67, (vP w1.heap.size 35)), (66, (vI (v % 4)))] ?_
  have hK5 := (((((hK3.ext hEw11)).ext hEw12)).chg hCw13 (fun hs => by have h : _ = _ := hs; omega))
  refine wpF_step (op_v (some 68) (Instr.loadAt 38 (vP w1.heap.size 35)) (vA (entC z.e)) (rn_lda (vs := entC z.e) (hK5.at 35 (entC z.e) (par_e _)) (by rw [entC_len]; kernel_rfl)) ?_)
  refine wpF_step (op_call (some 69) (c_WithEntry (x.nod x.p) (v % 4) z.e _ (hw1) (by assumption)) ?_)
  rintro _ w14 ⟨rfl, hEw14⟩
  have hzw14 := hEw14.size
  refine wpF_run 3 [(71, (vI 0)), (70, (vA (nodC ((x.nod x.p).setE (v % 4) z.e)))), (64, (.tuple #[(vA (nodC ((x.nod x.p).setE (v % 4) z.e))), (vI 0)]))] (wpF_step (op_store 41 w11.heap.size 0 41 (vA (nodC ((x.nod x.p).setE (v % 4) z.e))) (nodC Nod.zero) (nodC ((x.nod x.p).setE (v % 4) z.e)) (hBw13.ext hEw14) (by rw [nodC_len]; kernel_rfl) (by first | (simp; done) | (simp; omega)) (nodC_one _) ?_))
  intro w15 hBw15 hCw15
  have hzw15 := hCw15.size
  rw [setFrom_all _ _ (by simp)] at hBw15
  refine wpF_run 1 [(12, (vI 0))] (wpF_end (then_code (wpC_seq (wpC_region ?_))))
  have hK6 := (((((((((hBw10.ext hEw11)).ext hEw12)).chg hCw13 (fun hs => by have h : _ = _ := hs; omega))).ext hEw14)).chg hCw15 (fun hs => by have h : _ = _ := hs; omega))
  refine wpF_step (op_v (some 72) (Instr.loadAt 41 (vP w5.heap.size 0)) (vA (nodC ((x.nod x.p).setE (v % 4) z.e))) (rn_lda (vs := nodC ((x.nod x.p).setE (v % 4) z.e)) (hK6.all) (by rw [nodC_len]; kernel_rfl)) ?_)
  refine wpF_step (op_call (some 73) (c_rNCheck ((x.nod x.p).setE (v % 4) z.e) _) ?_)
  rintro _ w16 ⟨rfl, hEw16⟩
  have hzw16 := hEw16.size
  rw [show chkN ((x.nod x.p).setE (v % 4) z.e) = 0 from hcw]
  refine wpF_run 1 [(13, (vI 0))] (wpF_end (then_code (wpC_seq (wpC_seq (wpC_region (wpF_run 2 [(75, (vI 0)), (74, (vI 0))] (wpF_step (op_b (some 76) (((0 : Nat) : Int) != ((0 : Nat) : Int)) false (cmpNeF (by omega)) ?_))))))))
  refine wpF_end (then_code (wpC_false (wpC_skip (then_code (wpC_seq (wpC_seq (wpC_region (wpF_run 1 [(77, (vI 0))] (wpF_step (op_b (some 78) (((0 : Nat) : Int) != ((0 : Nat) : Int)) false (cmpNeF (by omega)) ?_))))))))))
  refine wpF_end (then_code (wpC_false (wpC_skip (then_code (wpC_seq (wpC_region ?_))))))
  have hK7 := (((((((((((((((((((((((((((((hBw1.ext hEw2)).ext hEw3)).ext hEw4)).chg hCw5 (fun hs => by have h : _ = _ := hs; omega))).ext hEw6)).chg hCw7 (fun hs => by have h : _ = _ := hs; omega))).chg hCw8 (fun hs => by have h : _ = _ := hs; omega))).chg hCw9 (fun hs => by have h : _ = _ := hs; omega))).chg hCw10 (fun hs => by have h : _ = _ := hs; omega))).ext hEw11)).ext hEw12)).chg hCw13 (fun hs => by have h : _ = _ := hs; omega))).ext hEw14)).chg hCw15 (fun hs => by have h : _ = _ := hs; omega))).ext hEw16)
  refine wpF_step (op_v (some 86) (Instr.loadAt 27 (vP w.heap.size 0)) (vA (nnC x)) (rn_lda (vs := nnC x) (hK7.all) (by rw [nnC_len]; kernel_rfl)) ?_)
  refine wpF_step (op_call (some 87) (c_NNOf x _) ?_)
  rintro _ w17 ⟨rfl, hEw17⟩
  have hzw17 := hEw17.size
  refine wpF_run 3 [(89, (vA (nodC (x.nod x.p)))), (88, (vI x.n)), (85, (.tuple #[(vI x.n), (vA (nodC (x.nod x.p)))]))] (wpF_step (op_new (some 15) (Instr.alloc 41 true (.tuple #[])) (vP w17.heap.size 0) (nodC Nod.zero) 41 ?_))
  intro w18 hBw18 hEw18
  have hzw18 := hEw18.size; have hlw18 := hBw18.lt
  refine wpF_run 1 [(14, (vI x.n))] (wpF_step (op_store 41 w17.heap.size 0 41 (vA (nodC (x.nod x.p))) (nodC Nod.zero) (nodC (x.nod x.p)) hBw18 (by rw [nodC_len]; kernel_rfl) (by first | (simp; done) | (simp; omega)) (nodC_one _) ?_))
  intro w19 hBw19 hCw19
  have hzw19 := hCw19.size
  rw [setFrom_all _ _ (by simp)] at hBw19
  refine wpF_end (then_code (wpC_seq (wpC_drawM (Ext w19.drew) 21 [(91, 2048, 0), (92, 1024, 0), (93, 3713820117856140824697372672, 3), (94, 4951760157141521099596496896, 4), (95, 9903520314283042199192994048, 8), (96, 9903520314283042199193026560, 8), (97, 69324642199981295394350956544, 56), (98, 89131682828547379792736944128, 72), (99, 158456325028528675187087900672, 136), (100, 316912650057057350374175801472, 256), (101, 316912650057057350374175803392, 256), (102, 2218388550399401452619230609408, 1792), (103, 316912650057057350374175801472, 256), (104, 316912650057057350374175802368, 256), (105, 15528719852795810168334614265856, 14592), (106, 23134623454165186577314833498112, 18688), (107, 40881731857360398198268678373376, 33024), (108, 81129638414606681695789005144064, 81920), (109, 162259276829213363391578010288128, 131072), (110, 486777830487640090174734030864384, 393216), (7, 649037107316853453566312041152512, 1048575)] (fun hT443 => ?_))))
  have hEw20 : Ext w19 w19.drew := Ext.drew w19
  generalize w19.drew = w20 at hEw20 ⊢
  have hzw20 := hEw20.size
  have hK8 := (((((((((hBw15.ext hEw16)).ext hEw17)).ext hEw18)).chg hCw19 (fun hs => by have h : _ = _ := hs; omega))).ext hEw20)
  refine anyM_take hT443 0 1 (some 90) (vA (nodC ((x.nod x.p).setE (v % 4) z.e))) (yld_val (Instr.loadAt 41 (vP w11.heap.size 0)) (fun w' hC => rn_lda (vs := nodC ((x.nod x.p).setE (v % 4) z.e)) ((hK8.ext hC).all) (by rw [nodC_len]; kernel_rfl))) ?_
  have hK9 := (((((((((hK6.ext hEw16)).ext hEw17)).ext hEw18)).chg hCw19 (fun hs => by have h : _ = _ := hs; omega))).ext hEw20)
  refine anyM_take hT443 1 3 (some 91) (vA (nodC ((x.nod x.p).setE (v % 4) z.e))) (yld_val (Instr.loadAt 41 (vP w5.heap.size 0)) (fun w' hC => rn_lda (vs := nodC ((x.nod x.p).setE (v % 4) z.e)) ((hK9.ext hC).all) (by rw [nodC_len]; kernel_rfl))) (anyM_take hT443 2 7 (some 92) vT (yld_val (bo .eql 41 (.tmp 90) (.tmp 91) (vA (nodC ((x.nod x.p).setE (v % 4) z.e))) (vA (nodC ((x.nod x.p).setE (v % 4) z.e)))) (fun w' hC => run_eqlAgg (r := true) (T := 41) ((run_eq_nod (dd := 9995) (N := 41) (R := 36) (E := 39) (r := 35) (en := 38) (t8 := 5) (td := 33) (e := 5) (tn := 31) (t32 := 28) (t64 := 29) ((x.nod x.p).setE (v % 4) z.e) ((x.nod x.p).setE (v % 4) z.e)).trans (congrArg (fun b => Result.ok b _) (show (((x.nod x.p).setE (v % 4) z.e).eqb ((x.nod x.p).setE (v % 4) z.e)) = true from (Nod.eqb_iff _ _).2 rfl))))) (anyM_run hT443 [(3, 93, vT)] 1 15 ?_))
  have hK10 := (((((((((((((hK4.ext hEw14)).chg hCw15 (fun hs => by have h : _ = _ := hs; omega))).ext hEw16)).ext hEw17)).ext hEw18)).chg hCw19 (fun hs => by have h : _ = _ := hs; omega))).ext hEw20)
  refine anyM_take hT443 4 31 (some 94) (vA (nodC (x.nod x.p))) (yld_val (Instr.loadAt 41 (vP w3.heap.size 0)) (fun w' hC => rn_lda (vs := nodC (x.nod x.p)) ((hK10.ext hC).all) (by rw [nodC_len]; kernel_rfl))) (anyM_take hT443 5 63 (some 95) (vA (nodC (x.nod x.p))) (yld_val (Instr.loadAt 41 (vP w17.heap.size 0)) (fun w' hC => rn_lda (vs := nodC (x.nod x.p)) (((hBw19.ext hEw20).ext hC).all) (by rw [nodC_len]; kernel_rfl))) (anyM_take hT443 6 127 (some 96) vT (yld_val (bo .eql 41 (.tmp 94) (.tmp 95) (vA (nodC (x.nod x.p))) (vA (nodC (x.nod x.p)))) (fun w' hC => run_eqlAgg (r := true) (T := 41) ((run_eq_nod (dd := 9995) (N := 41) (R := 36) (E := 39) (r := 35) (en := 38) (t8 := 5) (td := 33) (e := 5) (tn := 31) (t32 := 28) (t64 := 29) (x.nod x.p) (x.nod x.p)).trans (congrArg (fun b => Result.ok b _) (show ((x.nod x.p).eqb (x.nod x.p)) = true from (Nod.eqb_iff _ _).2 rfl))))) (anyM_run hT443 [(7, 97, vT), (8, 98, vT), (9, 99, (vI x.n))] 3 1023 (anyM_take hT443 10 2047 (some 100) (vA (nodC ((x.nod x.p).setE (v % 4) z.e))) (yld_val (Instr.loadAt 41 (vP w11.heap.size 0)) (fun w' hC => rn_lda (vs := nodC ((x.nod x.p).setE (v % 4) z.e)) ((hK8.ext hC).all) (by rw [nodC_len]; kernel_rfl))) (anyM_run hT443 [(12, 102, (vI x.n))] 1 6143 (anyM_take hT443 13 14335 (some 103) (vA (nodC ((x.nod x.p).setE (v % 4) z.e))) (yld_val (Instr.loadAt 41 (vP w5.heap.size 0)) (fun w' hC => rn_lda (vs := nodC ((x.nod x.p).setE (v % 4) z.e)) ((hK9.ext hC).all) (by rw [nodC_len]; kernel_rfl))) (anyM_one 11 16383 (op_call (some 101) (c_NFits x.n ((x.nod x.p).setE (v % 4) z.e) _ (by omega) (by omega)) ?_))))))))
  rintro _ w21 ⟨rfl, hEw21⟩
  have hzw21 := hEw21.size
  refine ⟨.inr hEw21, ?_⟩
  refine anyM_one 14 32767 (op_call (some 104) (c_rNFits x.n ((x.nod x.p).setE (v % 4) z.e) _ (by omega) (by omega)) ?_)
  rintro _ w22 ⟨rfl, hEw22⟩
  have hzw22 := hEw22.size
  refine ⟨.inr (hEw21.trans hEw22), ?_⟩
  refine anyM_take (hw := show Ext w20 w22 from (hEw21.trans hEw22)) hT443 15 65535 (some 105) vT (yld_b (((fitV x.n ((x.nod x.p).setE (v % 4) z.e) : Nat) : Int) == ((fitV x.n ((x.nod x.p).setE (v % 4) z.e) : Nat) : Int)) (cmpEqT (by omega))) (anyM_run (hw := show Ext w20 w22 from (hEw21.trans hEw22)) hT443 [(16, 106, vT), (17, 107, vT)] 2 262143 ?_)
  have hK11 := (((((((((((((((((((((((((((((((((((((((((((hg0.ext hEw1)).ext hEw2)).ext hEw3)).ext hEw4)).chg hCw5 (fun hs => by have h : _ = _ := hs; omega))).ext hEw6)).chg hCw7 (fun hs => by have h : _ = _ := hs; omega))).chg hCw8 (fun hs => by have h : _ = _ := hs; omega))).chg hCw9 (fun hs => by have h : _ = _ := hs; omega))).chg hCw10 (fun hs => by have h : _ = _ := hs; omega))).ext hEw11)).ext hEw12)).chg hCw13 (fun hs => by have h : _ = _ := hs; omega))).ext hEw14)).chg hCw15 (fun hs => by have h : _ = _ := hs; omega))).ext hEw16)).ext hEw17)).ext hEw18)).chg hCw19 (fun hs => by have h : _ = _ := hs; omega))).ext hEw20)).ext hEw21)).ext hEw22)
  refine anyM_one 18 524287 (op_call (some 108) (c_lives13 _ hK11) ?_)
  rintro _ w23 ⟨rfl, hEw23⟩
  have hzw23 := hEw23.size
  refine ⟨.inr ((hEw21.trans hEw22).trans hEw23), ?_⟩
  refine anyM_run (hw := show Ext w20 w23 from ((hEw21.trans hEw22).trans hEw23)) hT443 [(19, 109, vT), (20, 6, vT)] 2 2097151 (anyM_done (then_code (wpC_ret (body_rets vT ?_))))
  have hX1 : Ext w w23 := (((((Ext.own ((((Ext.own ((Ext.own (((Ext.own (Ext.own (Ext.own (Ext.own ((Ext.own (((hEw1.trans hEw2).trans hEw3).trans hEw4) hCw5 (by omega)).trans hEw6) hCw7 (by omega)) hCw8 (by omega)) hCw9 (by omega)) hCw10 (by omega)).trans hEw11).trans hEw12) hCw13 (by omega)).trans hEw14) hCw15 (by omega)).trans hEw16).trans hEw17).trans hEw18) hCw19 (by omega)).trans hEw20).trans hEw21).trans hEw22).trans hEw23)
  exact ⟨rfl, hX1⟩

theorem c_NW11 (x : NN) (v : Nat) (z : Par)  (w : World) (hp0 : ¬ x.l = 0) (hp1 : chkE z.e = 1) (hg0 : Gl 0 [vI 45, vI 33] w) :
    Calls Tryd.prog 6 #[(vA (nnC x)), (vB v), (vA (parC z))] w (Ret fun r w' => r = vT ∧ Ext w w') := by
  refine calls_of (n := 110) (σ := [(0, (vA (nnC x))), (1, (vB v)), (2, (vA (parC z)))]) Tryd.func6 rfl ?_
  have hgl0 := hg0.lt
  have hn1 := x.n_ok
  have hl5 := x.l_le5
  have hc0 := x.chk0
  have hnp := nodB_pos (x.nod x.p)
  have hv4 : v % 4 < 4 := Nat.mod_lt _ (by decide)
  have hlv0 : (x.nod x.p).lv = x.l := rfl
  have hcw : chkN ((x.nod x.p).setE (v % 4) z.e) = 1 := by rw [chkN_setE hv4 hc0 (by omega)]; exact hp1
  have hw0 : withE (x.nod x.p) ((v % 4 : Nat) : Int) 0 = 1 := withE_no (by omega)
  have hw1 : withE (x.nod x.p) ((v % 4 : Nat) : Int) 1 = 0 := withE_yes hv4 hc0 (by omega)
  refine wpC_seq (wpC_region (wpF_step (op_new (some 3) (Instr.box 27 (vA (nnC x))) (vP w.heap.size 0) (nnC x) 27 ?_)))
  intro w1 hBw1 hEw1
  have hzw1 := hEw1.size; have hlw1 := hBw1.lt
  refine wpF_step (op_new (some 5) (Instr.box 63 (vA (parC z))) (vP w1.heap.size 0) (parC z) 63 ?_)
  intro w2 hBw2 hEw2
  have hzw2 := hEw2.size; have hlw2 := hBw2.lt
  refine wpF_run 1 [(6, vF)] (wpF_end (then_code (wpC_seq (wpC_region (wpF_step (op_v (some 17) (Instr.loadAt 27 (vP w.heap.size 0)) (vA (nnC x)) (rn_lda (vs := nnC x) ((hBw1.ext hEw2).all) (by rw [nnC_len]; kernel_rfl)) ?_))))))
  refine wpF_step (op_call (some 18) (c_NNOf x _) ?_)
  rintro _ w3 ⟨rfl, hEw3⟩
  have hzw3 := hEw3.size
  refine wpF_run 3 [(20, (vA (nodC (x.nod x.p)))), (19, (vI x.n)), (16, (.tuple #[(vI x.n), (vA (nodC (x.nod x.p)))]))] (wpF_step (op_new (some 8) (Instr.alloc 41 true (.tuple #[])) (vP w3.heap.size 0) (nodC Nod.zero) 41 ?_))
  intro w4 hBw4 hEw4
  have hzw4 := hEw4.size; have hlw4 := hBw4.lt
  refine wpF_run 1 [(7, (vI x.n))] (wpF_step (op_store 41 w3.heap.size 0 41 (vA (nodC (x.nod x.p))) (nodC Nod.zero) (nodC (x.nod x.p)) hBw4 (by rw [nodC_len]; kernel_rfl) (by first | (simp; done) | (simp; omega)) (nodC_one _) ?_))
  intro w5 hBw5 hCw5
  have hzw5 := hCw5.size
  rw [setFrom_all _ _ (by simp)] at hBw5
  refine wpF_end (then_code (wpC_seq (wpC_region (wpF_run 1 [(21, (vB v))] (wpF_step (op_in (some 22) .u8 (((v : Nat) : Int).tmod ((4 : Nat) : Int)) (v % 4) (tmodN _ _) ?_))))))
  refine wpF_step (op_in (some 23) .i64 (IntKind.i64.wrap ((v % 4 : Nat) : Int)) (v % 4) (wrapS rfl (by omega) (by omega)) ?_)
  refine wpF_run 1 [(9, (vI (v % 4)))] (wpF_end (then_code (wpC_seq (wpC_region (wpF_step (op_v (some 24) (Instr.loadAt 41 (vP w3.heap.size 0)) (vA (nodC (x.nod x.p))) (rn_lda (vs := nodC (x.nod x.p)) (hBw5.all) (by rw [nodC_len]; kernel_rfl)) ?_))))))
  refine wpF_step (op_new (some 10) (Instr.alloc 41 true (.tuple #[])) (vP w5.heap.size 0) (nodC Nod.zero) 41 ?_)
  intro w6 hBw6 hEw6
  have hzw6 := hEw6.size; have hlw6 := hBw6.lt
  refine wpF_step (op_store 41 w5.heap.size 0 41 (vA (nodC (x.nod x.p))) (nodC Nod.zero) (nodC (x.nod x.p)) hBw6 (by rw [nodC_len]; kernel_rfl) (by first | (simp; done) | (simp; omega)) (nodC_one _) ?_)
  intro w7 hBw7 hCw7
  have hzw7 := hCw7.size
  rw [setFrom_all _ _ (by simp)] at hBw7
  refine wpF_end (then_code (wpC_seq (wpC_region (wpF_run 2 [(26, (vP w1.heap.size 0)), (25, (vI (v % 4)))] ?_))))
  have hK1 := (((((((((hBw2.ext hEw3)).ext hEw4)).chg hCw5 (fun hs => by have h : _ = _ := hs; omega))).ext hEw6)).chg hCw7 (fun hs => by have h : _ = _ := hs; omega))
  refine wpF_step (op_v (some 27) (Instr.loadAt 35 (vP w1.heap.size 0)) (vA (recC z.r)) (rn_lda (vs := recC z.r) (hK1.at 0 (recC z.r) (par_r _)) (by rw [recC_len]; kernel_rfl)) ?_)
  refine wpF_run 1 [(28, (vP w5.heap.size 2))] (wpF_step (op_v (some 29) (Instr.indexAt 36 (vP w5.heap.size 2) (vI (v % 4))) (vP w5.heap.size (2 + (v % 4) * 35)) (rn_ixa (E := 35) (sz := 35) (m := 4) (by omega)) ?_))
  refine wpF_step (op_store 35 w5.heap.size (2 + (v % 4) * 35) 41 (vA (recC z.r)) (nodC (x.nod x.p)) (recC z.r) hBw7 (by rw [recC_len]; kernel_rfl) (by first | (simp; done) | (simp; omega)) (recC_one _) ?_)
  intro w8 hBw8 hCw8
  have hzw8 := hCw8.size
  rw [show (setFrom (nodC (x.nod x.p)) (2 + (v % 4) * 35) (recC z.r) : List Value) = nodC ((x.nod x.p).setR (v % 4) z.r) from nod_setR (by omega)] at hBw8
  refine wpF_end (then_code (wpC_seq (wpC_region (wpF_run 2 [(31, (vP w1.heap.size 35)), (30, (vI (v % 4)))] (wpF_step (op_v (some 32) (Instr.loadAt 38 (vP w1.heap.size 35)) (vA (entC z.e)) (rn_lda (vs := entC z.e) (((hK1).chg hCw8 (fun hs => by have h : _ = _ := hs; omega)).at 35 (entC z.e) (par_e _)) (by rw [entC_len]; kernel_rfl)) ?_))))))
  refine wpF_run 1 [(33, (vP w5.heap.size 142))] (wpF_step (op_v (some 34) (Instr.indexAt 39 (vP w5.heap.size 142) (vI (v % 4))) (vP w5.heap.size (142 + (v % 4) * 33)) (rn_ixa (E := 38) (sz := 33) (m := 4) (by omega)) ?_))
  refine wpF_step (op_store 38 w5.heap.size (142 + (v % 4) * 33) 41 (vA (entC z.e)) (nodC ((x.nod x.p).setR (v % 4) z.r)) (entC z.e) hBw8 (by rw [entC_len]; kernel_rfl) (by first | (simp; done) | (simp; omega)) (entC_one _) ?_)
  intro w9 hBw9 hCw9
  have hzw9 := hCw9.size
  rw [show (setFrom (nodC ((x.nod x.p).setR (v % 4) z.r)) (142 + (v % 4) * 33) (entC z.e) : List Value) = nodC (((x.nod x.p).setR (v % 4) z.r).setE (v % 4) z.e) from nod_setE (by omega)] at hBw9
  refine wpF_end (then_code (wpC_seq (wpC_seq (wpC_region (wpF_run 1 [(35, (vP w3.heap.size 0))] ?_)))))
  have hK2 := (((((((hBw5.ext hEw6)).chg hCw7 (fun hs => by have h : _ = _ := hs; omega))).chg hCw8 (fun hs => by have h : _ = _ := hs; omega))).chg hCw9 (fun hs => by have h : _ = _ := hs; omega))
  refine wpF_step (op_v (some 36) (Instr.loadAt 5 (vP w3.heap.size 0)) (vB ((x.nod x.p).lv)) (rn_ld (hK2.cell rfl)) ?_)
  refine wpF_step (op_b (some 37) ((((x.nod x.p).lv : Nat) : Int) == ((0 : Nat) : Int)) false (cmpEqF (by omega)) ?_)
  refine wpF_end (then_code (wpC_false (wpC_region (wpF_run 3 [(44, (vP w5.heap.size 2)), (43, (vA (recC Rec.zero))), (42, (vI (v % 4)))] (wpF_step (op_v (some 45) (Instr.indexAt 36 (vP w5.heap.size 2) (vI (v % 4))) (vP w5.heap.size (2 + (v % 4) * 35)) (rn_ixa (E := 35) (sz := 35) (m := 4) (by omega)) ?_))))))
  refine wpF_step (op_store 35 w5.heap.size (2 + (v % 4) * 35) 41 (vA (recC Rec.zero)) (nodC (((x.nod x.p).setR (v % 4) z.r).setE (v % 4) z.e)) (recC Rec.zero) hBw9 (by rw [recC_len]; kernel_rfl) (by first | (simp; done) | (simp; omega)) (recC_one _) ?_)
  intro w10 hBw10 hCw10
  have hzw10 := hCw10.size
  rw [show (setFrom (nodC (((x.nod x.p).setR (v % 4) z.r).setE (v % 4) z.e)) (2 + (v % 4) * 35) (recC Rec.zero) : List Value) = nodC ((x.nod x.p).setE (v % 4) z.e) from (nod_setR (by omega)).trans (congrArg nodC (wantE (by omega) (x.rs0 hp0 (by omega))))] at hBw10
  refine wpF_end (then_code (wpC_seq (wpC_region (wpF_step (op_v (some 47) (Instr.loadAt 41 (vP w3.heap.size 0)) (vA (nodC (x.nod x.p))) (rn_lda (vs := nodC (x.nod x.p)) (((hK2).chg hCw10 (fun hs => by have h : _ = _ := hs; omega)).all) (by rw [nodC_len]; kernel_rfl)) ?_)))))
  refine wpF_run 2 [(49, (vP w1.heap.size 0)), (48, (vI (v % 4)))] ?_
  have hK3 := ((((((hK1).chg hCw8 (fun hs => by have h : _ = _ := hs; omega))).chg hCw9 (fun hs => by have h : _ = _ := hs; omega))).chg hCw10 (fun hs => by have h : _ = _ := hs; omega))
  refine wpF_step (op_v (some 50) (Instr.loadAt 35 (vP w1.heap.size 0)) (vA (recC z.r)) (rn_lda (vs := recC z.r) (hK3.at 0 (recC z.r) (par_r _)) (by rw [recC_len]; kernel_rfl)) ?_)
  refine wpF_step (op_call (some 51) (c_WithRecordBad (x.nod x.p) ((v % 4 : Nat) : Int) z.r _ (by intro h; first | omega | (have := h.1; omega))) ?_)
  rintro _ w11 ⟨rfl, hEw11⟩
  have hzw11 := hEw11.size
  refine wpF_run 3 [(53, (vI 1)), (52, (vA (nodC Nod.zero))), (46, (.tuple #[(vA (nodC Nod.zero)), (vI 1)]))] (wpF_step (op_new (some 11) (Instr.alloc 41 true (.tuple #[])) (vP w11.heap.size 0) (nodC Nod.zero) 41 ?_))
  intro w12 hBw12 hEw12
  have hzw12 := hEw12.size; have hlw12 := hBw12.lt
  refine wpF_step (op_store 41 w11.heap.size 0 41 (vA (nodC Nod.zero)) (nodC Nod.zero) (nodC Nod.zero) hBw12 (by rw [nodC_len]; kernel_rfl) (by first | (simp; done) | (simp; omega)) (nodC_one _) ?_)
  intro w13 hBw13 hCw13
  have hzw13 := hCw13.size
  rw [setFrom_all _ _ (by simp)] at hBw13
  refine wpF_run 1 [(12, (vI 1))] (wpF_end (then_code (wpC_seq (wpC_seq (wpC_region (wpF_run 1 [(54, (vP w3.heap.size 0))] ?_))))))
  have hK4 := ((((((((hK2).chg hCw10 (fun hs => by have h : _ = _ := hs; omega))).ext hEw11)).ext hEw12)).chg hCw13 (fun hs => by have h : _ = _ := hs; omega))
  refine wpF_step (op_v (some 55) (Instr.loadAt 5 (vP w3.heap.size 0)) (vB ((x.nod x.p).lv)) (rn_ld (hK4.cell rfl)) ?_)
  refine wpF_step (op_b (some 56) (decide ((((x.nod x.p).lv : Nat) : Int) > ((0 : Nat) : Int))) true (cmpDT (by omega)) ?_)
  refine wpF_end (then_code (wpC_true (wpC_seq (wpC_seq (wpC_region (wpF_run 3 [(59, vF), (58, vF), (57, (vI 1))] (wpF_step (op_v (some 60) (Instr.loadAt 41 (vP w11.heap.size 0)) (vA (nodC Nod.zero)) (rn_lda (vs := nodC Nod.zero) (hBw13.all) (by rw [nodC_len]; kernel_rfl)) ?_))))))))
  refine wpF_run 1 [(61, (vA (nodC Nod.zero)))] (wpF_step (op_v (some 62) (bo .neq 41 (.tmp 60) (.tmp 61) (vA (nodC Nod.zero)) (vA (nodC Nod.zero))) vF (run_neqAgg (r := true) (T := 41) ((run_eq_nod (dd := 9995) (N := 41) (R := 36) (E := 39) (r := 35) (en := 38) (t8 := 5) (td := 33) (e := 5) (tn := 31) (t32 := 28) (t64 := 29) Nod.zero Nod.zero).trans (congrArg (fun b => Result.ok b _) (show (Nod.zero.eqb Nod.zero) = true from (Nod.eqb_iff _ _).2 rfl)))) ?_))
  refine wpF_run 1 [(63, vF)] (wpF_end (then_code (wpC_false (wpC_skip (then_code (wpC_region (wpF_step (op_v (some 65) (Instr.loadAt 41 (vP w3.heap.size 0)) (vA (nodC (x.nod x.p))) (rn_lda (vs := nodC (x.nod x.p)) (hK4.all) (by rw [nodC_len]; kernel_rfl)) ?_))))))))
  refine wpF_run 2 [(67, (vP w1.heap.size 35)), (66, (vI (v % 4)))] ?_
  have hK5 := (((((hK3.ext hEw11)).ext hEw12)).chg hCw13 (fun hs => by have h : _ = _ := hs; omega))
  refine wpF_step (op_v (some 68) (Instr.loadAt 38 (vP w1.heap.size 35)) (vA (entC z.e)) (rn_lda (vs := entC z.e) (hK5.at 35 (entC z.e) (par_e _)) (by rw [entC_len]; kernel_rfl)) ?_)
  refine wpF_step (op_call (some 69) (c_WithEntryBad (x.nod x.p) ((v % 4 : Nat) : Int) z.e _ (by intro h; omega)) ?_)
  rintro _ w14 ⟨rfl, hEw14⟩
  have hzw14 := hEw14.size
  refine wpF_run 3 [(71, (vI 1)), (70, (vA (nodC Nod.zero))), (64, (.tuple #[(vA (nodC Nod.zero)), (vI 1)]))] (wpF_step (op_store 41 w11.heap.size 0 41 (vA (nodC Nod.zero)) (nodC Nod.zero) (nodC Nod.zero) (hBw13.ext hEw14) (by rw [nodC_len]; kernel_rfl) (by first | (simp; done) | (simp; omega)) (nodC_one _) ?_))
  intro w15 hBw15 hCw15
  have hzw15 := hCw15.size
  rw [setFrom_all _ _ (by simp)] at hBw15
  refine wpF_run 1 [(12, (vI 1))] (wpF_end (then_code (wpC_seq (wpC_region ?_))))
  have hK6 := (((((((((hBw10.ext hEw11)).ext hEw12)).chg hCw13 (fun hs => by have h : _ = _ := hs; omega))).ext hEw14)).chg hCw15 (fun hs => by have h : _ = _ := hs; omega))
  refine wpF_step (op_v (some 72) (Instr.loadAt 41 (vP w5.heap.size 0)) (vA (nodC ((x.nod x.p).setE (v % 4) z.e))) (rn_lda (vs := nodC ((x.nod x.p).setE (v % 4) z.e)) (hK6.all) (by rw [nodC_len]; kernel_rfl)) ?_)
  refine wpF_step (op_call (some 73) (c_rNCheck ((x.nod x.p).setE (v % 4) z.e) _) ?_)
  rintro _ w16 ⟨rfl, hEw16⟩
  have hzw16 := hEw16.size
  rw [show chkN ((x.nod x.p).setE (v % 4) z.e) = 1 from hcw]
  refine wpF_run 1 [(13, (vI 1))] (wpF_end (then_code (wpC_seq (wpC_seq (wpC_region (wpF_run 2 [(75, (vI 1)), (74, (vI 1))] (wpF_step (op_b (some 76) (((1 : Nat) : Int) != ((1 : Nat) : Int)) false (cmpNeF (by omega)) ?_))))))))
  refine wpF_end (then_code (wpC_false (wpC_skip (then_code (wpC_seq (wpC_seq (wpC_region (wpF_run 1 [(77, (vI 1))] (wpF_step (op_b (some 78) (((1 : Nat) : Int) != ((0 : Nat) : Int)) true (cmpNeT (by omega)) ?_))))))))))
  refine wpF_end (then_code (wpC_true (wpC_seq (wpC_region (wpF_step (op_v (some 79) (Instr.loadAt 41 (vP w11.heap.size 0)) (vA (nodC Nod.zero)) (rn_lda (vs := nodC Nod.zero) ((hBw15.ext hEw16).all) (by rw [nodC_len]; kernel_rfl)) ?_))))))
  refine wpF_run 1 [(80, (vA (nodC Nod.zero)))] (wpF_step (op_v (some 81) (bo .eql 41 (.tmp 79) (.tmp 80) (vA (nodC Nod.zero)) (vA (nodC Nod.zero))) vT (run_eqlAgg (r := true) (T := 41) ((run_eq_nod (dd := 9995) (N := 41) (R := 36) (E := 39) (r := 35) (en := 38) (t8 := 5) (td := 33) (e := 5) (tn := 31) (t32 := 28) (t64 := 29) Nod.zero Nod.zero).trans (congrArg (fun b => Result.ok b _) (show (Nod.zero.eqb Nod.zero) = true from (Nod.eqb_iff _ _).2 rfl)))) ?_))
  refine wpF_run 1 [(82, vT)] ?_
  have hK7 := (((((((((((((((((((((((((((((((hg0.ext hEw1)).ext hEw2)).ext hEw3)).ext hEw4)).chg hCw5 (fun hs => by have h : _ = _ := hs; omega))).ext hEw6)).chg hCw7 (fun hs => by have h : _ = _ := hs; omega))).chg hCw8 (fun hs => by have h : _ = _ := hs; omega))).chg hCw9 (fun hs => by have h : _ = _ := hs; omega))).chg hCw10 (fun hs => by have h : _ = _ := hs; omega))).ext hEw11)).ext hEw12)).chg hCw13 (fun hs => by have h : _ = _ := hs; omega))).ext hEw14)).chg hCw15 (fun hs => by have h : _ = _ := hs; omega))).ext hEw16)
  refine wpF_step (op_call (some 83) (c_lives13 _ hK7) ?_)
  rintro _ w17 ⟨rfl, hEw17⟩
  have hzw17 := hEw17.size
  refine wpF_run 2 [(6, vT), (84, vT)] (wpF_end (then_code (wpC_ret (then_ret (body_rets vT ?_)))))
  have hX1 : Ext w w17 := (((Ext.own ((Ext.own (((Ext.own (Ext.own (Ext.own (Ext.own ((Ext.own (((hEw1.trans hEw2).trans hEw3).trans hEw4) hCw5 (by omega)).trans hEw6) hCw7 (by omega)) hCw8 (by omega)) hCw9 (by omega)) hCw10 (by omega)).trans hEw11).trans hEw12) hCw13 (by omega)).trans hEw14) hCw15 (by omega)).trans hEw16).trans hEw17)
  exact ⟨rfl, hX1⟩

theorem c_NodesWith (x : NN) (v : Nat) (z : Par)  (w : World) (hg0 : Gl 0 [vI 45, vI 33] w) :
    Calls Tryd.prog 6 #[(vA (nnC x)), (vB v), (vA (parC z))] w (Ret fun r w' => r = vT ∧ Ext w w') := by
  by_cases h : x.l = 0
  · rcases chkR_le z.r with h2 | h2
    · exact c_NW00 x v z w h h2 hg0
    · exact c_NW01 x v z w h h2 hg0
  · rcases chkE_le z.e with h2 | h2
    · exact c_NW10 x v z w h h2 hg0
    · exact c_NW11 x v z w h h2 hg0

end Go.Proofs.YtpcbhalagllhnaaDoor
