/- CsC7: what each function does, by its own code. No condition beyond those of each statement. -/
import Derived.Test.YthjplefmfjkhfaaDoorCsC4
namespace Go.Proofs.YthjplefmfjkhfaaDoor
open Go Go.RowKit Go.Cs
set_option maxRecDepth 100000
set_option linter.all false
set_option linter.unusedVariables false

theorem c_CFbig (n : Int) {lo_l hi_l : Nat} {a_l : Option Addr} {n_l c_l : Nat} {l : List Cel} (p : Int) (q : Int)  (w : World) (h_l : Ms celC 34 lo_l hi_l w a_l n_l c_l l) (hp0 : 40 < n_l) (hg0 : Gl 0 [vI 45, vI 33] w) (hg1 : Gl 1 (w8C iniA) w) (hg2 : Gl 2 (w64C kA) w) :
    Calls Tryd.prog 7 #[(.int .i64 n), (.slice a_l n_l c_l), (vA [(.int .i64 p), (.int .i64 q)])] w (Ret fun r w' => r = vT ∧ Ext w w') := by
  refine calls_of (n := 185) (σ := [(0, (.int .i64 n)), (1, (.slice a_l n_l c_l)), (2, (vA [(.int .i64 p), (.int .i64 q)]))]) Tryd.func7 rfl ?_
  replace h_l := h_l.now; have hle_l := h_l.le
  have hgl0 := hg0.lt
  have hgl1 := hg1.lt
  have hgl2 := hg2.lt
  refine wpC_seq (wpC_region (wpF_step (op_new (some 5) (Instr.box 61 (vA [(.int .i64 p), (.int .i64 q)])) (vP w.heap.size 0) ([(.int .i64 p), (.int .i64 q)]) 61 ?_)))
  intro w1 hBw1 hEw1
  have hzw1 := hEw1.size; have hlw1 := hBw1.lt
  refine wpF_run 1 [(6, vF)] (wpF_end (then_code (wpC_seq (wpC_seq (wpC_region (wpF_run 2 [(19, (vI n_l)), (18, (.slice a_l n_l c_l))] (wpF_step (op_b (some 20) (decide (((n_l : Nat) : Int) > ((40 : Nat) : Int))) true (cmpDT (by omega)) ?_))))))))
  refine wpF_end (then_code (wpC_true (wpC_seq (wpC_region (wpF_step (op_call (some 21) (c_lives15 _ (hg0.ext hEw1) (hg1.ext hEw1) (hg2.ext hEw1)) ?_))))))
  rintro _ w2 ⟨rfl, hEw2⟩
  have hzw2 := hEw2.size
  exact wpF_run 1 [(6, vT)] (wpF_end (then_code (wpC_ret (then_ret (body_rets vT (⟨rfl, (hEw1.trans hEw2)⟩))))))

theorem c_CF00 (n : Nat) {lo_l hi_l : Nat} {a_l : Option Addr} {n_l c_l : Nat} {l : List Cel} (p : Int) (q : Int)  (w : World) (h_l : Ms celC 34 lo_l hi_l w a_l n_l c_l l) (hp0 : n_l ≤ 40) (hp1 : 1 ≤ n) (hp2 : n ≤ 4096) (hp3 : ¬ (0 ≤ p ∧ p ≤ q ∧ q < (n_l : Int))) (hg0 : Gl 0 [vI 45, vI 33] w) (hg1 : Gl 1 (w8C iniA) w) (hg2 : Gl 2 (w64C kA) w) :
    Calls Tryd.prog 7 #[(vI n), (.slice a_l n_l c_l), (vA [(.int .i64 p), (.int .i64 q)])] w (Ret fun r w' => r = vT ∧ Ext w w') := by
  refine calls_of (n := 185) (σ := [(0, (vI n)), (1, (.slice a_l n_l c_l)), (2, (vA [(.int .i64 p), (.int .i64 q)]))]) Tryd.func7 rfl ?_
  replace h_l := h_l.now; have hle_l := h_l.le
  have hgl0 := hg0.lt
  have hgl1 := hg1.lt
  have hgl2 := hg2.lt
  have hlen := h_l.len_eq
  refine wpC_seq (wpC_region (wpF_step (op_new (some 5) (Instr.box 61 (vA [(.int .i64 p), (.int .i64 q)])) (vP w.heap.size 0) ([(.int .i64 p), (.int .i64 q)]) 61 ?_)))
  intro w1 hBw1 hEw1
  have hzw1 := hEw1.size; have hlw1 := hBw1.lt
  refine wpF_run 1 [(6, vF)] (wpF_end (then_code (wpC_seq (wpC_seq (wpC_region (wpF_run 2 [(19, (vI n_l)), (18, (.slice a_l n_l c_l))] (wpF_step (op_b (some 20) (decide (((n_l : Nat) : Int) > ((40 : Nat) : Int))) false (cmpDF (by omega)) ?_))))))))
  refine wpF_end (then_code (wpC_false (wpC_skip (then_code (wpC_seq (wpC_region (wpF_run 2 [(24, (.slice a_l n_l c_l)), (23, (vI n))] (wpF_step (op_call (some 25) (c_Snd n _ (h_l.ext hEw1) (by omega) (by omega) (hg0.ext hEw1) (hg1.ext hEw1) (hg2.ext hEw1)) ?_)))))))))
  rintro _ w2 ⟨rfl, hEw2⟩
  have hzw2 := hEw2.size
  refine wpF_run 5 [(8, (vI (sndE n l))), (7, (vI (sndA n l))), (27, (vI (sndE n l))), (26, (vI (sndA n l))), (22, (.tuple #[(vI (sndA n l)), (vI (sndE n l))]))] (wpF_end (then_code (wpC_seq (wpC_region (wpF_run 1 [(28, (.slice a_l n_l c_l))] (wpF_step (op_call (some 29) (c_rFault _ (((h_l.ext hEw1)).ext hEw2)) ?_)))))))
  rintro _ w3 ⟨rfl, hEw3⟩
  have hzw3 := hEw3.size
  refine wpF_run 1 [(9, (vI (flt l)))] (wpF_end (then_code (wpC_seq (wpC_region (wpF_run 1 [(10, (vI 0))] (wpF_end (then_code (wpC_join (X := Nat) (fun y => [(10, (vI y))]) [30, 31] (fun y w4 => y = (if flt l = 0 then 0 else 13) ∧ w3 = w4) ?_ ?_))))))))
  · refine wpC_seq (wpC_region (wpF_run 1 [(30, (vI (flt l)))] (wpF_step (op_split (some 31) (decide (((flt l : Nat) : Int) > ((0 : Nat) : Int))) (fun hc31 => ?_) (fun hc31 => ?_)))))
    · replace hc31 : flt l > 0 := by have := of_d_t hc31; omega
      exact wpF_end (then_code (wpC_true (wpC_region (wpF_run 1 [(10, (vI 13))] (wpF_end (then_normal (endJ_mk 13 (⟨by rw [if_neg (by omega)], rfl⟩))))))))
    · replace hc31 : ¬ (flt l > 0) := by have := of_d_f hc31; omega
      exact wpF_end (then_code (wpC_false (wpC_skip (then_normal (endJ_mk 0 (⟨by rw [if_pos (by omega)], rfl⟩))))))
  rintro y dw4 w4 ⟨hy, rfl⟩
  refine wpC_join (X := Nat × Nat) (fun ⟨u, v⟩ => [(9, (vI u)), (10, (vI v))]) [32, 33, 34, 35, 36, 37, 38, 39, 40, 41, 42, 43, 44, 45, 46] (fun ⟨u, v⟩ w5 => u = sndA n l ∧ v = sndE n l ∧ Ext w3 w5) ?_ ?_
  · refine wpC_seq (wpC_region (wpF_run 1 [(32, (vI n))] (wpF_step (op_b (some 33) (decide (((n : Nat) : Int) < ((1 : Nat) : Int))) false (cmpDF (by omega)) ?_))))
    refine wpF_run 2 [(35, (vI n)), (34, vF)] (wpF_step (op_b (some 36) (decide (((n : Nat) : Int) > ((4096 : Nat) : Int))) false (cmpDF (by omega)) ?_))
    refine wpF_run 1 [(37, vF)] (wpF_end (then_code (wpC_false (wpC_seq (wpC_region (wpF_run 2 [(39, (vI n_l)), (38, (.slice a_l n_l c_l))] (wpF_step (op_split (some 40) ((((n_l : Nat) : Int) == ((0 : Nat) : Int))) (fun hc40 => ?_) (fun hc40 => ?_)))))))))
    · replace hc40 : n_l = 0 := by have := of_eq_t hc40; omega
      exact wpF_end (then_code (wpC_true (wpC_region (wpF_run 1 [(10, (vI 16))] (wpF_end (then_normal (endJ_mk (flt l, 16) (⟨by unfold sndA; rw [if_pos (by omega)]; exact flt_none (fun i hi => by omega), by unfold sndE; rw [if_pos (by omega)], (Ext.refl _)⟩))))))))
    · replace hc40 : ¬ (n_l = 0) := by have := of_eq_f hc40; omega
      refine wpF_end (then_code (wpC_false (wpC_seq (wpC_drawM (Ext w3.drew) 6 [(42, 2, 0), (43, 2199023255552, 1), (44, 4398046511104, 2), (45, 1, 0), (46, 17592186044416, 8), (47, 43980465111040, 20)] (fun hT119 => ?_)))))
      have hEw6 : Ext w3 w3.drew := Ext.drew w3
      generalize w3.drew = w6 at hEw6 ⊢
      have hzw6 := hEw6.size
      refine anyM_run hT119 [(0, 41, (.slice a_l n_l c_l))] 1 1 ?_
      obtain ⟨b1, o1, rfl⟩ := h_l.addr (by omega) (by decide)
      refine anyM_take hT119 1 3 (some 42) (vP b1 (o1 + 0 * 34)) (yld_val (Instr.indexAt 51 (.slice (pA b1 o1) n_l c_l) (vI 0)) (fun w' hC => rn_ixs (E := 30) (sz := 34) (by omega))) ?_
      have hK1 := (((((((h_l.ext hEw1)).ext hEw2)).ext hEw3)).ext hEw6)
      refine anyM_take hT119 2 7 (some 43) (vA (celC (l.getD 0 Cel.zero))) (yld_val (Instr.loadAt 30 (vP b1 (o1 + 0 * 34))) (fun w' hC => rn_lda (vs := celC (l.getD 0 Cel.zero)) ((hK1.ext hC).at Cel.zero (by omega)) (by rw [celC_len]; kernel_rfl))) (anyM_run hT119 [(3, 44, (vI n))] 1 15 (anyM_one 4 31 (op_call (some 45) (c_rFresh n _ (by omega) (by omega)) ?_)))
      rintro _ w7 ⟨rfl, hEw7⟩
      have hzw7 := hEw7.size
      refine ⟨.inr hEw7, ?_⟩
      rcases Bool.eq_false_or_eq_true ((cel l 0).eqb (freC n)) with hq46 | hq46
      · exact anyM_take (hw := show Ext w6 w7 from hEw7) hT119 5 63 (some 46) vF (yld_val (bo .neq 30 (.tmp 43) (.tmp 45) (vA (celC (l.getD 0 Cel.zero))) (vA (celC (freC n)))) (fun w' hC => run_neqAgg (r := true) (T := 30) ((run_eq_cel (dd := 9997) (t := 30) (td := 27) (e := 5) (t64 := 28) (l.getD 0 Cel.zero) (freC n)).trans (congrArg (fun b => Result.ok b _) (show ((l.getD 0 Cel.zero).eqb (freC n)) = true from hq46))))) (anyM_done (then_code (wpC_false (wpC_skip (then_normal (endJ_mk (flt l, y) (⟨by unfold sndA; rw [if_neg (by omega), if_neg (by rw [hq46]; decide)], by unfold sndE; rw [if_neg (by omega), if_neg (by rw [hq46]; decide)]; exact hy, (hEw6.trans hEw7)⟩)))))))
      · refine anyM_take (hw := show Ext w6 w7 from hEw7) hT119 5 63 (some 46) vT (yld_val (bo .neq 30 (.tmp 43) (.tmp 45) (vA (celC (l.getD 0 Cel.zero))) (vA (celC (freC n)))) (fun w' hC => run_neqAgg (r := false) (T := 30) ((run_eq_cel (dd := 9997) (t := 30) (td := 27) (e := 5) (t64 := 28) (l.getD 0 Cel.zero) (freC n)).trans (congrArg (fun b => Result.ok b _) (show ((l.getD 0 Cel.zero).eqb (freC n)) = false from hq46))))) (anyM_done (then_code (wpC_true (wpC_seq (wpC_region (wpF_run 1 [(9, (vI 0))] (wpF_end (then_code (wpC_region ?_)))))))))
        exact wpF_run 1 [(10, (vI 1))] (wpF_end (then_normal (endJ_mk (0, 1) (⟨by unfold sndA; rw [if_neg (by omega), if_pos hq46], by unfold sndE; rw [if_neg (by omega), if_pos hq46], (hEw6.trans hEw7)⟩))))
  rintro ⟨u, v⟩ dw5 w5 ⟨hu, hv, hEj⟩
  have hzj := hEj.size
  refine wpC_seq (wpC_seq (wpC_region (wpF_run 2 [(48, (vI u)), (47, (vI (sndA n l)))] (wpF_step (op_b (some 49) (((sndA n l : Nat) : Int) != ((u : Nat) : Int)) false (cmpNeF (by omega)) ?_)))))
  refine wpF_run 3 [(52, (vI v)), (51, (vI (sndE n l))), (50, vF)] (wpF_step (op_b (some 53) (((sndE n l : Nat) : Int) != ((v : Nat) : Int)) false (cmpNeF (by omega)) ?_))
  refine wpF_run 1 [(54, vF)] (wpF_end (then_code (wpC_false (wpC_skip (then_code (wpC_seq (wpC_region (wpF_run 1 [(55, (.slice a_l n_l c_l))] ?_))))))))
  have hK2 := (((((((h_l.ext hEw1)).ext hEw2)).ext hEw3)).ext hEj)
  refine wpF_step (op_call (some 56) (c_Commits _ hK2 (by first | omega | decide)) ?_)
  rintro _ w8 ⟨a1, rfl, hFz4_0, hEw8⟩
  have hzw8 := hEw8.size
  have hlea1 := hFz4_0.le
  refine wpF_run 1 [(11, (.slice a1 ((com l (n_l - 1)).length) ((com l (n_l - 1)).length)))] (wpF_end (then_code (wpC_seq (wpC_region (wpF_run 1 [(12, (vI 0))] (wpF_end (then_code (wpC_seq (wpC_seq ?_)))))))))
  refine wpC_region (wpF_run 1 [(13, (vI 1))] (wpF_end (then_code (wpC_block (wpC_loop (X := Nat) (fun k => [(12, (vI ((com l k).length))), (13, (vI (k + 1)))]) [6, 57, 58, 59, 60, 61, 62, 63, 64, 65, 66, 67, 68, 69, 70, 71, 72, 73, 74, 75, 76, 77, 78, 79, 80, 81, 82, 83, 84, 85, 86, 87] (fun k w9 => k ≤ n_l - 1 ∧ Ext w8 w9) (fun k => n_l - k) 0 (by kernel_rfl) ⟨by omega, Ext.refl _⟩ ?_)))))
  rintro k dw9 w9 ⟨hk, hEl⟩
  have hzl := hEl.size
  have hcl := com_le l k
  refine wpC_seq (wpC_seq (wpC_region (wpF_run 3 [(59, (vI n_l)), (58, (.slice a_l n_l c_l)), (57, (vI (k + 1)))] (wpF_step (op_split (some 60) (decide (((k + 1 : Nat) : Int) < ((n_l : Nat) : Int))) (fun hc60 => ?_) (fun hc60 => ?_))))))
  · replace hc60 : k + 1 < n_l := by have := of_d_t hc60; omega
    refine wpF_end (then_code (wpC_true (wpC_skip (then_code (wpC_seq (wpC_block (wpC_seq (wpC_drawM (Ext w9.drew) 11 [(64, 2, 0), (65, 8192, 0), (66, 18446744073709551616, 2), (67, 46116860184273879040, 5), (68, 73786976294838206464, 8), (69, 2, 0), (70, 8192, 0), (71, 885443715538058477568, 96), (72, 1180591620717411303424, 128), (73, 2508757194024499019776, 272), (74, 4722366482869645213696, 512)] (fun hT213 => ?_)))))))))
    have hEw10 : Ext w9 w9.drew := Ext.drew w9
    generalize w9.drew = w10 at hEw10 ⊢
    have hzw10 := hEw10.size
    refine anyM_run hT213 [(0, 63, (.slice a_l n_l c_l)), (1, 64, (vI (k + 1)))] 2 3 (anyM_take hT213 2 7 (some 65) (vI k) (yld_in .i64 (IntKind.i64.wrap (((k + 1 : Nat) : Int) - ((1 : Nat) : Int))) (wrapS (by omega) (by omega) (by omega))) ?_)
    obtain ⟨b2, o2, rfl⟩ := hK2.addr (by omega) (by decide)
    refine anyM_take hT213 3 15 (some 66) (vP b2 (o2 + k * 34)) (yld_val (Instr.indexAt 51 (.slice (pA b2 o2) n_l c_l) (vI k)) (fun w' hC => rn_ixs (E := 30) (sz := 34) (by omega))) ?_
    have hK3 := (((((hK2.ext hEw8)).ext hEl)).ext hEw10)
    refine anyM_take hT213 4 31 (some 67) (vA (celC (l.getD k Cel.zero))) (yld_val (Instr.loadAt 30 (vP b2 (o2 + k * 34))) (fun w' hC => rn_lda (vs := celC (l.getD k Cel.zero)) ((hK3.ext hC).at Cel.zero (by omega)) (by rw [celC_len]; kernel_rfl))) (anyM_run hT213 [(5, 68, (.slice (pA b2 o2) n_l c_l)), (6, 69, (vI (k + 1)))] 2 127 (anyM_take hT213 7 255 (some 70) (vP b2 (o2 + (k + 1) * 34)) (yld_val (Instr.indexAt 51 (.slice (pA b2 o2) n_l c_l) (vI (k + 1))) (fun w' hC => rn_ixs (E := 30) (sz := 34) (by omega))) (anyM_take hT213 8 511 (some 71) (vA (celC (l.getD (k + 1) Cel.zero))) (yld_val (Instr.loadAt 30 (vP b2 (o2 + (k + 1) * 34))) (fun w' hC => rn_lda (vs := celC (l.getD (k + 1) Cel.zero)) ((hK3.ext hC).at Cel.zero (by omega)) (by rw [celC_len]; kernel_rfl))) (anyM_one 9 1023 (op_call (some 72) (c_rFol (l.getD k Cel.zero) (l.getD (k + 1) Cel.zero) _) ?_)))))
    rintro _ w11 ⟨rfl, hEw11⟩
    have hzw11 := hEw11.size
    refine ⟨.inr hEw11, ?_⟩
    rcases Classical.em (fk l k = 1) with hfk | hfk
    · obtain ⟨hg1, hg2⟩ := com_get (l := l) (m := n_l - 1) hfk (by omega)
      refine anyM_take (hw := show Ext w10 w11 from hEw11) hT213 10 2047 (some 73) vT (yld_b (((fol (l.getD k Cel.zero) (l.getD (k + 1) Cel.zero) : Nat) : Int) == ((1 : Nat) : Int)) (cmpEqT (by have h : fol (l.getD k Cel.zero) (l.getD (k + 1) Cel.zero) = 1 := hfk; omega))) (anyM_done (then_code (wpC_true (wpC_seq (wpC_seq (wpC_region (wpF_run 3 [(76, (vI ((com l (n_l - 1)).length))), (75, (.slice a1 ((com l (n_l - 1)).length) ((com l (n_l - 1)).length))), (74, (vI ((com l k).length)))] (wpF_step (op_b (some 77) (decide ((((com l k).length : Nat) : Int) ≥ (((com l (n_l - 1)).length : Nat) : Int))) false (cmpDF (by omega)) ?_)))))))))
      refine wpF_run 3 [(80, (vI ((com l k).length))), (79, (.slice a1 ((com l (n_l - 1)).length) ((com l (n_l - 1)).length))), (78, vF)] ?_
      obtain ⟨b3, o3, rfl⟩ := hFz4_0.addr (by omega)
      refine wpF_step (op_v (some 81) (Instr.indexAt 56 (.slice (pA b3 o3) ((com l (n_l - 1)).length) ((com l (n_l - 1)).length)) (vI ((com l k).length))) (vP b3 (o3 + ((com l k).length) * 1)) (rn_ixs (E := 3) (sz := 1) (by omega)) ?_)
      have hK4 := (((((hFz4_0.ext hEl)).ext hEw10)).ext hEw11)
      refine wpF_step (op_v (some 82) (Instr.loadAt 3 (vP b3 (o3 + ((com l k).length) * 1))) (vI (gt (com l (n_l - 1)) ((com l k).length))) (rn_ld (hK4.celln (by omega))) ?_)
      refine wpF_run 1 [(83, (vI (k + 1)))] (wpF_step (op_b (some 84) (((gt (com l (n_l - 1)) ((com l k).length) : Nat) : Int) != ((k + 1 : Nat) : Int)) false (cmpNeF (by omega)) ?_))
      refine wpF_run 1 [(85, vF)] (wpF_end (then_code (wpC_false (wpC_skip (then_code (wpC_region (wpF_run 1 [(86, (vI ((com l k).length)))] (wpF_step (op_in (some 87) .i64 (IntKind.i64.wrap ((((com l k).length : Nat) : Int) + ((1 : Nat) : Int))) ((com l k).length + 1) (wrapS (by omega) (by omega) (by omega)) ?_)))))))))
      refine wpF_run 1 [(12, (vI ((com l k).length + 1)))] (wpF_end (inBlock_normal (then_code (wpC_region (wpF_run 1 [(61, (vI (k + 1)))] (wpF_step (op_in (some 62) .i64 (IntKind.i64.wrap (((k + 1 : Nat) : Int) + ((1 : Nat) : Int))) (k + 1 + 1) (wrapS (by omega) (by omega) (by omega)) ?_)))))))
      refine wpF_run 1 [(13, (vI (k + 1 + 1)))] (wpF_end (then_normal ?_))
      rw [show (com l k).length + 1 = (com l (k + 1)).length from by rw [com_len_yes hfk]]
      refine endR_mk (k + 1) ?_ ?_
      · exact ⟨by omega, ((hEl.trans hEw10).trans hEw11)⟩
      · first | omega | (dsimp only; omega)
    · refine anyM_take (hw := show Ext w10 w11 from hEw11) hT213 10 2047 (some 73) vF (yld_b (((fol (l.getD k Cel.zero) (l.getD (k + 1) Cel.zero) : Nat) : Int) == ((1 : Nat) : Int)) (cmpEqF (by have h : ¬ fol (l.getD k Cel.zero) (l.getD (k + 1) Cel.zero) = 1 := hfk; omega))) (anyM_done (then_code (wpC_false (wpC_skip (inBlock_normal (then_code (wpC_region (wpF_run 1 [(61, (vI (k + 1)))] (wpF_step (op_in (some 62) .i64 (IntKind.i64.wrap (((k + 1 : Nat) : Int) + ((1 : Nat) : Int))) (k + 1 + 1) (wrapS (by omega) (by omega) (by omega)) ?_))))))))))
      refine wpF_run 1 [(13, (vI (k + 1 + 1)))] (wpF_end (then_normal ?_))
      rw [show (com l k).length = (com l (k + 1)).length from by rw [com_len_no hfk]]
      refine endR_mk (k + 1) ?_ ?_
      · exact ⟨by omega, ((hEl.trans hEw10).trans hEw11)⟩
      · first | omega | (dsimp only; omega)
  · replace hc60 : ¬ (k + 1 < n_l) := by have := of_d_f hc60; omega
    refine wpF_end (then_code (wpC_false (wpC_exit (then_exit (then_exit (inBlock_exit (then_code (wpC_seq (wpC_seq ?_)))))))))
    refine wpC_region (wpF_run 3 [(90, (vI ((com l (n_l - 1)).length))), (89, (.slice a1 ((com l (n_l - 1)).length) ((com l (n_l - 1)).length))), (88, (vI ((com l k).length)))] ?_)
    obtain rfl : k = n_l - 1 := by omega
    refine wpF_step (op_b (some 91) ((((com l (n_l - 1)).length : Nat) : Int) != (((com l (n_l - 1)).length : Nat) : Int)) false (cmpNeF (by omega)) ?_)
    refine wpF_end (then_code (wpC_false (wpC_skip (then_code (wpC_seq (wpC_drawM (Ext w9.drew) 6 [(93, 32, 0), (94, 4951760157141521099596496896, 1), (95, 32, 0), (96, 19807040628566084398385987584, 4), (15, 9903520314283042199192993792, 3), (16, 39614081257132168796771975168, 31)] (fun hT309 => ?_)))))))
    have hEw12 : Ext w9 w9.drew := Ext.drew w9
    generalize w9.drew = w12 at hEw12 ⊢
    have hzw12 := hEw12.size
    refine anyM_take hT309 0 1 (some 92) (vP w.heap.size 0) (yld_val (Instr.indexAt 61 (vP w.heap.size 0) (vI 0)) (fun w' hC => rn_ixa (E := 3) (sz := 1) (m := 2) (by omega))) ?_
    have hK5 := (((((((((((hBw1.ext hEw2)).ext hEw3)).ext hEj)).ext hEw8)).ext hEl)).ext hEw12)
    refine anyM_take hT309 1 3 (some 93) (.int .i64 p) (yld_val (Instr.loadAt 3 (vP w.heap.size 0)) (fun w' hC => rn_ld ((hK5.ext hC).cell rfl))) (anyM_take hT309 2 7 (some 94) (vP w.heap.size 1) (yld_val (Instr.indexAt 61 (vP w.heap.size 0) (vI 1)) (fun w' hC => rn_ixa (E := 3) (sz := 1) (m := 2) (by omega))) (anyM_take hT309 3 15 (some 95) (.int .i64 q) (yld_val (Instr.loadAt 3 (vP w.heap.size 1)) (fun w' hC => rn_ld ((hK5.ext hC).cell rfl))) (anyM_run hT309 [(4, 14, (.int .i64 p)), (5, 15, (.int .i64 q))] 2 63 (anyM_done (then_code (wpC_seq (wpC_region (wpF_run 3 [(99, (.int .i64 q)), (98, (.int .i64 p)), (97, (.slice a_l n_l c_l))] ?_))))))))
    have hK6 := (((((hK2.ext hEw8)).ext hEl)).ext hEw12)
    refine wpF_step (op_call (some 100) (c_BtwBad p q _ hK6 (by omega)) ?_)
    rintro _ w13 ⟨rfl, hEw13⟩
    have hzw13 := hEw13.size
    refine wpF_run 7 [(8, (vI 1)), (17, (vQ 0)), (16, (vQ 0)), (103, (vI 1)), (102, (vQ 0)), (101, (vQ 0)), (96, (.tuple #[(vQ 0), (vQ 0), (vI 1)]))] (wpF_end (then_code (wpC_seq (wpC_seq (wpC_region (wpF_run 1 [(104, (.int .i64 p))] (wpF_step (op_split (some 105) (decide (p < ((0 : Nat) : Int))) (fun hc105 => ?_) (fun hc105 => ?_)))))))))
    · replace hc105 : p < ((0 : Nat) : Int) := by have := of_d_t hc105; omega
      refine wpF_run 11 [(116, vT), (115, undef), (114, undef), (113, undef), (112, undef), (111, vT), (110, vT), (109, undef), (108, undef), (107, undef), (106, vT)] (wpF_end (then_code (wpC_true (wpC_seq (wpC_region (wpF_run 11 [(127, vT), (126, vT), (125, vT), (124, (vQ 0)), (123, vT), (122, vT), (121, vT), (120, (vQ 0)), (119, vT), (118, vT), (117, (vI 1))] ?_))))))
      have hK7 := (((((((((((((((hg0.ext hEw1)).ext hEw2)).ext hEw3)).ext hEj)).ext hEw8)).ext hEl)).ext hEw12)).ext hEw13)
      have hK8 := (((((((((((((((hg1.ext hEw1)).ext hEw2)).ext hEw3)).ext hEj)).ext hEw8)).ext hEl)).ext hEw12)).ext hEw13)
      have hK9 := (((((((((((((((hg2.ext hEw1)).ext hEw2)).ext hEw3)).ext hEj)).ext hEw8)).ext hEl)).ext hEw12)).ext hEw13)
      refine wpF_step (op_call (some 128) (c_lives15 _ hK7 hK8 hK9) ?_)
      rintro _ w14 ⟨rfl, hEw14⟩
      have hzw14 := hEw14.size
      refine wpF_run 2 [(6, vT), (129, vT)] (wpF_end (then_code (wpC_ret (then_ret (body_rets vT ?_)))))
      have hX1 : Ext w w14 := ((((((((hEw1.trans hEw2).trans hEw3).trans hEj).trans hEw8).trans hEl).trans hEw12).trans hEw13).trans hEw14)
      exact ⟨rfl, hX1⟩
    · replace hc105 : ¬ (p < ((0 : Nat) : Int)) := by have := of_d_f hc105; omega
      refine wpF_run 3 [(108, (.int .i64 p)), (107, (.int .i64 q)), (106, vF)] (wpF_step (op_split (some 109) (decide (q < p)) (fun hc109 => ?_) (fun hc109 => ?_)))
      · replace hc109 : q < p := by have := of_d_t hc109; omega
        refine wpF_run 7 [(116, vT), (115, undef), (114, undef), (113, undef), (112, undef), (111, vT), (110, vT)] (wpF_end (then_code (wpC_true (wpC_seq (wpC_region (wpF_run 11 [(127, vT), (126, vT), (125, vT), (124, (vQ 0)), (123, vT), (122, vT), (121, vT), (120, (vQ 0)), (119, vT), (118, vT), (117, (vI 1))] ?_))))))
        have hK10 := (((((((((((((((hg0.ext hEw1)).ext hEw2)).ext hEw3)).ext hEj)).ext hEw8)).ext hEl)).ext hEw12)).ext hEw13)
        have hK11 := (((((((((((((((hg1.ext hEw1)).ext hEw2)).ext hEw3)).ext hEj)).ext hEw8)).ext hEl)).ext hEw12)).ext hEw13)
        have hK12 := (((((((((((((((hg2.ext hEw1)).ext hEw2)).ext hEw3)).ext hEj)).ext hEw8)).ext hEl)).ext hEw12)).ext hEw13)
        refine wpF_step (op_call (some 128) (c_lives15 _ hK10 hK11 hK12) ?_)
        rintro _ w15 ⟨rfl, hEw15⟩
        have hzw15 := hEw15.size
        refine wpF_run 2 [(6, vT), (129, vT)] (wpF_end (then_code (wpC_ret (then_ret (body_rets vT ?_)))))
        have hX2 : Ext w w15 := ((((((((hEw1.trans hEw2).trans hEw3).trans hEj).trans hEw8).trans hEl).trans hEw12).trans hEw13).trans hEw15)
        exact ⟨rfl, hX2⟩
      · replace hc109 : ¬ (q < p) := by have := of_d_f hc109; omega
        refine wpF_run 5 [(114, (vI n_l)), (113, (.slice a_l n_l c_l)), (112, (.int .i64 q)), (111, vF), (110, vF)] (wpF_step (op_b (some 115) (decide (q ≥ ((n_l : Nat) : Int))) true (cmpDT (by omega)) ?_))
        refine wpF_run 1 [(116, vT)] (wpF_end (then_code (wpC_true (wpC_seq (wpC_region (wpF_run 11 [(127, vT), (126, vT), (125, vT), (124, (vQ 0)), (123, vT), (122, vT), (121, vT), (120, (vQ 0)), (119, vT), (118, vT), (117, (vI 1))] ?_))))))
        have hK13 := (((((((((((((((hg0.ext hEw1)).ext hEw2)).ext hEw3)).ext hEj)).ext hEw8)).ext hEl)).ext hEw12)).ext hEw13)
        have hK14 := (((((((((((((((hg1.ext hEw1)).ext hEw2)).ext hEw3)).ext hEj)).ext hEw8)).ext hEl)).ext hEw12)).ext hEw13)
        have hK15 := (((((((((((((((hg2.ext hEw1)).ext hEw2)).ext hEw3)).ext hEj)).ext hEw8)).ext hEl)).ext hEw12)).ext hEw13)
        refine wpF_step (op_call (some 128) (c_lives15 _ hK13 hK14 hK15) ?_)
        rintro _ w16 ⟨rfl, hEw16⟩
        have hzw16 := hEw16.size
        refine wpF_run 2 [(6, vT), (129, vT)] (wpF_end (then_code (wpC_ret (then_ret (body_rets vT ?_)))))
        have hX3 : Ext w w16 := ((((((((hEw1.trans hEw2).trans hEw3).trans hEj).trans hEw8).trans hEl).trans hEw12).trans hEw13).trans hEw16)
        exact ⟨rfl, hX3⟩

theorem c_CF01 (n : Nat) {lo_l hi_l : Nat} {a_l : Option Addr} {n_l c_l : Nat} {l : List Cel} (p : Nat) (q : Nat)  (w : World) (h_l : Ms celC 34 lo_l hi_l w a_l n_l c_l l) (hp0 : n_l ≤ 40) (hp1 : 1 ≤ n) (hp2 : n ≤ 4096) (hp3 : p ≤ q) (hp4 : q < n_l) (hg0 : Gl 0 [vI 45, vI 33] w) (hg1 : Gl 1 (w8C iniA) w) (hg2 : Gl 2 (w64C kA) w) :
    Calls Tryd.prog 7 #[(vI n), (.slice a_l n_l c_l), (vA [(vI p), (vI q)])] w (Ret fun r w' => r = vT ∧ Ext w w') := by
  refine calls_of (n := 185) (σ := [(0, (vI n)), (1, (.slice a_l n_l c_l)), (2, (vA [(vI p), (vI q)]))]) Tryd.func7 rfl ?_
  replace h_l := h_l.now; have hle_l := h_l.le
  have hgl0 := hg0.lt
  have hgl1 := hg1.lt
  have hgl2 := hg2.lt
  have hlen := h_l.len_eq
  have q1 := (l.getD p Cel.zero).hep; have q2 := (l.getD p Cel.zero).hmk; have q3 := (l.getD q Cel.zero).hep; have q4 := (l.getD q Cel.zero).hmk
  refine wpC_seq (wpC_region (wpF_step (op_new (some 5) (Instr.box 61 (vA [(vI p), (vI q)])) (vP w.heap.size 0) ([(vI p), (vI q)]) 61 ?_)))
  intro w1 hBw1 hEw1
  have hzw1 := hEw1.size; have hlw1 := hBw1.lt
  refine wpF_run 1 [(6, vF)] (wpF_end (then_code (wpC_seq (wpC_seq (wpC_region (wpF_run 2 [(19, (vI n_l)), (18, (.slice a_l n_l c_l))] (wpF_step (op_b (some 20) (decide (((n_l : Nat) : Int) > ((40 : Nat) : Int))) false (cmpDF (by omega)) ?_))))))))
  refine wpF_end (then_code (wpC_false (wpC_skip (then_code (wpC_seq (wpC_region (wpF_run 2 [(24, (.slice a_l n_l c_l)), (23, (vI n))] (wpF_step (op_call (some 25) (c_Snd n _ (h_l.ext hEw1) (by omega) (by omega) (hg0.ext hEw1) (hg1.ext hEw1) (hg2.ext hEw1)) ?_)))))))))
  rintro _ w2 ⟨rfl, hEw2⟩
  have hzw2 := hEw2.size
  refine wpF_run 5 [(8, (vI (sndE n l))), (7, (vI (sndA n l))), (27, (vI (sndE n l))), (26, (vI (sndA n l))), (22, (.tuple #[(vI (sndA n l)), (vI (sndE n l))]))] (wpF_end (then_code (wpC_seq (wpC_region (wpF_run 1 [(28, (.slice a_l n_l c_l))] (wpF_step (op_call (some 29) (c_rFault _ (((h_l.ext hEw1)).ext hEw2)) ?_)))))))
  rintro _ w3 ⟨rfl, hEw3⟩
  have hzw3 := hEw3.size
  refine wpF_run 1 [(9, (vI (flt l)))] (wpF_end (then_code (wpC_seq (wpC_region (wpF_run 1 [(10, (vI 0))] (wpF_end (then_code (wpC_join (X := Nat) (fun y => [(10, (vI y))]) [30, 31] (fun y w4 => y = (if flt l = 0 then 0 else 13) ∧ w3 = w4) ?_ ?_))))))))
  · refine wpC_seq (wpC_region (wpF_run 1 [(30, (vI (flt l)))] (wpF_step (op_split (some 31) (decide (((flt l : Nat) : Int) > ((0 : Nat) : Int))) (fun hc31 => ?_) (fun hc31 => ?_)))))
    · replace hc31 : flt l > 0 := by have := of_d_t hc31; omega
      exact wpF_end (then_code (wpC_true (wpC_region (wpF_run 1 [(10, (vI 13))] (wpF_end (then_normal (endJ_mk 13 (⟨by rw [if_neg (by omega)], rfl⟩))))))))
    · replace hc31 : ¬ (flt l > 0) := by have := of_d_f hc31; omega
      exact wpF_end (then_code (wpC_false (wpC_skip (then_normal (endJ_mk 0 (⟨by rw [if_pos (by omega)], rfl⟩))))))
  rintro y dw4 w4 ⟨hy, rfl⟩
  refine wpC_join (X := Nat × Nat) (fun ⟨u, v⟩ => [(9, (vI u)), (10, (vI v))]) [32, 33, 34, 35, 36, 37, 38, 39, 40, 41, 42, 43, 44, 45, 46] (fun ⟨u, v⟩ w5 => u = sndA n l ∧ v = sndE n l ∧ Ext w3 w5) ?_ ?_
  · refine wpC_seq (wpC_region (wpF_run 1 [(32, (vI n))] (wpF_step (op_b (some 33) (decide (((n : Nat) : Int) < ((1 : Nat) : Int))) false (cmpDF (by omega)) ?_))))
    refine wpF_run 2 [(35, (vI n)), (34, vF)] (wpF_step (op_b (some 36) (decide (((n : Nat) : Int) > ((4096 : Nat) : Int))) false (cmpDF (by omega)) ?_))
    refine wpF_run 1 [(37, vF)] (wpF_end (then_code (wpC_false (wpC_seq (wpC_region (wpF_run 2 [(39, (vI n_l)), (38, (.slice a_l n_l c_l))] (wpF_step (op_split (some 40) ((((n_l : Nat) : Int) == ((0 : Nat) : Int))) (fun hc40 => ?_) (fun hc40 => ?_)))))))))
    · replace hc40 : n_l = 0 := by have := of_eq_t hc40; omega
      exact wpF_end (then_code (wpC_true (wpC_region (wpF_run 1 [(10, (vI 16))] (wpF_end (then_normal (endJ_mk (flt l, 16) (⟨by unfold sndA; rw [if_pos (by omega)]; exact flt_none (fun i hi => by omega), by unfold sndE; rw [if_pos (by omega)], (Ext.refl _)⟩))))))))
    · replace hc40 : ¬ (n_l = 0) := by have := of_eq_f hc40; omega
      refine wpF_end (then_code (wpC_false (wpC_seq (wpC_drawM (Ext w3.drew) 6 [(42, 2, 0), (43, 2199023255552, 1), (44, 4398046511104, 2), (45, 1, 0), (46, 17592186044416, 8), (47, 43980465111040, 20)] (fun hT273 => ?_)))))
      have hEw6 : Ext w3 w3.drew := Ext.drew w3
      generalize w3.drew = w6 at hEw6 ⊢
      have hzw6 := hEw6.size
      refine anyM_run hT273 [(0, 41, (.slice a_l n_l c_l))] 1 1 ?_
      obtain ⟨b1, o1, rfl⟩ := h_l.addr (by omega) (by decide)
      refine anyM_take hT273 1 3 (some 42) (vP b1 (o1 + 0 * 34)) (yld_val (Instr.indexAt 51 (.slice (pA b1 o1) n_l c_l) (vI 0)) (fun w' hC => rn_ixs (E := 30) (sz := 34) (by omega))) ?_
      have hK1 := (((((((h_l.ext hEw1)).ext hEw2)).ext hEw3)).ext hEw6)
      refine anyM_take hT273 2 7 (some 43) (vA (celC (l.getD 0 Cel.zero))) (yld_val (Instr.loadAt 30 (vP b1 (o1 + 0 * 34))) (fun w' hC => rn_lda (vs := celC (l.getD 0 Cel.zero)) ((hK1.ext hC).at Cel.zero (by omega)) (by rw [celC_len]; kernel_rfl))) (anyM_run hT273 [(3, 44, (vI n))] 1 15 (anyM_one 4 31 (op_call (some 45) (c_rFresh n _ (by omega) (by omega)) ?_)))
      rintro _ w7 ⟨rfl, hEw7⟩
      have hzw7 := hEw7.size
      refine ⟨.inr hEw7, ?_⟩
      rcases Bool.eq_false_or_eq_true ((cel l 0).eqb (freC n)) with hq46 | hq46
      · exact anyM_take (hw := show Ext w6 w7 from hEw7) hT273 5 63 (some 46) vF (yld_val (bo .neq 30 (.tmp 43) (.tmp 45) (vA (celC (l.getD 0 Cel.zero))) (vA (celC (freC n)))) (fun w' hC => run_neqAgg (r := true) (T := 30) ((run_eq_cel (dd := 9997) (t := 30) (td := 27) (e := 5) (t64 := 28) (l.getD 0 Cel.zero) (freC n)).trans (congrArg (fun b => Result.ok b _) (show ((l.getD 0 Cel.zero).eqb (freC n)) = true from hq46))))) (anyM_done (then_code (wpC_false (wpC_skip (then_normal (endJ_mk (flt l, y) (⟨by unfold sndA; rw [if_neg (by omega), if_neg (by rw [hq46]; decide)], by unfold sndE; rw [if_neg (by omega), if_neg (by rw [hq46]; decide)]; exact hy, (hEw6.trans hEw7)⟩)))))))
      · refine anyM_take (hw := show Ext w6 w7 from hEw7) hT273 5 63 (some 46) vT (yld_val (bo .neq 30 (.tmp 43) (.tmp 45) (vA (celC (l.getD 0 Cel.zero))) (vA (celC (freC n)))) (fun w' hC => run_neqAgg (r := false) (T := 30) ((run_eq_cel (dd := 9997) (t := 30) (td := 27) (e := 5) (t64 := 28) (l.getD 0 Cel.zero) (freC n)).trans (congrArg (fun b => Result.ok b _) (show ((l.getD 0 Cel.zero).eqb (freC n)) = false from hq46))))) (anyM_done (then_code (wpC_true (wpC_seq (wpC_region (wpF_run 1 [(9, (vI 0))] (wpF_end (then_code (wpC_region ?_)))))))))
        exact wpF_run 1 [(10, (vI 1))] (wpF_end (then_normal (endJ_mk (0, 1) (⟨by unfold sndA; rw [if_neg (by omega), if_pos hq46], by unfold sndE; rw [if_neg (by omega), if_pos hq46], (hEw6.trans hEw7)⟩))))
  rintro ⟨u, v⟩ dw5 w5 ⟨hu, hv, hEj⟩
  have hzj := hEj.size
  refine wpC_seq (wpC_seq (wpC_region (wpF_run 2 [(48, (vI u)), (47, (vI (sndA n l)))] (wpF_step (op_b (some 49) (((sndA n l : Nat) : Int) != ((u : Nat) : Int)) false (cmpNeF (by omega)) ?_)))))
  refine wpF_run 3 [(52, (vI v)), (51, (vI (sndE n l))), (50, vF)] (wpF_step (op_b (some 53) (((sndE n l : Nat) : Int) != ((v : Nat) : Int)) false (cmpNeF (by omega)) ?_))
  refine wpF_run 1 [(54, vF)] (wpF_end (then_code (wpC_false (wpC_skip (then_code (wpC_seq (wpC_region (wpF_run 1 [(55, (.slice a_l n_l c_l))] ?_))))))))
  have hK2 := (((((((h_l.ext hEw1)).ext hEw2)).ext hEw3)).ext hEj)
  refine wpF_step (op_call (some 56) (c_Commits _ hK2 (by first | omega | decide)) ?_)
  rintro _ w8 ⟨a1, rfl, hFz4_0, hEw8⟩
  have hzw8 := hEw8.size
  have hlea1 := hFz4_0.le
  refine wpF_run 1 [(11, (.slice a1 ((com l (n_l - 1)).length) ((com l (n_l - 1)).length)))] (wpF_end (then_code (wpC_seq (wpC_region (wpF_run 1 [(12, (vI 0))] (wpF_end (then_code (wpC_seq (wpC_seq ?_)))))))))
  refine wpC_region (wpF_run 1 [(13, (vI 1))] (wpF_end (then_code (wpC_block (wpC_loop (X := Nat) (fun k => [(12, (vI ((com l k).length))), (13, (vI (k + 1)))]) [6, 57, 58, 59, 60, 61, 62, 63, 64, 65, 66, 67, 68, 69, 70, 71, 72, 73, 74, 75, 76, 77, 78, 79, 80, 81, 82, 83, 84, 85, 86, 87] (fun k w9 => k ≤ n_l - 1 ∧ Ext w8 w9) (fun k => n_l - k) 0 (by kernel_rfl) ⟨by omega, Ext.refl _⟩ ?_)))))
  rintro k dw9 w9 ⟨hk, hEl⟩
  have hzl := hEl.size
  have hcl := com_le l k
  refine wpC_seq (wpC_seq (wpC_region (wpF_run 3 [(59, (vI n_l)), (58, (.slice a_l n_l c_l)), (57, (vI (k + 1)))] (wpF_step (op_split (some 60) (decide (((k + 1 : Nat) : Int) < ((n_l : Nat) : Int))) (fun hc60 => ?_) (fun hc60 => ?_))))))
  · replace hc60 : k + 1 < n_l := by have := of_d_t hc60; omega
    refine wpF_end (then_code (wpC_true (wpC_skip (then_code (wpC_seq (wpC_block (wpC_seq (wpC_drawM (Ext w9.drew) 11 [(64, 2, 0), (65, 8192, 0), (66, 18446744073709551616, 2), (67, 46116860184273879040, 5), (68, 73786976294838206464, 8), (69, 2, 0), (70, 8192, 0), (71, 885443715538058477568, 96), (72, 1180591620717411303424, 128), (73, 2508757194024499019776, 272), (74, 4722366482869645213696, 512)] (fun hT367 => ?_)))))))))
    have hEw10 : Ext w9 w9.drew := Ext.drew w9
    generalize w9.drew = w10 at hEw10 ⊢
    have hzw10 := hEw10.size
    refine anyM_run hT367 [(0, 63, (.slice a_l n_l c_l)), (1, 64, (vI (k + 1)))] 2 3 (anyM_take hT367 2 7 (some 65) (vI k) (yld_in .i64 (IntKind.i64.wrap (((k + 1 : Nat) : Int) - ((1 : Nat) : Int))) (wrapS (by omega) (by omega) (by omega))) ?_)
    obtain ⟨b2, o2, rfl⟩ := hK2.addr (by omega) (by decide)
    refine anyM_take hT367 3 15 (some 66) (vP b2 (o2 + k * 34)) (yld_val (Instr.indexAt 51 (.slice (pA b2 o2) n_l c_l) (vI k)) (fun w' hC => rn_ixs (E := 30) (sz := 34) (by omega))) ?_
    have hK3 := (((((hK2.ext hEw8)).ext hEl)).ext hEw10)
    refine anyM_take hT367 4 31 (some 67) (vA (celC (l.getD k Cel.zero))) (yld_val (Instr.loadAt 30 (vP b2 (o2 + k * 34))) (fun w' hC => rn_lda (vs := celC (l.getD k Cel.zero)) ((hK3.ext hC).at Cel.zero (by omega)) (by rw [celC_len]; kernel_rfl))) (anyM_run hT367 [(5, 68, (.slice (pA b2 o2) n_l c_l)), (6, 69, (vI (k + 1)))] 2 127 (anyM_take hT367 7 255 (some 70) (vP b2 (o2 + (k + 1) * 34)) (yld_val (Instr.indexAt 51 (.slice (pA b2 o2) n_l c_l) (vI (k + 1))) (fun w' hC => rn_ixs (E := 30) (sz := 34) (by omega))) (anyM_take hT367 8 511 (some 71) (vA (celC (l.getD (k + 1) Cel.zero))) (yld_val (Instr.loadAt 30 (vP b2 (o2 + (k + 1) * 34))) (fun w' hC => rn_lda (vs := celC (l.getD (k + 1) Cel.zero)) ((hK3.ext hC).at Cel.zero (by omega)) (by rw [celC_len]; kernel_rfl))) (anyM_one 9 1023 (op_call (some 72) (c_rFol (l.getD k Cel.zero) (l.getD (k + 1) Cel.zero) _) ?_)))))
    rintro _ w11 ⟨rfl, hEw11⟩
    have hzw11 := hEw11.size
    refine ⟨.inr hEw11, ?_⟩
    rcases Classical.em (fk l k = 1) with hfk | hfk
    · obtain ⟨hg1, hg2⟩ := com_get (l := l) (m := n_l - 1) hfk (by omega)
      refine anyM_take (hw := show Ext w10 w11 from hEw11) hT367 10 2047 (some 73) vT (yld_b (((fol (l.getD k Cel.zero) (l.getD (k + 1) Cel.zero) : Nat) : Int) == ((1 : Nat) : Int)) (cmpEqT (by have h : fol (l.getD k Cel.zero) (l.getD (k + 1) Cel.zero) = 1 := hfk; omega))) (anyM_done (then_code (wpC_true (wpC_seq (wpC_seq (wpC_region (wpF_run 3 [(76, (vI ((com l (n_l - 1)).length))), (75, (.slice a1 ((com l (n_l - 1)).length) ((com l (n_l - 1)).length))), (74, (vI ((com l k).length)))] (wpF_step (op_b (some 77) (decide ((((com l k).length : Nat) : Int) ≥ (((com l (n_l - 1)).length : Nat) : Int))) false (cmpDF (by omega)) ?_)))))))))
      refine wpF_run 3 [(80, (vI ((com l k).length))), (79, (.slice a1 ((com l (n_l - 1)).length) ((com l (n_l - 1)).length))), (78, vF)] ?_
      obtain ⟨b3, o3, rfl⟩ := hFz4_0.addr (by omega)
      refine wpF_step (op_v (some 81) (Instr.indexAt 56 (.slice (pA b3 o3) ((com l (n_l - 1)).length) ((com l (n_l - 1)).length)) (vI ((com l k).length))) (vP b3 (o3 + ((com l k).length) * 1)) (rn_ixs (E := 3) (sz := 1) (by omega)) ?_)
      have hK4 := (((((hFz4_0.ext hEl)).ext hEw10)).ext hEw11)
      refine wpF_step (op_v (some 82) (Instr.loadAt 3 (vP b3 (o3 + ((com l k).length) * 1))) (vI (gt (com l (n_l - 1)) ((com l k).length))) (rn_ld (hK4.celln (by omega))) ?_)
      refine wpF_run 1 [(83, (vI (k + 1)))] (wpF_step (op_b (some 84) (((gt (com l (n_l - 1)) ((com l k).length) : Nat) : Int) != ((k + 1 : Nat) : Int)) false (cmpNeF (by omega)) ?_))
      refine wpF_run 1 [(85, vF)] (wpF_end (then_code (wpC_false (wpC_skip (then_code (wpC_region (wpF_run 1 [(86, (vI ((com l k).length)))] (wpF_step (op_in (some 87) .i64 (IntKind.i64.wrap ((((com l k).length : Nat) : Int) + ((1 : Nat) : Int))) ((com l k).length + 1) (wrapS (by omega) (by omega) (by omega)) ?_)))))))))
      refine wpF_run 1 [(12, (vI ((com l k).length + 1)))] (wpF_end (inBlock_normal (then_code (wpC_region (wpF_run 1 [(61, (vI (k + 1)))] (wpF_step (op_in (some 62) .i64 (IntKind.i64.wrap (((k + 1 : Nat) : Int) + ((1 : Nat) : Int))) (k + 1 + 1) (wrapS (by omega) (by omega) (by omega)) ?_)))))))
      refine wpF_run 1 [(13, (vI (k + 1 + 1)))] (wpF_end (then_normal ?_))
      rw [show (com l k).length + 1 = (com l (k + 1)).length from by rw [com_len_yes hfk]]
      refine endR_mk (k + 1) ?_ ?_
      · exact ⟨by omega, ((hEl.trans hEw10).trans hEw11)⟩
      · first | omega | (dsimp only; omega)
    · refine anyM_take (hw := show Ext w10 w11 from hEw11) hT367 10 2047 (some 73) vF (yld_b (((fol (l.getD k Cel.zero) (l.getD (k + 1) Cel.zero) : Nat) : Int) == ((1 : Nat) : Int)) (cmpEqF (by have h : ¬ fol (l.getD k Cel.zero) (l.getD (k + 1) Cel.zero) = 1 := hfk; omega))) (anyM_done (then_code (wpC_false (wpC_skip (inBlock_normal (then_code (wpC_region (wpF_run 1 [(61, (vI (k + 1)))] (wpF_step (op_in (some 62) .i64 (IntKind.i64.wrap (((k + 1 : Nat) : Int) + ((1 : Nat) : Int))) (k + 1 + 1) (wrapS (by omega) (by omega) (by omega)) ?_))))))))))
      refine wpF_run 1 [(13, (vI (k + 1 + 1)))] (wpF_end (then_normal ?_))
      rw [show (com l k).length = (com l (k + 1)).length from by rw [com_len_no hfk]]
      refine endR_mk (k + 1) ?_ ?_
      · exact ⟨by omega, ((hEl.trans hEw10).trans hEw11)⟩
      · first | omega | (dsimp only; omega)
  · replace hc60 : ¬ (k + 1 < n_l) := by have := of_d_f hc60; omega
    refine wpF_end (then_code (wpC_false (wpC_exit (then_exit (then_exit (inBlock_exit (then_code (wpC_seq (wpC_seq ?_)))))))))
    refine wpC_region (wpF_run 3 [(90, (vI ((com l (n_l - 1)).length))), (89, (.slice a1 ((com l (n_l - 1)).length) ((com l (n_l - 1)).length))), (88, (vI ((com l k).length)))] ?_)
    obtain rfl : k = n_l - 1 := by omega
    refine wpF_step (op_b (some 91) ((((com l (n_l - 1)).length : Nat) : Int) != (((com l (n_l - 1)).length : Nat) : Int)) false (cmpNeF (by omega)) ?_)
    refine wpF_end (then_code (wpC_false (wpC_skip (then_code (wpC_seq (wpC_drawM (Ext w9.drew) 6 [(93, 32, 0), (94, 4951760157141521099596496896, 1), (95, 32, 0), (96, 19807040628566084398385987584, 4), (15, 9903520314283042199192993792, 3), (16, 39614081257132168796771975168, 31)] (fun hT463 => ?_)))))))
    have hEw12 : Ext w9 w9.drew := Ext.drew w9
    generalize w9.drew = w12 at hEw12 ⊢
    have hzw12 := hEw12.size
    refine anyM_take hT463 0 1 (some 92) (vP w.heap.size 0) (yld_val (Instr.indexAt 61 (vP w.heap.size 0) (vI 0)) (fun w' hC => rn_ixa (E := 3) (sz := 1) (m := 2) (by omega))) ?_
    have hK5 := (((((((((((hBw1.ext hEw2)).ext hEw3)).ext hEj)).ext hEw8)).ext hEl)).ext hEw12)
    refine anyM_take hT463 1 3 (some 93) (vI p) (yld_val (Instr.loadAt 3 (vP w.heap.size 0)) (fun w' hC => rn_ld ((hK5.ext hC).cell rfl))) (anyM_take hT463 2 7 (some 94) (vP w.heap.size 1) (yld_val (Instr.indexAt 61 (vP w.heap.size 0) (vI 1)) (fun w' hC => rn_ixa (E := 3) (sz := 1) (m := 2) (by omega))) (anyM_take hT463 3 15 (some 95) (vI q) (yld_val (Instr.loadAt 3 (vP w.heap.size 1)) (fun w' hC => rn_ld ((hK5.ext hC).cell rfl))) (anyM_run hT463 [(4, 14, (vI p)), (5, 15, (vI q))] 2 63 (anyM_done (then_code (wpC_seq (wpC_region (wpF_run 3 [(99, (vI q)), (98, (vI p)), (97, (.slice a_l n_l c_l))] ?_))))))))
    rcases Nat.eq_zero_or_pos (flt ((l.drop p).take (q + 1 - p))) with hfs | hfs
    · have hK6 := (((((hK2.ext hEw8)).ext hEl)).ext hEw12)
      refine wpF_step (op_call (some 100) (c_BtwY p q _ hK6 (by omega) (by omega) (by assumption)) ?_)
      rintro _ w13 ⟨rfl, hEw13⟩
      have hzw13 := hEw13.size
      refine wpF_run 7 [(8, (vI 0)), (17, (vQ (((cel l q).mark + (2 ^ 64 - (cel l p).mark)) % 2 ^ 64))), (16, (vQ (((cel l q).ep + (2 ^ 64 - (cel l p).ep)) % 2 ^ 64))), (103, (vI 0)), (102, (vQ (((cel l q).mark + (2 ^ 64 - (cel l p).mark)) % 2 ^ 64))), (101, (vQ (((cel l q).ep + (2 ^ 64 - (cel l p).ep)) % 2 ^ 64))), (96, (.tuple #[(vQ (((cel l q).ep + (2 ^ 64 - (cel l p).ep)) % 2 ^ 64)), (vQ (((cel l q).mark + (2 ^ 64 - (cel l p).mark)) % 2 ^ 64)), (vI 0)]))] (wpF_end (then_code (wpC_seq (wpC_seq (wpC_region (wpF_run 1 [(104, (vI p))] (wpF_step (op_b (some 105) (decide (((p : Nat) : Int) < ((0 : Nat) : Int))) false (cmpDF (by omega)) ?_))))))))
      refine wpF_run 3 [(108, (vI p)), (107, (vI q)), (106, vF)] (wpF_step (op_b (some 109) (decide (((q : Nat) : Int) < ((p : Nat) : Int))) false (cmpDF (by omega)) ?_))
      refine wpF_run 5 [(114, (vI n_l)), (113, (.slice a_l n_l c_l)), (112, (vI q)), (111, vF), (110, vF)] (wpF_step (op_b (some 115) (decide (((q : Nat) : Int) ≥ ((n_l : Nat) : Int))) false (cmpDF (by omega)) ?_))
      refine wpF_run 1 [(116, vF)] (wpF_end (then_code (wpC_false (wpC_skip (then_code (wpC_seq (wpC_seq (wpC_region (wpF_run 3 [(132, (vI q)), (131, (vI p)), (130, (.slice a_l n_l c_l))] ?_)))))))))
      refine wpF_step (op_in (some 133) .i64 (IntKind.i64.wrap (((q : Nat) : Int) + ((1 : Nat) : Int))) (q + 1) (wrapS (by omega) (by omega) (by omega)) ?_)
      obtain ⟨a2, hR1, hS1⟩ := (hK6.ext hEw13).slice Tryd.prog 51 30 p (q + 1) c_l (some (vI p)) (some (vI (q + 1))) none
      refine wpF_step (op_v (some 134) (Instr.sliceAt 51 (.slice a_l n_l c_l) (some (vI p)) (some (vI (q + 1))) none) (.slice a2 (q + 1 - p) (c_l - p)) (hR1 _) ?_)
      refine wpF_step (op_call (some 135) (c_rFault _ hS1) ?_)
      rintro _ w14 ⟨rfl, hEw14⟩
      have hzw14 := hEw14.size
      refine wpF_step (op_b (some 136) (decide (((flt ((l.drop p).take (q + 1 - p)) : Nat) : Int) > ((0 : Nat) : Int))) false (cmpDF (by omega)) ?_)
      refine wpF_end (then_code (wpC_false (wpC_skip (then_code (wpC_seq ?_)))))
      refine wpC_drawM (Ext w14.drew) 36 [(151, 256, 0), (152, 1427247692705959881058285969449495136382746624, 1), (153, 2854495385411919762116571938898990272765493248, 2), (154, 5708990770823839524233143877797980545531052032, 4), (155, 5708990770823839524233143877797980545530986498, 4), (156, 5708990770823839524233143877797980545531019264, 4), (157, 74216880020709913815030870411373747091902824448, 52), (158, 97052843104005271911963445922565669274026770432, 68), (159, 188396695437186704299693747967333358002522554368, 132), (160, 5708990770823839524233143877797980545530986498, 4), (161, 5708990770823839524233143877797980545531002880, 4), (162, 2197961446767178216829760392952222510029429800960, 1540), (163, 2928712265432629675931602809310364019857396072448, 2052), (164, 5851715540094435512338972474742930059169261158400, 4100), (165, 12063097498750772914704633013787132892706974466048, 8452), (166, 23401153169606918209831656755093922256131513647104, 16396), (167, 46773761385359717222042147790798854609535372361728, 32772), (168, 93536104789177786765035829293842113257979682750464, 65540), (169, 187072209578355573530071658587684226515959365632000, 131072), (170, 187072209578355573530071658587684226515959365500930, 131072), (171, 187072209578355573530071658587684226515959365533696, 131072), (172, 2431938724518622455890931561639894944707471751512064, 1703936), (173, 3180227562832044750011218195990631850771309213515776, 2228224), (174, 6173382916085733926492364733393579475026659061530624, 4325376), (175, 187072209578355573530071658587684226515959365500930, 131072), (176, 187072209578355573530071658587684226515959365517312, 131072), (177, 72022800687666895809077588556258427208644355717857280, 50462720), (178, 95968043513696409220926760855482008202687154501976064, 67239936), (179, 191749014817814462868323450052376332178858349638451200, 134348800), (180, 395283578839065326869041414595776770628222139303460864, 276955136), (181, 766808987061679495899763728550917644488917439188303872, 537264128), (182, 1532682613075467213931877098808896867845255081549103104, 1073872896), (183, 3064991081731777716716694054300618367237478244367204352, 2147614720), (184, 6129982163463555433433388108601236734474956488734408704, 4294967296), (185, 18389946490390666300300164325803710203424869466203226112, 12884901888), (7, 24519928653854221733733552434404946937899825954937634816, 34359738367)] (fun hT518 => ?_)
      have hEw15 : Ext w14 w14.drew := Ext.drew w14
      generalize w14.drew = w15 at hEw15 ⊢
      have hzw15 := hEw15.size
      refine anyM_run hT518 [(0, 150, (vI 0)), (1, 151, vT), (2, 152, vT), (3, 153, (vQ (((cel l q).ep + (2 ^ 64 - (cel l p).ep)) % 2 ^ 64))), (4, 154, (.slice a_l n_l c_l)), (5, 155, (vI q))] 6 63 ?_
      obtain ⟨b4, o4, rfl⟩ := hK6.addr (by omega) (by decide)
      refine anyM_take hT518 6 127 (some 156) (vP b4 (o4 + q * 34)) (yld_val (Instr.indexAt 51 (.slice (pA b4 o4) n_l c_l) (vI q)) (fun w' hC => rn_ixs (E := 30) (sz := 34) (by omega))) (anyM_run hT518 [(7, 157, (vP b4 (o4 + q * 34 + 32)))] 1 255 ?_)
      have hK7 := (((((hK6.ext hEw13)).ext hEw14)).ext hEw15)
      refine anyM_take hT518 8 511 (some 158) (vQ ((l.getD q Cel.zero).ep)) (yld_val (Instr.loadAt 28 (vP b4 (o4 + q * 34 + 32))) (fun w' hC => rn_ld ((hK7.ext hC).cell (j := 32) Cel.zero (by omega) (cel_ep _)))) (anyM_run hT518 [(9, 159, (.slice (pA b4 o4) n_l c_l)), (10, 160, (vI p))] 2 2047 (anyM_take hT518 11 4095 (some 161) (vP b4 (o4 + p * 34)) (yld_val (Instr.indexAt 51 (.slice (pA b4 o4) n_l c_l) (vI p)) (fun w' hC => rn_ixs (E := 30) (sz := 34) (by omega))) (anyM_run hT518 [(12, 162, (vP b4 (o4 + p * 34 + 32)))] 1 8191 (anyM_take hT518 13 16383 (some 163) (vQ ((l.getD p Cel.zero).ep)) (yld_val (Instr.loadAt 28 (vP b4 (o4 + p * 34 + 32))) (fun w' hC => rn_ld ((hK7.ext hC).cell (j := 32) Cel.zero (by omega) (cel_ep _)))) (anyM_take hT518 14 32767 (some 164) (vQ (((l.getD q Cel.zero).ep + (2 ^ 64 - ((l.getD p Cel.zero).ep))) % 2 ^ 64)) (yld_in .u64 (IntKind.u64.wrap ((((l.getD q Cel.zero).ep : Nat) : Int) - (((l.getD p Cel.zero).ep : Nat) : Int))) (wrapUsub (k := .u64) rfl (by show _ ≤ 2 ^ 64; omega))) (anyM_take hT518 15 65535 (some 165) vT (yld_b (((((cel l q).ep + (2 ^ 64 - (cel l p).ep)) % 2 ^ 64 : Nat) : Int) == ((((l.getD q Cel.zero).ep + (2 ^ 64 - ((l.getD p Cel.zero).ep))) % 2 ^ 64 : Nat) : Int)) (cmpEqT rfl)) (anyM_run hT518 [(16, 166, vT), (17, 167, vT), (18, 168, (vQ (((cel l q).mark + (2 ^ 64 - (cel l p).mark)) % 2 ^ 64))), (19, 169, (.slice (pA b4 o4) n_l c_l)), (20, 170, (vI q))] 5 2097151 ?_)))))))
      refine anyM_take hT518 21 4194303 (some 171) (vP b4 (o4 + q * 34)) (yld_val (Instr.indexAt 51 (.slice (pA b4 o4) n_l c_l) (vI q)) (fun w' hC => rn_ixs (E := 30) (sz := 34) (by omega))) (anyM_run hT518 [(22, 172, (vP b4 (o4 + q * 34 + 33)))] 1 8388607 (anyM_take hT518 23 16777215 (some 173) (vQ ((l.getD q Cel.zero).mark)) (yld_val (Instr.loadAt 28 (vP b4 (o4 + q * 34 + 33))) (fun w' hC => rn_ld ((hK7.ext hC).cell (j := 33) Cel.zero (by omega) (cel_mk _)))) (anyM_run hT518 [(24, 174, (.slice (pA b4 o4) n_l c_l)), (25, 175, (vI p))] 2 67108863 (anyM_take hT518 26 134217727 (some 176) (vP b4 (o4 + p * 34)) (yld_val (Instr.indexAt 51 (.slice (pA b4 o4) n_l c_l) (vI p)) (fun w' hC => rn_ixs (E := 30) (sz := 34) (by omega))) (anyM_run hT518 [(27, 177, (vP b4 (o4 + p * 34 + 33)))] 1 268435455 (anyM_take hT518 28 536870911 (some 178) (vQ ((l.getD p Cel.zero).mark)) (yld_val (Instr.loadAt 28 (vP b4 (o4 + p * 34 + 33))) (fun w' hC => rn_ld ((hK7.ext hC).cell (j := 33) Cel.zero (by omega) (cel_mk _)))) (anyM_take hT518 29 1073741823 (some 179) (vQ (((l.getD q Cel.zero).mark + (2 ^ 64 - ((l.getD p Cel.zero).mark))) % 2 ^ 64)) (yld_in .u64 (IntKind.u64.wrap ((((l.getD q Cel.zero).mark : Nat) : Int) - (((l.getD p Cel.zero).mark : Nat) : Int))) (wrapUsub (k := .u64) rfl (by show _ ≤ 2 ^ 64; omega))) (anyM_take hT518 30 2147483647 (some 180) vT (yld_b (((((cel l q).mark + (2 ^ 64 - (cel l p).mark)) % 2 ^ 64 : Nat) : Int) == ((((l.getD q Cel.zero).mark + (2 ^ 64 - ((l.getD p Cel.zero).mark))) % 2 ^ 64 : Nat) : Int)) (cmpEqT rfl)) ?_))))))))
      refine anyM_run hT518 [(31, 181, vT), (32, 182, vT)] 2 8589934591 ?_
      have hK8 := (((((((((((((((((((hg0.ext hEw1)).ext hEw2)).ext hEw3)).ext hEj)).ext hEw8)).ext hEl)).ext hEw12)).ext hEw13)).ext hEw14)).ext hEw15)
      have hK9 := (((((((((((((((((((hg1.ext hEw1)).ext hEw2)).ext hEw3)).ext hEj)).ext hEw8)).ext hEl)).ext hEw12)).ext hEw13)).ext hEw14)).ext hEw15)
      have hK10 := (((((((((((((((((((hg2.ext hEw1)).ext hEw2)).ext hEw3)).ext hEj)).ext hEw8)).ext hEl)).ext hEw12)).ext hEw13)).ext hEw14)).ext hEw15)
      refine anyM_one 33 17179869183 (op_call (some 183) (c_lives15 _ hK8 hK9 hK10) ?_)
      rintro _ w16 ⟨rfl, hEw16⟩
      have hzw16 := hEw16.size
      refine ⟨.inr hEw16, ?_⟩
      refine anyM_run (hw := show Ext w15 w16 from hEw16) hT518 [(34, 184, vT), (35, 6, vT)] 2 68719476735 (anyM_done (then_code (wpC_ret (body_rets vT ?_))))
      have hX1 : Ext w w16 := ((((((((((hEw1.trans hEw2).trans hEw3).trans hEj).trans hEw8).trans hEl).trans hEw12).trans hEw13).trans hEw14).trans hEw15).trans hEw16)
      exact ⟨rfl, hX1⟩
    · have hfs2 : ¬ flt ((l.drop p).take (q + 1 - p)) = 0 := by omega
      have hK11 := (((((hK2.ext hEw8)).ext hEl)).ext hEw12)
      refine wpF_step (op_call (some 100) (c_BtwN p q _ hK11 (by omega) (by omega) (by assumption)) ?_)
      rintro _ w17 ⟨rfl, hEw17⟩
      have hzw17 := hEw17.size
      refine wpF_run 7 [(8, (vI 13)), (17, (vQ 0)), (16, (vQ 0)), (103, (vI 13)), (102, (vQ 0)), (101, (vQ 0)), (96, (.tuple #[(vQ 0), (vQ 0), (vI 13)]))] (wpF_end (then_code (wpC_seq (wpC_seq (wpC_region (wpF_run 1 [(104, (vI p))] (wpF_step (op_b (some 105) (decide (((p : Nat) : Int) < ((0 : Nat) : Int))) false (cmpDF (by omega)) ?_))))))))
      refine wpF_run 3 [(108, (vI p)), (107, (vI q)), (106, vF)] (wpF_step (op_b (some 109) (decide (((q : Nat) : Int) < ((p : Nat) : Int))) false (cmpDF (by omega)) ?_))
      refine wpF_run 5 [(114, (vI n_l)), (113, (.slice a_l n_l c_l)), (112, (vI q)), (111, vF), (110, vF)] (wpF_step (op_b (some 115) (decide (((q : Nat) : Int) ≥ ((n_l : Nat) : Int))) false (cmpDF (by omega)) ?_))
      refine wpF_run 1 [(116, vF)] (wpF_end (then_code (wpC_false (wpC_skip (then_code (wpC_seq (wpC_seq (wpC_region (wpF_run 3 [(132, (vI q)), (131, (vI p)), (130, (.slice a_l n_l c_l))] ?_)))))))))
      refine wpF_step (op_in (some 133) .i64 (IntKind.i64.wrap (((q : Nat) : Int) + ((1 : Nat) : Int))) (q + 1) (wrapS (by omega) (by omega) (by omega)) ?_)
      obtain ⟨a3, hR2, hS2⟩ := (hK11.ext hEw17).slice Tryd.prog 51 30 p (q + 1) c_l (some (vI p)) (some (vI (q + 1))) none
      refine wpF_step (op_v (some 134) (Instr.sliceAt 51 (.slice a_l n_l c_l) (some (vI p)) (some (vI (q + 1))) none) (.slice a3 (q + 1 - p) (c_l - p)) (hR2 _) ?_)
      refine wpF_step (op_call (some 135) (c_rFault _ hS2) ?_)
      rintro _ w18 ⟨rfl, hEw18⟩
      have hzw18 := hEw18.size
      refine wpF_step (op_b (some 136) (decide (((flt ((l.drop p).take (q + 1 - p)) : Nat) : Int) > ((0 : Nat) : Int))) true (cmpDT (by omega)) ?_)
      refine wpF_end (then_code (wpC_true (wpC_seq (wpC_region (wpF_run 11 [(147, vT), (146, vT), (145, vT), (144, (vQ 0)), (143, vT), (142, vT), (141, vT), (140, (vQ 0)), (139, vT), (138, vT), (137, (vI 13))] ?_)))))
      have hK12 := (((((((((((((((((hg0.ext hEw1)).ext hEw2)).ext hEw3)).ext hEj)).ext hEw8)).ext hEl)).ext hEw12)).ext hEw17)).ext hEw18)
      have hK13 := (((((((((((((((((hg1.ext hEw1)).ext hEw2)).ext hEw3)).ext hEj)).ext hEw8)).ext hEl)).ext hEw12)).ext hEw17)).ext hEw18)
      have hK14 := (((((((((((((((((hg2.ext hEw1)).ext hEw2)).ext hEw3)).ext hEj)).ext hEw8)).ext hEl)).ext hEw12)).ext hEw17)).ext hEw18)
      refine wpF_step (op_call (some 148) (c_lives15 _ hK12 hK13 hK14) ?_)
      rintro _ w19 ⟨rfl, hEw19⟩
      have hzw19 := hEw19.size
      refine wpF_run 2 [(6, vT), (149, vT)] (wpF_end (then_code (wpC_ret (then_ret (body_rets vT ?_)))))
      have hX2 : Ext w w19 := (((((((((hEw1.trans hEw2).trans hEw3).trans hEj).trans hEw8).trans hEl).trans hEw12).trans hEw17).trans hEw18).trans hEw19)
      exact ⟨rfl, hX2⟩

theorem c_CF10 (n : Int) {lo_l hi_l : Nat} {a_l : Option Addr} {n_l c_l : Nat} {l : List Cel} (p : Int) (q : Int)  (w : World) (h_l : Ms celC 34 lo_l hi_l w a_l n_l c_l l) (hp0 : n_l ≤ 40) (hp1 : ¬ (1 ≤ n ∧ n ≤ 4096)) (hp2 : ¬ (0 ≤ p ∧ p ≤ q ∧ q < (n_l : Int))) (hg0 : Gl 0 [vI 45, vI 33] w) (hg1 : Gl 1 (w8C iniA) w) (hg2 : Gl 2 (w64C kA) w) :
    Calls Tryd.prog 7 #[(.int .i64 n), (.slice a_l n_l c_l), (vA [(.int .i64 p), (.int .i64 q)])] w (Ret fun r w' => r = vT ∧ Ext w w') := by
  refine calls_of (n := 185) (σ := [(0, (.int .i64 n)), (1, (.slice a_l n_l c_l)), (2, (vA [(.int .i64 p), (.int .i64 q)]))]) Tryd.func7 rfl ?_
  replace h_l := h_l.now; have hle_l := h_l.le
  have hgl0 := hg0.lt
  have hgl1 := hg1.lt
  have hgl2 := hg2.lt
  have hlen := h_l.len_eq
  refine wpC_seq (wpC_region (wpF_step (op_new (some 5) (Instr.box 61 (vA [(.int .i64 p), (.int .i64 q)])) (vP w.heap.size 0) ([(.int .i64 p), (.int .i64 q)]) 61 ?_)))
  intro w1 hBw1 hEw1
  have hzw1 := hEw1.size; have hlw1 := hBw1.lt
  refine wpF_run 1 [(6, vF)] (wpF_end (then_code (wpC_seq (wpC_seq (wpC_region (wpF_run 2 [(19, (vI n_l)), (18, (.slice a_l n_l c_l))] (wpF_step (op_b (some 20) (decide (((n_l : Nat) : Int) > ((40 : Nat) : Int))) false (cmpDF (by omega)) ?_))))))))
  refine wpF_end (then_code (wpC_false (wpC_skip (then_code (wpC_seq (wpC_region (wpF_run 2 [(24, (.slice a_l n_l c_l)), (23, (.int .i64 n))] (wpF_step (op_call (some 25) (c_SndArg n _ (h_l.ext hEw1) (by omega)) ?_)))))))))
  rintro _ w2 ⟨rfl, hEw2⟩
  have hzw2 := hEw2.size
  refine wpF_run 5 [(8, (vI 1)), (7, (vI 0)), (27, (vI 1)), (26, (vI 0)), (22, (.tuple #[(vI 0), (vI 1)]))] (wpF_end (then_code (wpC_seq (wpC_region (wpF_run 1 [(28, (.slice a_l n_l c_l))] (wpF_step (op_call (some 29) (c_rFault _ (((h_l.ext hEw1)).ext hEw2)) ?_)))))))
  rintro _ w3 ⟨rfl, hEw3⟩
  have hzw3 := hEw3.size
  refine wpF_run 1 [(9, (vI (flt l)))] (wpF_end (then_code (wpC_seq (wpC_region (wpF_run 1 [(10, (vI 0))] (wpF_end (then_code (wpC_join (X := Nat) (fun y => [(10, (vI y))]) [30, 31] (fun y w4 => y = (if flt l = 0 then 0 else 13) ∧ w3 = w4) ?_ ?_))))))))
  · refine wpC_seq (wpC_region (wpF_run 1 [(30, (vI (flt l)))] (wpF_step (op_split (some 31) (decide (((flt l : Nat) : Int) > ((0 : Nat) : Int))) (fun hc31 => ?_) (fun hc31 => ?_)))))
    · replace hc31 : flt l > 0 := by have := of_d_t hc31; omega
      exact wpF_end (then_code (wpC_true (wpC_region (wpF_run 1 [(10, (vI 13))] (wpF_end (then_normal (endJ_mk 13 (⟨by rw [if_neg (by omega)], rfl⟩))))))))
    · replace hc31 : ¬ (flt l > 0) := by have := of_d_f hc31; omega
      exact wpF_end (then_code (wpC_false (wpC_skip (then_normal (endJ_mk 0 (⟨by rw [if_pos (by omega)], rfl⟩))))))
  rintro y dw4 w4 ⟨hy, rfl⟩
  refine wpC_join (X := Nat × Nat) (fun ⟨u, v⟩ => [(9, (vI u)), (10, (vI v))]) [32, 33, 34, 35, 36, 37, 38, 39, 40, 41, 42, 43, 44, 45, 46] (fun ⟨u, v⟩ w5 => u = 0 ∧ v = 1 ∧ Ext w3 w5) ?_ ?_
  · refine wpC_seq (wpC_region (wpF_run 1 [(32, (.int .i64 n))] (wpF_step (op_split (some 33) (decide (n < ((1 : Nat) : Int))) (fun hc33 => ?_) (fun hc33 => ?_)))))
    · replace hc33 : n < ((1 : Nat) : Int) := by have := of_d_t hc33; omega
      refine wpF_run 4 [(37, vT), (36, undef), (35, undef), (34, vT)] (wpF_end (then_code (wpC_true (wpC_seq (wpC_region (wpF_run 1 [(9, (vI 0))] (wpF_end (then_code (wpC_region ?_)))))))))
      exact wpF_run 1 [(10, (vI 1))] (wpF_end (then_normal (endJ_mk (0, 1) (⟨by omega, by omega, (Ext.refl _)⟩))))
    · replace hc33 : ¬ (n < ((1 : Nat) : Int)) := by have := of_d_f hc33; omega
      refine wpF_run 2 [(35, (.int .i64 n)), (34, vF)] (wpF_step (op_b (some 36) (decide (n > ((4096 : Nat) : Int))) true (cmpDT (by omega)) ?_))
      refine wpF_run 1 [(37, vT)] (wpF_end (then_code (wpC_true (wpC_seq (wpC_region (wpF_run 1 [(9, (vI 0))] (wpF_end (then_code (wpC_region ?_)))))))))
      exact wpF_run 1 [(10, (vI 1))] (wpF_end (then_normal (endJ_mk (0, 1) (⟨by omega, by omega, (Ext.refl _)⟩))))
  rintro ⟨u, v⟩ dw5 w5 ⟨hu, hv, hEj⟩
  have hzj := hEj.size
  refine wpC_seq (wpC_seq (wpC_region (wpF_run 2 [(48, (vI u)), (47, (vI 0))] (wpF_step (op_b (some 49) (((0 : Nat) : Int) != ((u : Nat) : Int)) false (cmpNeF (by omega)) ?_)))))
  refine wpF_run 3 [(52, (vI v)), (51, (vI 1)), (50, vF)] (wpF_step (op_b (some 53) (((1 : Nat) : Int) != ((v : Nat) : Int)) false (cmpNeF (by omega)) ?_))
  refine wpF_run 1 [(54, vF)] (wpF_end (then_code (wpC_false (wpC_skip (then_code (wpC_seq (wpC_region (wpF_run 1 [(55, (.slice a_l n_l c_l))] ?_))))))))
  have hK1 := (((((((h_l.ext hEw1)).ext hEw2)).ext hEw3)).ext hEj)
  refine wpF_step (op_call (some 56) (c_Commits _ hK1 (by first | omega | decide)) ?_)
  rintro _ w6 ⟨a1, rfl, hFz3_0, hEw6⟩
  have hzw6 := hEw6.size
  have hlea1 := hFz3_0.le
  refine wpF_run 1 [(11, (.slice a1 ((com l (n_l - 1)).length) ((com l (n_l - 1)).length)))] (wpF_end (then_code (wpC_seq (wpC_region (wpF_run 1 [(12, (vI 0))] (wpF_end (then_code (wpC_seq (wpC_seq ?_)))))))))
  refine wpC_region (wpF_run 1 [(13, (vI 1))] (wpF_end (then_code (wpC_block (wpC_loop (X := Nat) (fun k => [(12, (vI ((com l k).length))), (13, (vI (k + 1)))]) [6, 57, 58, 59, 60, 61, 62, 63, 64, 65, 66, 67, 68, 69, 70, 71, 72, 73, 74, 75, 76, 77, 78, 79, 80, 81, 82, 83, 84, 85, 86, 87] (fun k w7 => k ≤ n_l - 1 ∧ Ext w6 w7) (fun k => n_l - k) 0 (by kernel_rfl) ⟨by omega, Ext.refl _⟩ ?_)))))
  rintro k dw7 w7 ⟨hk, hEl⟩
  have hzl := hEl.size
  have hcl := com_le l k
  refine wpC_seq (wpC_seq (wpC_region (wpF_run 3 [(59, (vI n_l)), (58, (.slice a_l n_l c_l)), (57, (vI (k + 1)))] (wpF_step (op_split (some 60) (decide (((k + 1 : Nat) : Int) < ((n_l : Nat) : Int))) (fun hc60 => ?_) (fun hc60 => ?_))))))
  · replace hc60 : k + 1 < n_l := by have := of_d_t hc60; omega
    refine wpF_end (then_code (wpC_true (wpC_skip (then_code (wpC_seq (wpC_block (wpC_seq (wpC_drawM (Ext w7.drew) 11 [(64, 2, 0), (65, 8192, 0), (66, 18446744073709551616, 2), (67, 46116860184273879040, 5), (68, 73786976294838206464, 8), (69, 2, 0), (70, 8192, 0), (71, 885443715538058477568, 96), (72, 1180591620717411303424, 128), (73, 2508757194024499019776, 272), (74, 4722366482869645213696, 512)] (fun hT514 => ?_)))))))))
    have hEw8 : Ext w7 w7.drew := Ext.drew w7
    generalize w7.drew = w8 at hEw8 ⊢
    have hzw8 := hEw8.size
    refine anyM_run hT514 [(0, 63, (.slice a_l n_l c_l)), (1, 64, (vI (k + 1)))] 2 3 (anyM_take hT514 2 7 (some 65) (vI k) (yld_in .i64 (IntKind.i64.wrap (((k + 1 : Nat) : Int) - ((1 : Nat) : Int))) (wrapS (by omega) (by omega) (by omega))) ?_)
    obtain ⟨b1, o1, rfl⟩ := hK1.addr (by omega) (by decide)
    refine anyM_take hT514 3 15 (some 66) (vP b1 (o1 + k * 34)) (yld_val (Instr.indexAt 51 (.slice (pA b1 o1) n_l c_l) (vI k)) (fun w' hC => rn_ixs (E := 30) (sz := 34) (by omega))) ?_
    have hK2 := (((((hK1.ext hEw6)).ext hEl)).ext hEw8)
    refine anyM_take hT514 4 31 (some 67) (vA (celC (l.getD k Cel.zero))) (yld_val (Instr.loadAt 30 (vP b1 (o1 + k * 34))) (fun w' hC => rn_lda (vs := celC (l.getD k Cel.zero)) ((hK2.ext hC).at Cel.zero (by omega)) (by rw [celC_len]; kernel_rfl))) (anyM_run hT514 [(5, 68, (.slice (pA b1 o1) n_l c_l)), (6, 69, (vI (k + 1)))] 2 127 (anyM_take hT514 7 255 (some 70) (vP b1 (o1 + (k + 1) * 34)) (yld_val (Instr.indexAt 51 (.slice (pA b1 o1) n_l c_l) (vI (k + 1))) (fun w' hC => rn_ixs (E := 30) (sz := 34) (by omega))) (anyM_take hT514 8 511 (some 71) (vA (celC (l.getD (k + 1) Cel.zero))) (yld_val (Instr.loadAt 30 (vP b1 (o1 + (k + 1) * 34))) (fun w' hC => rn_lda (vs := celC (l.getD (k + 1) Cel.zero)) ((hK2.ext hC).at Cel.zero (by omega)) (by rw [celC_len]; kernel_rfl))) (anyM_one 9 1023 (op_call (some 72) (c_rFol (l.getD k Cel.zero) (l.getD (k + 1) Cel.zero) _) ?_)))))
    rintro _ w9 ⟨rfl, hEw9⟩
    have hzw9 := hEw9.size
    refine ⟨.inr hEw9, ?_⟩
    rcases Classical.em (fk l k = 1) with hfk | hfk
    · obtain ⟨hg1, hg2⟩ := com_get (l := l) (m := n_l - 1) hfk (by omega)
      refine anyM_take (hw := show Ext w8 w9 from hEw9) hT514 10 2047 (some 73) vT (yld_b (((fol (l.getD k Cel.zero) (l.getD (k + 1) Cel.zero) : Nat) : Int) == ((1 : Nat) : Int)) (cmpEqT (by have h : fol (l.getD k Cel.zero) (l.getD (k + 1) Cel.zero) = 1 := hfk; omega))) (anyM_done (then_code (wpC_true (wpC_seq (wpC_seq (wpC_region (wpF_run 3 [(76, (vI ((com l (n_l - 1)).length))), (75, (.slice a1 ((com l (n_l - 1)).length) ((com l (n_l - 1)).length))), (74, (vI ((com l k).length)))] (wpF_step (op_b (some 77) (decide ((((com l k).length : Nat) : Int) ≥ (((com l (n_l - 1)).length : Nat) : Int))) false (cmpDF (by omega)) ?_)))))))))
      refine wpF_run 3 [(80, (vI ((com l k).length))), (79, (.slice a1 ((com l (n_l - 1)).length) ((com l (n_l - 1)).length))), (78, vF)] ?_
      obtain ⟨b2, o2, rfl⟩ := hFz3_0.addr (by omega)
      refine wpF_step (op_v (some 81) (Instr.indexAt 56 (.slice (pA b2 o2) ((com l (n_l - 1)).length) ((com l (n_l - 1)).length)) (vI ((com l k).length))) (vP b2 (o2 + ((com l k).length) * 1)) (rn_ixs (E := 3) (sz := 1) (by omega)) ?_)
      have hK3 := (((((hFz3_0.ext hEl)).ext hEw8)).ext hEw9)
      refine wpF_step (op_v (some 82) (Instr.loadAt 3 (vP b2 (o2 + ((com l k).length) * 1))) (vI (gt (com l (n_l - 1)) ((com l k).length))) (rn_ld (hK3.celln (by omega))) ?_)
      refine wpF_run 1 [(83, (vI (k + 1)))] (wpF_step (op_b (some 84) (((gt (com l (n_l - 1)) ((com l k).length) : Nat) : Int) != ((k + 1 : Nat) : Int)) false (cmpNeF (by omega)) ?_))
      refine wpF_run 1 [(85, vF)] (wpF_end (then_code (wpC_false (wpC_skip (then_code (wpC_region (wpF_run 1 [(86, (vI ((com l k).length)))] (wpF_step (op_in (some 87) .i64 (IntKind.i64.wrap ((((com l k).length : Nat) : Int) + ((1 : Nat) : Int))) ((com l k).length + 1) (wrapS (by omega) (by omega) (by omega)) ?_)))))))))
      refine wpF_run 1 [(12, (vI ((com l k).length + 1)))] (wpF_end (inBlock_normal (then_code (wpC_region (wpF_run 1 [(61, (vI (k + 1)))] (wpF_step (op_in (some 62) .i64 (IntKind.i64.wrap (((k + 1 : Nat) : Int) + ((1 : Nat) : Int))) (k + 1 + 1) (wrapS (by omega) (by omega) (by omega)) ?_)))))))
      refine wpF_run 1 [(13, (vI (k + 1 + 1)))] (wpF_end (then_normal ?_))
      rw [show (com l k).length + 1 = (com l (k + 1)).length from by rw [com_len_yes hfk]]
      refine endR_mk (k + 1) ?_ ?_
      · exact ⟨by omega, ((hEl.trans hEw8).trans hEw9)⟩
      · first | omega | (dsimp only; omega)
    · refine anyM_take (hw := show Ext w8 w9 from hEw9) hT514 10 2047 (some 73) vF (yld_b (((fol (l.getD k Cel.zero) (l.getD (k + 1) Cel.zero) : Nat) : Int) == ((1 : Nat) : Int)) (cmpEqF (by have h : ¬ fol (l.getD k Cel.zero) (l.getD (k + 1) Cel.zero) = 1 := hfk; omega))) (anyM_done (then_code (wpC_false (wpC_skip (inBlock_normal (then_code (wpC_region (wpF_run 1 [(61, (vI (k + 1)))] (wpF_step (op_in (some 62) .i64 (IntKind.i64.wrap (((k + 1 : Nat) : Int) + ((1 : Nat) : Int))) (k + 1 + 1) (wrapS (by omega) (by omega) (by omega)) ?_))))))))))
      refine wpF_run 1 [(13, (vI (k + 1 + 1)))] (wpF_end (then_normal ?_))
      rw [show (com l k).length = (com l (k + 1)).length from by rw [com_len_no hfk]]
      refine endR_mk (k + 1) ?_ ?_
      · exact ⟨by omega, ((hEl.trans hEw8).trans hEw9)⟩
      · first | omega | (dsimp only; omega)
  · replace hc60 : ¬ (k + 1 < n_l) := by have := of_d_f hc60; omega
    refine wpF_end (then_code (wpC_false (wpC_exit (then_exit (then_exit (inBlock_exit (then_code (wpC_seq (wpC_seq ?_)))))))))
    refine wpC_region (wpF_run 3 [(90, (vI ((com l (n_l - 1)).length))), (89, (.slice a1 ((com l (n_l - 1)).length) ((com l (n_l - 1)).length))), (88, (vI ((com l k).length)))] ?_)
    obtain rfl : k = n_l - 1 := by omega
    refine wpF_step (op_b (some 91) ((((com l (n_l - 1)).length : Nat) : Int) != (((com l (n_l - 1)).length : Nat) : Int)) false (cmpNeF (by omega)) ?_)
    refine wpF_end (then_code (wpC_false (wpC_skip (then_code (wpC_seq (wpC_drawM (Ext w7.drew) 6 [(93, 32, 0), (94, 4951760157141521099596496896, 1), (95, 32, 0), (96, 19807040628566084398385987584, 4), (15, 9903520314283042199192993792, 3), (16, 39614081257132168796771975168, 31)] (fun hT610 => ?_)))))))
    have hEw10 : Ext w7 w7.drew := Ext.drew w7
    generalize w7.drew = w10 at hEw10 ⊢
    have hzw10 := hEw10.size
    refine anyM_take hT610 0 1 (some 92) (vP w.heap.size 0) (yld_val (Instr.indexAt 61 (vP w.heap.size 0) (vI 0)) (fun w' hC => rn_ixa (E := 3) (sz := 1) (m := 2) (by omega))) ?_
    have hK4 := (((((((((((hBw1.ext hEw2)).ext hEw3)).ext hEj)).ext hEw6)).ext hEl)).ext hEw10)
    refine anyM_take hT610 1 3 (some 93) (.int .i64 p) (yld_val (Instr.loadAt 3 (vP w.heap.size 0)) (fun w' hC => rn_ld ((hK4.ext hC).cell rfl))) (anyM_take hT610 2 7 (some 94) (vP w.heap.size 1) (yld_val (Instr.indexAt 61 (vP w.heap.size 0) (vI 1)) (fun w' hC => rn_ixa (E := 3) (sz := 1) (m := 2) (by omega))) (anyM_take hT610 3 15 (some 95) (.int .i64 q) (yld_val (Instr.loadAt 3 (vP w.heap.size 1)) (fun w' hC => rn_ld ((hK4.ext hC).cell rfl))) (anyM_run hT610 [(4, 14, (.int .i64 p)), (5, 15, (.int .i64 q))] 2 63 (anyM_done (then_code (wpC_seq (wpC_region (wpF_run 3 [(99, (.int .i64 q)), (98, (.int .i64 p)), (97, (.slice a_l n_l c_l))] ?_))))))))
    have hK5 := (((((hK1.ext hEw6)).ext hEl)).ext hEw10)
    refine wpF_step (op_call (some 100) (c_BtwBad p q _ hK5 (by omega)) ?_)
    rintro _ w11 ⟨rfl, hEw11⟩
    have hzw11 := hEw11.size
    refine wpF_run 7 [(8, (vI 1)), (17, (vQ 0)), (16, (vQ 0)), (103, (vI 1)), (102, (vQ 0)), (101, (vQ 0)), (96, (.tuple #[(vQ 0), (vQ 0), (vI 1)]))] (wpF_end (then_code (wpC_seq (wpC_seq (wpC_region (wpF_run 1 [(104, (.int .i64 p))] (wpF_step (op_split (some 105) (decide (p < ((0 : Nat) : Int))) (fun hc105 => ?_) (fun hc105 => ?_)))))))))
    · replace hc105 : p < ((0 : Nat) : Int) := by have := of_d_t hc105; omega
      refine wpF_run 11 [(116, vT), (115, undef), (114, undef), (113, undef), (112, undef), (111, vT), (110, vT), (109, undef), (108, undef), (107, undef), (106, vT)] (wpF_end (then_code (wpC_true (wpC_seq (wpC_region (wpF_run 11 [(127, vT), (126, vT), (125, vT), (124, (vQ 0)), (123, vT), (122, vT), (121, vT), (120, (vQ 0)), (119, vT), (118, vT), (117, (vI 1))] ?_))))))
      have hK6 := (((((((((((((((hg0.ext hEw1)).ext hEw2)).ext hEw3)).ext hEj)).ext hEw6)).ext hEl)).ext hEw10)).ext hEw11)
      have hK7 := (((((((((((((((hg1.ext hEw1)).ext hEw2)).ext hEw3)).ext hEj)).ext hEw6)).ext hEl)).ext hEw10)).ext hEw11)
      have hK8 := (((((((((((((((hg2.ext hEw1)).ext hEw2)).ext hEw3)).ext hEj)).ext hEw6)).ext hEl)).ext hEw10)).ext hEw11)
      refine wpF_step (op_call (some 128) (c_lives15 _ hK6 hK7 hK8) ?_)
      rintro _ w12 ⟨rfl, hEw12⟩
      have hzw12 := hEw12.size
      refine wpF_run 2 [(6, vT), (129, vT)] (wpF_end (then_code (wpC_ret (then_ret (body_rets vT ?_)))))
      have hX1 : Ext w w12 := ((((((((hEw1.trans hEw2).trans hEw3).trans hEj).trans hEw6).trans hEl).trans hEw10).trans hEw11).trans hEw12)
      exact ⟨rfl, hX1⟩
    · replace hc105 : ¬ (p < ((0 : Nat) : Int)) := by have := of_d_f hc105; omega
      refine wpF_run 3 [(108, (.int .i64 p)), (107, (.int .i64 q)), (106, vF)] (wpF_step (op_split (some 109) (decide (q < p)) (fun hc109 => ?_) (fun hc109 => ?_)))
      · replace hc109 : q < p := by have := of_d_t hc109; omega
        refine wpF_run 7 [(116, vT), (115, undef), (114, undef), (113, undef), (112, undef), (111, vT), (110, vT)] (wpF_end (then_code (wpC_true (wpC_seq (wpC_region (wpF_run 11 [(127, vT), (126, vT), (125, vT), (124, (vQ 0)), (123, vT), (122, vT), (121, vT), (120, (vQ 0)), (119, vT), (118, vT), (117, (vI 1))] ?_))))))
        have hK9 := (((((((((((((((hg0.ext hEw1)).ext hEw2)).ext hEw3)).ext hEj)).ext hEw6)).ext hEl)).ext hEw10)).ext hEw11)
        have hK10 := (((((((((((((((hg1.ext hEw1)).ext hEw2)).ext hEw3)).ext hEj)).ext hEw6)).ext hEl)).ext hEw10)).ext hEw11)
        have hK11 := (((((((((((((((hg2.ext hEw1)).ext hEw2)).ext hEw3)).ext hEj)).ext hEw6)).ext hEl)).ext hEw10)).ext hEw11)
        refine wpF_step (op_call (some 128) (c_lives15 _ hK9 hK10 hK11) ?_)
        rintro _ w13 ⟨rfl, hEw13⟩
        have hzw13 := hEw13.size
        refine wpF_run 2 [(6, vT), (129, vT)] (wpF_end (then_code (wpC_ret (then_ret (body_rets vT ?_)))))
        have hX2 : Ext w w13 := ((((((((hEw1.trans hEw2).trans hEw3).trans hEj).trans hEw6).trans hEl).trans hEw10).trans hEw11).trans hEw13)
        exact ⟨rfl, hX2⟩
      · replace hc109 : ¬ (q < p) := by have := of_d_f hc109; omega
        refine wpF_run 5 [(114, (vI n_l)), (113, (.slice a_l n_l c_l)), (112, (.int .i64 q)), (111, vF), (110, vF)] (wpF_step (op_b (some 115) (decide (q ≥ ((n_l : Nat) : Int))) true (cmpDT (by omega)) ?_))
        refine wpF_run 1 [(116, vT)] (wpF_end (then_code (wpC_true (wpC_seq (wpC_region (wpF_run 11 [(127, vT), (126, vT), (125, vT), (124, (vQ 0)), (123, vT), (122, vT), (121, vT), (120, (vQ 0)), (119, vT), (118, vT), (117, (vI 1))] ?_))))))
        have hK12 := (((((((((((((((hg0.ext hEw1)).ext hEw2)).ext hEw3)).ext hEj)).ext hEw6)).ext hEl)).ext hEw10)).ext hEw11)
        have hK13 := (((((((((((((((hg1.ext hEw1)).ext hEw2)).ext hEw3)).ext hEj)).ext hEw6)).ext hEl)).ext hEw10)).ext hEw11)
        have hK14 := (((((((((((((((hg2.ext hEw1)).ext hEw2)).ext hEw3)).ext hEj)).ext hEw6)).ext hEl)).ext hEw10)).ext hEw11)
        refine wpF_step (op_call (some 128) (c_lives15 _ hK12 hK13 hK14) ?_)
        rintro _ w14 ⟨rfl, hEw14⟩
        have hzw14 := hEw14.size
        refine wpF_run 2 [(6, vT), (129, vT)] (wpF_end (then_code (wpC_ret (then_ret (body_rets vT ?_)))))
        have hX3 : Ext w w14 := ((((((((hEw1.trans hEw2).trans hEw3).trans hEj).trans hEw6).trans hEl).trans hEw10).trans hEw11).trans hEw14)
        exact ⟨rfl, hX3⟩

theorem c_CF11 (n : Int) {lo_l hi_l : Nat} {a_l : Option Addr} {n_l c_l : Nat} {l : List Cel} (p : Nat) (q : Nat)  (w : World) (h_l : Ms celC 34 lo_l hi_l w a_l n_l c_l l) (hp0 : n_l ≤ 40) (hp1 : ¬ (1 ≤ n ∧ n ≤ 4096)) (hp2 : p ≤ q) (hp3 : q < n_l) (hg0 : Gl 0 [vI 45, vI 33] w) (hg1 : Gl 1 (w8C iniA) w) (hg2 : Gl 2 (w64C kA) w) :
    Calls Tryd.prog 7 #[(.int .i64 n), (.slice a_l n_l c_l), (vA [(vI p), (vI q)])] w (Ret fun r w' => r = vT ∧ Ext w w') := by
  refine calls_of (n := 185) (σ := [(0, (.int .i64 n)), (1, (.slice a_l n_l c_l)), (2, (vA [(vI p), (vI q)]))]) Tryd.func7 rfl ?_
  replace h_l := h_l.now; have hle_l := h_l.le
  have hgl0 := hg0.lt
  have hgl1 := hg1.lt
  have hgl2 := hg2.lt
  have hlen := h_l.len_eq
  have q1 := (l.getD p Cel.zero).hep; have q2 := (l.getD p Cel.zero).hmk; have q3 := (l.getD q Cel.zero).hep; have q4 := (l.getD q Cel.zero).hmk
  refine wpC_seq (wpC_region (wpF_step (op_new (some 5) (Instr.box 61 (vA [(vI p), (vI q)])) (vP w.heap.size 0) ([(vI p), (vI q)]) 61 ?_)))
  intro w1 hBw1 hEw1
  have hzw1 := hEw1.size; have hlw1 := hBw1.lt
  refine wpF_run 1 [(6, vF)] (wpF_end (then_code (wpC_seq (wpC_seq (wpC_region (wpF_run 2 [(19, (vI n_l)), (18, (.slice a_l n_l c_l))] (wpF_step (op_b (some 20) (decide (((n_l : Nat) : Int) > ((40 : Nat) : Int))) false (cmpDF (by omega)) ?_))))))))
  refine wpF_end (then_code (wpC_false (wpC_skip (then_code (wpC_seq (wpC_region (wpF_run 2 [(24, (.slice a_l n_l c_l)), (23, (.int .i64 n))] (wpF_step (op_call (some 25) (c_SndArg n _ (h_l.ext hEw1) (by omega)) ?_)))))))))
  rintro _ w2 ⟨rfl, hEw2⟩
  have hzw2 := hEw2.size
  refine wpF_run 5 [(8, (vI 1)), (7, (vI 0)), (27, (vI 1)), (26, (vI 0)), (22, (.tuple #[(vI 0), (vI 1)]))] (wpF_end (then_code (wpC_seq (wpC_region (wpF_run 1 [(28, (.slice a_l n_l c_l))] (wpF_step (op_call (some 29) (c_rFault _ (((h_l.ext hEw1)).ext hEw2)) ?_)))))))
  rintro _ w3 ⟨rfl, hEw3⟩
  have hzw3 := hEw3.size
  refine wpF_run 1 [(9, (vI (flt l)))] (wpF_end (then_code (wpC_seq (wpC_region (wpF_run 1 [(10, (vI 0))] (wpF_end (then_code (wpC_join (X := Nat) (fun y => [(10, (vI y))]) [30, 31] (fun y w4 => y = (if flt l = 0 then 0 else 13) ∧ w3 = w4) ?_ ?_))))))))
  · refine wpC_seq (wpC_region (wpF_run 1 [(30, (vI (flt l)))] (wpF_step (op_split (some 31) (decide (((flt l : Nat) : Int) > ((0 : Nat) : Int))) (fun hc31 => ?_) (fun hc31 => ?_)))))
    · replace hc31 : flt l > 0 := by have := of_d_t hc31; omega
      exact wpF_end (then_code (wpC_true (wpC_region (wpF_run 1 [(10, (vI 13))] (wpF_end (then_normal (endJ_mk 13 (⟨by rw [if_neg (by omega)], rfl⟩))))))))
    · replace hc31 : ¬ (flt l > 0) := by have := of_d_f hc31; omega
      exact wpF_end (then_code (wpC_false (wpC_skip (then_normal (endJ_mk 0 (⟨by rw [if_pos (by omega)], rfl⟩))))))
  rintro y dw4 w4 ⟨hy, rfl⟩
  refine wpC_join (X := Nat × Nat) (fun ⟨u, v⟩ => [(9, (vI u)), (10, (vI v))]) [32, 33, 34, 35, 36, 37, 38, 39, 40, 41, 42, 43, 44, 45, 46] (fun ⟨u, v⟩ w5 => u = 0 ∧ v = 1 ∧ Ext w3 w5) ?_ ?_
  · refine wpC_seq (wpC_region (wpF_run 1 [(32, (.int .i64 n))] (wpF_step (op_split (some 33) (decide (n < ((1 : Nat) : Int))) (fun hc33 => ?_) (fun hc33 => ?_)))))
    · replace hc33 : n < ((1 : Nat) : Int) := by have := of_d_t hc33; omega
      refine wpF_run 4 [(37, vT), (36, undef), (35, undef), (34, vT)] (wpF_end (then_code (wpC_true (wpC_seq (wpC_region (wpF_run 1 [(9, (vI 0))] (wpF_end (then_code (wpC_region ?_)))))))))
      exact wpF_run 1 [(10, (vI 1))] (wpF_end (then_normal (endJ_mk (0, 1) (⟨by omega, by omega, (Ext.refl _)⟩))))
    · replace hc33 : ¬ (n < ((1 : Nat) : Int)) := by have := of_d_f hc33; omega
      refine wpF_run 2 [(35, (.int .i64 n)), (34, vF)] (wpF_step (op_b (some 36) (decide (n > ((4096 : Nat) : Int))) true (cmpDT (by omega)) ?_))
      refine wpF_run 1 [(37, vT)] (wpF_end (then_code (wpC_true (wpC_seq (wpC_region (wpF_run 1 [(9, (vI 0))] (wpF_end (then_code (wpC_region ?_)))))))))
      exact wpF_run 1 [(10, (vI 1))] (wpF_end (then_normal (endJ_mk (0, 1) (⟨by omega, by omega, (Ext.refl _)⟩))))
  rintro ⟨u, v⟩ dw5 w5 ⟨hu, hv, hEj⟩
  have hzj := hEj.size
  refine wpC_seq (wpC_seq (wpC_region (wpF_run 2 [(48, (vI u)), (47, (vI 0))] (wpF_step (op_b (some 49) (((0 : Nat) : Int) != ((u : Nat) : Int)) false (cmpNeF (by omega)) ?_)))))
  refine wpF_run 3 [(52, (vI v)), (51, (vI 1)), (50, vF)] (wpF_step (op_b (some 53) (((1 : Nat) : Int) != ((v : Nat) : Int)) false (cmpNeF (by omega)) ?_))
  refine wpF_run 1 [(54, vF)] (wpF_end (then_code (wpC_false (wpC_skip (then_code (wpC_seq (wpC_region (wpF_run 1 [(55, (.slice a_l n_l c_l))] ?_))))))))
  have hK1 := (((((((h_l.ext hEw1)).ext hEw2)).ext hEw3)).ext hEj)
  refine wpF_step (op_call (some 56) (c_Commits _ hK1 (by first | omega | decide)) ?_)
  rintro _ w6 ⟨a1, rfl, hFz3_0, hEw6⟩
  have hzw6 := hEw6.size
  have hlea1 := hFz3_0.le
  refine wpF_run 1 [(11, (.slice a1 ((com l (n_l - 1)).length) ((com l (n_l - 1)).length)))] (wpF_end (then_code (wpC_seq (wpC_region (wpF_run 1 [(12, (vI 0))] (wpF_end (then_code (wpC_seq (wpC_seq ?_)))))))))
  refine wpC_region (wpF_run 1 [(13, (vI 1))] (wpF_end (then_code (wpC_block (wpC_loop (X := Nat) (fun k => [(12, (vI ((com l k).length))), (13, (vI (k + 1)))]) [6, 57, 58, 59, 60, 61, 62, 63, 64, 65, 66, 67, 68, 69, 70, 71, 72, 73, 74, 75, 76, 77, 78, 79, 80, 81, 82, 83, 84, 85, 86, 87] (fun k w7 => k ≤ n_l - 1 ∧ Ext w6 w7) (fun k => n_l - k) 0 (by kernel_rfl) ⟨by omega, Ext.refl _⟩ ?_)))))
  rintro k dw7 w7 ⟨hk, hEl⟩
  have hzl := hEl.size
  have hcl := com_le l k
  refine wpC_seq (wpC_seq (wpC_region (wpF_run 3 [(59, (vI n_l)), (58, (.slice a_l n_l c_l)), (57, (vI (k + 1)))] (wpF_step (op_split (some 60) (decide (((k + 1 : Nat) : Int) < ((n_l : Nat) : Int))) (fun hc60 => ?_) (fun hc60 => ?_))))))
  · replace hc60 : k + 1 < n_l := by have := of_d_t hc60; omega
    refine wpF_end (then_code (wpC_true (wpC_skip (then_code (wpC_seq (wpC_block (wpC_seq (wpC_drawM (Ext w7.drew) 11 [(64, 2, 0), (65, 8192, 0), (66, 18446744073709551616, 2), (67, 46116860184273879040, 5), (68, 73786976294838206464, 8), (69, 2, 0), (70, 8192, 0), (71, 885443715538058477568, 96), (72, 1180591620717411303424, 128), (73, 2508757194024499019776, 272), (74, 4722366482869645213696, 512)] (fun hT654 => ?_)))))))))
    have hEw8 : Ext w7 w7.drew := Ext.drew w7
    generalize w7.drew = w8 at hEw8 ⊢
    have hzw8 := hEw8.size
    refine anyM_run hT654 [(0, 63, (.slice a_l n_l c_l)), (1, 64, (vI (k + 1)))] 2 3 (anyM_take hT654 2 7 (some 65) (vI k) (yld_in .i64 (IntKind.i64.wrap (((k + 1 : Nat) : Int) - ((1 : Nat) : Int))) (wrapS (by omega) (by omega) (by omega))) ?_)
    obtain ⟨b1, o1, rfl⟩ := hK1.addr (by omega) (by decide)
    refine anyM_take hT654 3 15 (some 66) (vP b1 (o1 + k * 34)) (yld_val (Instr.indexAt 51 (.slice (pA b1 o1) n_l c_l) (vI k)) (fun w' hC => rn_ixs (E := 30) (sz := 34) (by omega))) ?_
    have hK2 := (((((hK1.ext hEw6)).ext hEl)).ext hEw8)
    refine anyM_take hT654 4 31 (some 67) (vA (celC (l.getD k Cel.zero))) (yld_val (Instr.loadAt 30 (vP b1 (o1 + k * 34))) (fun w' hC => rn_lda (vs := celC (l.getD k Cel.zero)) ((hK2.ext hC).at Cel.zero (by omega)) (by rw [celC_len]; kernel_rfl))) (anyM_run hT654 [(5, 68, (.slice (pA b1 o1) n_l c_l)), (6, 69, (vI (k + 1)))] 2 127 (anyM_take hT654 7 255 (some 70) (vP b1 (o1 + (k + 1) * 34)) (yld_val (Instr.indexAt 51 (.slice (pA b1 o1) n_l c_l) (vI (k + 1))) (fun w' hC => rn_ixs (E := 30) (sz := 34) (by omega))) (anyM_take hT654 8 511 (some 71) (vA (celC (l.getD (k + 1) Cel.zero))) (yld_val (Instr.loadAt 30 (vP b1 (o1 + (k + 1) * 34))) (fun w' hC => rn_lda (vs := celC (l.getD (k + 1) Cel.zero)) ((hK2.ext hC).at Cel.zero (by omega)) (by rw [celC_len]; kernel_rfl))) (anyM_one 9 1023 (op_call (some 72) (c_rFol (l.getD k Cel.zero) (l.getD (k + 1) Cel.zero) _) ?_)))))
    rintro _ w9 ⟨rfl, hEw9⟩
    have hzw9 := hEw9.size
    refine ⟨.inr hEw9, ?_⟩
    rcases Classical.em (fk l k = 1) with hfk | hfk
    · obtain ⟨hg1, hg2⟩ := com_get (l := l) (m := n_l - 1) hfk (by omega)
      refine anyM_take (hw := show Ext w8 w9 from hEw9) hT654 10 2047 (some 73) vT (yld_b (((fol (l.getD k Cel.zero) (l.getD (k + 1) Cel.zero) : Nat) : Int) == ((1 : Nat) : Int)) (cmpEqT (by have h : fol (l.getD k Cel.zero) (l.getD (k + 1) Cel.zero) = 1 := hfk; omega))) (anyM_done (then_code (wpC_true (wpC_seq (wpC_seq (wpC_region (wpF_run 3 [(76, (vI ((com l (n_l - 1)).length))), (75, (.slice a1 ((com l (n_l - 1)).length) ((com l (n_l - 1)).length))), (74, (vI ((com l k).length)))] (wpF_step (op_b (some 77) (decide ((((com l k).length : Nat) : Int) ≥ (((com l (n_l - 1)).length : Nat) : Int))) false (cmpDF (by omega)) ?_)))))))))
      refine wpF_run 3 [(80, (vI ((com l k).length))), (79, (.slice a1 ((com l (n_l - 1)).length) ((com l (n_l - 1)).length))), (78, vF)] ?_
      obtain ⟨b2, o2, rfl⟩ := hFz3_0.addr (by omega)
      refine wpF_step (op_v (some 81) (Instr.indexAt 56 (.slice (pA b2 o2) ((com l (n_l - 1)).length) ((com l (n_l - 1)).length)) (vI ((com l k).length))) (vP b2 (o2 + ((com l k).length) * 1)) (rn_ixs (E := 3) (sz := 1) (by omega)) ?_)
      have hK3 := (((((hFz3_0.ext hEl)).ext hEw8)).ext hEw9)
      refine wpF_step (op_v (some 82) (Instr.loadAt 3 (vP b2 (o2 + ((com l k).length) * 1))) (vI (gt (com l (n_l - 1)) ((com l k).length))) (rn_ld (hK3.celln (by omega))) ?_)
      refine wpF_run 1 [(83, (vI (k + 1)))] (wpF_step (op_b (some 84) (((gt (com l (n_l - 1)) ((com l k).length) : Nat) : Int) != ((k + 1 : Nat) : Int)) false (cmpNeF (by omega)) ?_))
      refine wpF_run 1 [(85, vF)] (wpF_end (then_code (wpC_false (wpC_skip (then_code (wpC_region (wpF_run 1 [(86, (vI ((com l k).length)))] (wpF_step (op_in (some 87) .i64 (IntKind.i64.wrap ((((com l k).length : Nat) : Int) + ((1 : Nat) : Int))) ((com l k).length + 1) (wrapS (by omega) (by omega) (by omega)) ?_)))))))))
      refine wpF_run 1 [(12, (vI ((com l k).length + 1)))] (wpF_end (inBlock_normal (then_code (wpC_region (wpF_run 1 [(61, (vI (k + 1)))] (wpF_step (op_in (some 62) .i64 (IntKind.i64.wrap (((k + 1 : Nat) : Int) + ((1 : Nat) : Int))) (k + 1 + 1) (wrapS (by omega) (by omega) (by omega)) ?_)))))))
      refine wpF_run 1 [(13, (vI (k + 1 + 1)))] (wpF_end (then_normal ?_))
      rw [show (com l k).length + 1 = (com l (k + 1)).length from by rw [com_len_yes hfk]]
      refine endR_mk (k + 1) ?_ ?_
      · exact ⟨by omega, ((hEl.trans hEw8).trans hEw9)⟩
      · first | omega | (dsimp only; omega)
    · refine anyM_take (hw := show Ext w8 w9 from hEw9) hT654 10 2047 (some 73) vF (yld_b (((fol (l.getD k Cel.zero) (l.getD (k + 1) Cel.zero) : Nat) : Int) == ((1 : Nat) : Int)) (cmpEqF (by have h : ¬ fol (l.getD k Cel.zero) (l.getD (k + 1) Cel.zero) = 1 := hfk; omega))) (anyM_done (then_code (wpC_false (wpC_skip (inBlock_normal (then_code (wpC_region (wpF_run 1 [(61, (vI (k + 1)))] (wpF_step (op_in (some 62) .i64 (IntKind.i64.wrap (((k + 1 : Nat) : Int) + ((1 : Nat) : Int))) (k + 1 + 1) (wrapS (by omega) (by omega) (by omega)) ?_))))))))))
      refine wpF_run 1 [(13, (vI (k + 1 + 1)))] (wpF_end (then_normal ?_))
      rw [show (com l k).length = (com l (k + 1)).length from by rw [com_len_no hfk]]
      refine endR_mk (k + 1) ?_ ?_
      · exact ⟨by omega, ((hEl.trans hEw8).trans hEw9)⟩
      · first | omega | (dsimp only; omega)
  · replace hc60 : ¬ (k + 1 < n_l) := by have := of_d_f hc60; omega
    refine wpF_end (then_code (wpC_false (wpC_exit (then_exit (then_exit (inBlock_exit (then_code (wpC_seq (wpC_seq ?_)))))))))
    refine wpC_region (wpF_run 3 [(90, (vI ((com l (n_l - 1)).length))), (89, (.slice a1 ((com l (n_l - 1)).length) ((com l (n_l - 1)).length))), (88, (vI ((com l k).length)))] ?_)
    obtain rfl : k = n_l - 1 := by omega
    refine wpF_step (op_b (some 91) ((((com l (n_l - 1)).length : Nat) : Int) != (((com l (n_l - 1)).length : Nat) : Int)) false (cmpNeF (by omega)) ?_)
    refine wpF_end (then_code (wpC_false (wpC_skip (then_code (wpC_seq (wpC_drawM (Ext w7.drew) 6 [(93, 32, 0), (94, 4951760157141521099596496896, 1), (95, 32, 0), (96, 19807040628566084398385987584, 4), (15, 9903520314283042199192993792, 3), (16, 39614081257132168796771975168, 31)] (fun hT750 => ?_)))))))
    have hEw10 : Ext w7 w7.drew := Ext.drew w7
    generalize w7.drew = w10 at hEw10 ⊢
    have hzw10 := hEw10.size
    refine anyM_take hT750 0 1 (some 92) (vP w.heap.size 0) (yld_val (Instr.indexAt 61 (vP w.heap.size 0) (vI 0)) (fun w' hC => rn_ixa (E := 3) (sz := 1) (m := 2) (by omega))) ?_
    have hK4 := (((((((((((hBw1.ext hEw2)).ext hEw3)).ext hEj)).ext hEw6)).ext hEl)).ext hEw10)
    refine anyM_take hT750 1 3 (some 93) (vI p) (yld_val (Instr.loadAt 3 (vP w.heap.size 0)) (fun w' hC => rn_ld ((hK4.ext hC).cell rfl))) (anyM_take hT750 2 7 (some 94) (vP w.heap.size 1) (yld_val (Instr.indexAt 61 (vP w.heap.size 0) (vI 1)) (fun w' hC => rn_ixa (E := 3) (sz := 1) (m := 2) (by omega))) (anyM_take hT750 3 15 (some 95) (vI q) (yld_val (Instr.loadAt 3 (vP w.heap.size 1)) (fun w' hC => rn_ld ((hK4.ext hC).cell rfl))) (anyM_run hT750 [(4, 14, (vI p)), (5, 15, (vI q))] 2 63 (anyM_done (then_code (wpC_seq (wpC_region (wpF_run 3 [(99, (vI q)), (98, (vI p)), (97, (.slice a_l n_l c_l))] ?_))))))))
    rcases Nat.eq_zero_or_pos (flt ((l.drop p).take (q + 1 - p))) with hfs | hfs
    · have hK5 := (((((hK1.ext hEw6)).ext hEl)).ext hEw10)
      refine wpF_step (op_call (some 100) (c_BtwY p q _ hK5 (by omega) (by omega) (by assumption)) ?_)
      rintro _ w11 ⟨rfl, hEw11⟩
      have hzw11 := hEw11.size
      refine wpF_run 7 [(8, (vI 0)), (17, (vQ (((cel l q).mark + (2 ^ 64 - (cel l p).mark)) % 2 ^ 64))), (16, (vQ (((cel l q).ep + (2 ^ 64 - (cel l p).ep)) % 2 ^ 64))), (103, (vI 0)), (102, (vQ (((cel l q).mark + (2 ^ 64 - (cel l p).mark)) % 2 ^ 64))), (101, (vQ (((cel l q).ep + (2 ^ 64 - (cel l p).ep)) % 2 ^ 64))), (96, (.tuple #[(vQ (((cel l q).ep + (2 ^ 64 - (cel l p).ep)) % 2 ^ 64)), (vQ (((cel l q).mark + (2 ^ 64 - (cel l p).mark)) % 2 ^ 64)), (vI 0)]))] (wpF_end (then_code (wpC_seq (wpC_seq (wpC_region (wpF_run 1 [(104, (vI p))] (wpF_step (op_b (some 105) (decide (((p : Nat) : Int) < ((0 : Nat) : Int))) false (cmpDF (by omega)) ?_))))))))
      refine wpF_run 3 [(108, (vI p)), (107, (vI q)), (106, vF)] (wpF_step (op_b (some 109) (decide (((q : Nat) : Int) < ((p : Nat) : Int))) false (cmpDF (by omega)) ?_))
      refine wpF_run 5 [(114, (vI n_l)), (113, (.slice a_l n_l c_l)), (112, (vI q)), (111, vF), (110, vF)] (wpF_step (op_b (some 115) (decide (((q : Nat) : Int) ≥ ((n_l : Nat) : Int))) false (cmpDF (by omega)) ?_))
      refine wpF_run 1 [(116, vF)] (wpF_end (then_code (wpC_false (wpC_skip (then_code (wpC_seq (wpC_seq (wpC_region (wpF_run 3 [(132, (vI q)), (131, (vI p)), (130, (.slice a_l n_l c_l))] ?_)))))))))
      refine wpF_step (op_in (some 133) .i64 (IntKind.i64.wrap (((q : Nat) : Int) + ((1 : Nat) : Int))) (q + 1) (wrapS (by omega) (by omega) (by omega)) ?_)
      obtain ⟨a2, hR1, hS1⟩ := (hK5.ext hEw11).slice Tryd.prog 51 30 p (q + 1) c_l (some (vI p)) (some (vI (q + 1))) none
      refine wpF_step (op_v (some 134) (Instr.sliceAt 51 (.slice a_l n_l c_l) (some (vI p)) (some (vI (q + 1))) none) (.slice a2 (q + 1 - p) (c_l - p)) (hR1 _) ?_)
      refine wpF_step (op_call (some 135) (c_rFault _ hS1) ?_)
      rintro _ w12 ⟨rfl, hEw12⟩
      have hzw12 := hEw12.size
      refine wpF_step (op_b (some 136) (decide (((flt ((l.drop p).take (q + 1 - p)) : Nat) : Int) > ((0 : Nat) : Int))) false (cmpDF (by omega)) ?_)
      refine wpF_end (then_code (wpC_false (wpC_skip (then_code (wpC_seq ?_)))))
      refine wpC_drawM (Ext w12.drew) 36 [(151, 256, 0), (152, 1427247692705959881058285969449495136382746624, 1), (153, 2854495385411919762116571938898990272765493248, 2), (154, 5708990770823839524233143877797980545531052032, 4), (155, 5708990770823839524233143877797980545530986498, 4), (156, 5708990770823839524233143877797980545531019264, 4), (157, 74216880020709913815030870411373747091902824448, 52), (158, 97052843104005271911963445922565669274026770432, 68), (159, 188396695437186704299693747967333358002522554368, 132), (160, 5708990770823839524233143877797980545530986498, 4), (161, 5708990770823839524233143877797980545531002880, 4), (162, 2197961446767178216829760392952222510029429800960, 1540), (163, 2928712265432629675931602809310364019857396072448, 2052), (164, 5851715540094435512338972474742930059169261158400, 4100), (165, 12063097498750772914704633013787132892706974466048, 8452), (166, 23401153169606918209831656755093922256131513647104, 16396), (167, 46773761385359717222042147790798854609535372361728, 32772), (168, 93536104789177786765035829293842113257979682750464, 65540), (169, 187072209578355573530071658587684226515959365632000, 131072), (170, 187072209578355573530071658587684226515959365500930, 131072), (171, 187072209578355573530071658587684226515959365533696, 131072), (172, 2431938724518622455890931561639894944707471751512064, 1703936), (173, 3180227562832044750011218195990631850771309213515776, 2228224), (174, 6173382916085733926492364733393579475026659061530624, 4325376), (175, 187072209578355573530071658587684226515959365500930, 131072), (176, 187072209578355573530071658587684226515959365517312, 131072), (177, 72022800687666895809077588556258427208644355717857280, 50462720), (178, 95968043513696409220926760855482008202687154501976064, 67239936), (179, 191749014817814462868323450052376332178858349638451200, 134348800), (180, 395283578839065326869041414595776770628222139303460864, 276955136), (181, 766808987061679495899763728550917644488917439188303872, 537264128), (182, 1532682613075467213931877098808896867845255081549103104, 1073872896), (183, 3064991081731777716716694054300618367237478244367204352, 2147614720), (184, 6129982163463555433433388108601236734474956488734408704, 4294967296), (185, 18389946490390666300300164325803710203424869466203226112, 12884901888), (7, 24519928653854221733733552434404946937899825954937634816, 34359738367)] (fun hT805 => ?_)
      have hEw13 : Ext w12 w12.drew := Ext.drew w12
      generalize w12.drew = w13 at hEw13 ⊢
      have hzw13 := hEw13.size
      refine anyM_run hT805 [(0, 150, (vI 0)), (1, 151, vT), (2, 152, vT), (3, 153, (vQ (((cel l q).ep + (2 ^ 64 - (cel l p).ep)) % 2 ^ 64))), (4, 154, (.slice a_l n_l c_l)), (5, 155, (vI q))] 6 63 ?_
      obtain ⟨b3, o3, rfl⟩ := hK5.addr (by omega) (by decide)
      refine anyM_take hT805 6 127 (some 156) (vP b3 (o3 + q * 34)) (yld_val (Instr.indexAt 51 (.slice (pA b3 o3) n_l c_l) (vI q)) (fun w' hC => rn_ixs (E := 30) (sz := 34) (by omega))) (anyM_run hT805 [(7, 157, (vP b3 (o3 + q * 34 + 32)))] 1 255 ?_)
      have hK6 := (((((hK5.ext hEw11)).ext hEw12)).ext hEw13)
      refine anyM_take hT805 8 511 (some 158) (vQ ((l.getD q Cel.zero).ep)) (yld_val (Instr.loadAt 28 (vP b3 (o3 + q * 34 + 32))) (fun w' hC => rn_ld ((hK6.ext hC).cell (j := 32) Cel.zero (by omega) (cel_ep _)))) (anyM_run hT805 [(9, 159, (.slice (pA b3 o3) n_l c_l)), (10, 160, (vI p))] 2 2047 (anyM_take hT805 11 4095 (some 161) (vP b3 (o3 + p * 34)) (yld_val (Instr.indexAt 51 (.slice (pA b3 o3) n_l c_l) (vI p)) (fun w' hC => rn_ixs (E := 30) (sz := 34) (by omega))) (anyM_run hT805 [(12, 162, (vP b3 (o3 + p * 34 + 32)))] 1 8191 (anyM_take hT805 13 16383 (some 163) (vQ ((l.getD p Cel.zero).ep)) (yld_val (Instr.loadAt 28 (vP b3 (o3 + p * 34 + 32))) (fun w' hC => rn_ld ((hK6.ext hC).cell (j := 32) Cel.zero (by omega) (cel_ep _)))) (anyM_take hT805 14 32767 (some 164) (vQ (((l.getD q Cel.zero).ep + (2 ^ 64 - ((l.getD p Cel.zero).ep))) % 2 ^ 64)) (yld_in .u64 (IntKind.u64.wrap ((((l.getD q Cel.zero).ep : Nat) : Int) - (((l.getD p Cel.zero).ep : Nat) : Int))) (wrapUsub (k := .u64) rfl (by show _ ≤ 2 ^ 64; omega))) (anyM_take hT805 15 65535 (some 165) vT (yld_b (((((cel l q).ep + (2 ^ 64 - (cel l p).ep)) % 2 ^ 64 : Nat) : Int) == ((((l.getD q Cel.zero).ep + (2 ^ 64 - ((l.getD p Cel.zero).ep))) % 2 ^ 64 : Nat) : Int)) (cmpEqT rfl)) (anyM_run hT805 [(16, 166, vT), (17, 167, vT), (18, 168, (vQ (((cel l q).mark + (2 ^ 64 - (cel l p).mark)) % 2 ^ 64))), (19, 169, (.slice (pA b3 o3) n_l c_l)), (20, 170, (vI q))] 5 2097151 ?_)))))))
      refine anyM_take hT805 21 4194303 (some 171) (vP b3 (o3 + q * 34)) (yld_val (Instr.indexAt 51 (.slice (pA b3 o3) n_l c_l) (vI q)) (fun w' hC => rn_ixs (E := 30) (sz := 34) (by omega))) (anyM_run hT805 [(22, 172, (vP b3 (o3 + q * 34 + 33)))] 1 8388607 (anyM_take hT805 23 16777215 (some 173) (vQ ((l.getD q Cel.zero).mark)) (yld_val (Instr.loadAt 28 (vP b3 (o3 + q * 34 + 33))) (fun w' hC => rn_ld ((hK6.ext hC).cell (j := 33) Cel.zero (by omega) (cel_mk _)))) (anyM_run hT805 [(24, 174, (.slice (pA b3 o3) n_l c_l)), (25, 175, (vI p))] 2 67108863 (anyM_take hT805 26 134217727 (some 176) (vP b3 (o3 + p * 34)) (yld_val (Instr.indexAt 51 (.slice (pA b3 o3) n_l c_l) (vI p)) (fun w' hC => rn_ixs (E := 30) (sz := 34) (by omega))) (anyM_run hT805 [(27, 177, (vP b3 (o3 + p * 34 + 33)))] 1 268435455 (anyM_take hT805 28 536870911 (some 178) (vQ ((l.getD p Cel.zero).mark)) (yld_val (Instr.loadAt 28 (vP b3 (o3 + p * 34 + 33))) (fun w' hC => rn_ld ((hK6.ext hC).cell (j := 33) Cel.zero (by omega) (cel_mk _)))) (anyM_take hT805 29 1073741823 (some 179) (vQ (((l.getD q Cel.zero).mark + (2 ^ 64 - ((l.getD p Cel.zero).mark))) % 2 ^ 64)) (yld_in .u64 (IntKind.u64.wrap ((((l.getD q Cel.zero).mark : Nat) : Int) - (((l.getD p Cel.zero).mark : Nat) : Int))) (wrapUsub (k := .u64) rfl (by show _ ≤ 2 ^ 64; omega))) (anyM_take hT805 30 2147483647 (some 180) vT (yld_b (((((cel l q).mark + (2 ^ 64 - (cel l p).mark)) % 2 ^ 64 : Nat) : Int) == ((((l.getD q Cel.zero).mark + (2 ^ 64 - ((l.getD p Cel.zero).mark))) % 2 ^ 64 : Nat) : Int)) (cmpEqT rfl)) ?_))))))))
      refine anyM_run hT805 [(31, 181, vT), (32, 182, vT)] 2 8589934591 ?_
      have hK7 := (((((((((((((((((((hg0.ext hEw1)).ext hEw2)).ext hEw3)).ext hEj)).ext hEw6)).ext hEl)).ext hEw10)).ext hEw11)).ext hEw12)).ext hEw13)
      have hK8 := (((((((((((((((((((hg1.ext hEw1)).ext hEw2)).ext hEw3)).ext hEj)).ext hEw6)).ext hEl)).ext hEw10)).ext hEw11)).ext hEw12)).ext hEw13)
      have hK9 := (((((((((((((((((((hg2.ext hEw1)).ext hEw2)).ext hEw3)).ext hEj)).ext hEw6)).ext hEl)).ext hEw10)).ext hEw11)).ext hEw12)).ext hEw13)
      refine anyM_one 33 17179869183 (op_call (some 183) (c_lives15 _ hK7 hK8 hK9) ?_)
      rintro _ w14 ⟨rfl, hEw14⟩
      have hzw14 := hEw14.size
      refine ⟨.inr hEw14, ?_⟩
      refine anyM_run (hw := show Ext w13 w14 from hEw14) hT805 [(34, 184, vT), (35, 6, vT)] 2 68719476735 (anyM_done (then_code (wpC_ret (body_rets vT ?_))))
      have hX1 : Ext w w14 := ((((((((((hEw1.trans hEw2).trans hEw3).trans hEj).trans hEw6).trans hEl).trans hEw10).trans hEw11).trans hEw12).trans hEw13).trans hEw14)
      exact ⟨rfl, hX1⟩
    · have hfs2 : ¬ flt ((l.drop p).take (q + 1 - p)) = 0 := by omega
      have hK10 := (((((hK1.ext hEw6)).ext hEl)).ext hEw10)
      refine wpF_step (op_call (some 100) (c_BtwN p q _ hK10 (by omega) (by omega) (by assumption)) ?_)
      rintro _ w15 ⟨rfl, hEw15⟩
      have hzw15 := hEw15.size
      refine wpF_run 7 [(8, (vI 13)), (17, (vQ 0)), (16, (vQ 0)), (103, (vI 13)), (102, (vQ 0)), (101, (vQ 0)), (96, (.tuple #[(vQ 0), (vQ 0), (vI 13)]))] (wpF_end (then_code (wpC_seq (wpC_seq (wpC_region (wpF_run 1 [(104, (vI p))] (wpF_step (op_b (some 105) (decide (((p : Nat) : Int) < ((0 : Nat) : Int))) false (cmpDF (by omega)) ?_))))))))
      refine wpF_run 3 [(108, (vI p)), (107, (vI q)), (106, vF)] (wpF_step (op_b (some 109) (decide (((q : Nat) : Int) < ((p : Nat) : Int))) false (cmpDF (by omega)) ?_))
      refine wpF_run 5 [(114, (vI n_l)), (113, (.slice a_l n_l c_l)), (112, (vI q)), (111, vF), (110, vF)] (wpF_step (op_b (some 115) (decide (((q : Nat) : Int) ≥ ((n_l : Nat) : Int))) false (cmpDF (by omega)) ?_))
      refine wpF_run 1 [(116, vF)] (wpF_end (then_code (wpC_false (wpC_skip (then_code (wpC_seq (wpC_seq (wpC_region (wpF_run 3 [(132, (vI q)), (131, (vI p)), (130, (.slice a_l n_l c_l))] ?_)))))))))
      refine wpF_step (op_in (some 133) .i64 (IntKind.i64.wrap (((q : Nat) : Int) + ((1 : Nat) : Int))) (q + 1) (wrapS (by omega) (by omega) (by omega)) ?_)
      obtain ⟨a3, hR2, hS2⟩ := (hK10.ext hEw15).slice Tryd.prog 51 30 p (q + 1) c_l (some (vI p)) (some (vI (q + 1))) none
      refine wpF_step (op_v (some 134) (Instr.sliceAt 51 (.slice a_l n_l c_l) (some (vI p)) (some (vI (q + 1))) none) (.slice a3 (q + 1 - p) (c_l - p)) (hR2 _) ?_)
      refine wpF_step (op_call (some 135) (c_rFault _ hS2) ?_)
      rintro _ w16 ⟨rfl, hEw16⟩
      have hzw16 := hEw16.size
      refine wpF_step (op_b (some 136) (decide (((flt ((l.drop p).take (q + 1 - p)) : Nat) : Int) > ((0 : Nat) : Int))) true (cmpDT (by omega)) ?_)
      refine wpF_end (then_code (wpC_true (wpC_seq (wpC_region (wpF_run 11 [(147, vT), (146, vT), (145, vT), (144, (vQ 0)), (143, vT), (142, vT), (141, vT), (140, (vQ 0)), (139, vT), (138, vT), (137, (vI 13))] ?_)))))
      have hK11 := (((((((((((((((((hg0.ext hEw1)).ext hEw2)).ext hEw3)).ext hEj)).ext hEw6)).ext hEl)).ext hEw10)).ext hEw15)).ext hEw16)
      have hK12 := (((((((((((((((((hg1.ext hEw1)).ext hEw2)).ext hEw3)).ext hEj)).ext hEw6)).ext hEl)).ext hEw10)).ext hEw15)).ext hEw16)
      have hK13 := (((((((((((((((((hg2.ext hEw1)).ext hEw2)).ext hEw3)).ext hEj)).ext hEw6)).ext hEl)).ext hEw10)).ext hEw15)).ext hEw16)
      refine wpF_step (op_call (some 148) (c_lives15 _ hK11 hK12 hK13) ?_)
      rintro _ w17 ⟨rfl, hEw17⟩
      have hzw17 := hEw17.size
      refine wpF_run 2 [(6, vT), (149, vT)] (wpF_end (then_code (wpC_ret (then_ret (body_rets vT ?_)))))
      have hX2 : Ext w w17 := (((((((((hEw1.trans hEw2).trans hEw3).trans hEj).trans hEw6).trans hEl).trans hEw10).trans hEw15).trans hEw16).trans hEw17)
      exact ⟨rfl, hX2⟩

theorem c_CellsFault (n : Int) {lo_l hi_l : Nat} {a_l : Option Addr} {n_l c_l : Nat} {l : List Cel} (p : Int) (q : Int)  (w : World) (h_l : Ms celC 34 lo_l hi_l w a_l n_l c_l l) (hg0 : Gl 0 [vI 45, vI 33] w) (hg1 : Gl 1 (w8C iniA) w) (hg2 : Gl 2 (w64C kA) w) :
    Calls Tryd.prog 7 #[(.int .i64 n), (.slice a_l n_l c_l), (vA [(.int .i64 p), (.int .i64 q)])] w (Ret fun r w' => r = vT ∧ Ext w w') := by
  by_cases h0 : 40 < n_l
  · exact c_CFbig n p q w h_l h0 hg0 hg1 hg2
  by_cases h1 : 1 ≤ n ∧ n ≤ 4096
  · obtain ⟨m, rfl⟩ := Int.eq_ofNat_of_zero_le (show 0 ≤ n by omega)
    by_cases h2 : 0 ≤ p ∧ p ≤ q ∧ q < (n_l : Int)
    · obtain ⟨a, rfl⟩ := Int.eq_ofNat_of_zero_le (show 0 ≤ p by omega)
      obtain ⟨b, rfl⟩ := Int.eq_ofNat_of_zero_le (show 0 ≤ q by omega)
      exact c_CF01 m a b w h_l (by omega) (by omega) (by omega) (by omega) (by omega) hg0 hg1 hg2
    · exact c_CF00 m p q w h_l (by omega) (by omega) (by omega) h2 hg0 hg1 hg2
  · by_cases h2 : 0 ≤ p ∧ p ≤ q ∧ q < (n_l : Int)
    · obtain ⟨a, rfl⟩ := Int.eq_ofNat_of_zero_le (show 0 ≤ p by omega)
      obtain ⟨b, rfl⟩ := Int.eq_ofNat_of_zero_le (show 0 ≤ q by omega)
      exact c_CF11 n a b w h_l (by omega) h1 (by omega) (by omega) hg0 hg1 hg2
    · exact c_CF10 n p q w h_l (by omega) h1 h2 hg0 hg1 hg2

end Go.Proofs.YthjplefmfjkhfaaDoor
