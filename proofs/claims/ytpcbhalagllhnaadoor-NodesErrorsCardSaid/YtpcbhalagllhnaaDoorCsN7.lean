/- CsN7: what each function does, by its own code. No condition beyond those of each statement. -/
import Derived.Test.YtpcbhalagllhnaaDoorCsN6
namespace Go.Proofs.YtpcbhalagllhnaaDoor
open Go Go.RowKit Go.Cs
set_option maxRecDepth 100000
set_option linter.all false
set_option linter.unusedVariables false

theorem c_NFits (n : Nat) (x : Nod)  (w : World) (hp0 : 1 ≤ n) (hp1 : n ≤ 4096) :
    Calls Tryd.prog 13 #[(vI n), (vA (nodC x))] w (Ret fun r w' => r = (vI (fitV n x)) ∧ Ext w w') := by
  refine calls_of (n := 52) (σ := [(0, (vI n)), (1, (vA (nodC x)))]) Tryd.func13 rfl ?_
  have hlvx := x.hlv
  have hixx := x.hix
  have hcl := chkN_le x
  have h5 := hgt_le n
  refine wpC_seq (wpC_region (wpF_step (op_new (some 3) (Instr.box 41 (vA (nodC x))) (vP w.heap.size 0) (nodC x) 41 ?_)))
  intro w1 hBw1 hEw1
  have hzw1 := hEw1.size; have hlw1 := hBw1.lt
  refine wpF_run 1 [(4, (vI 0))] (wpF_end (then_code (wpC_seq (wpC_seq (wpC_region (wpF_run 1 [(10, (vI n))] (wpF_step (op_call (some 11) (c_Check n _ (by omega) (by omega)) ?_))))))))
  rintro _ _ ⟨rfl, rfl⟩
  refine wpF_run 1 [(5, (vI 0))] (wpF_end (then_code (wpC_seq (wpC_region (wpF_run 2 [(13, vF), (12, (vI 0))] (wpF_end (then_code (wpC_false (wpC_skip ?_)))))))))
  refine then_code (wpC_seq (wpC_seq (wpC_region (wpF_step (op_v (some 15) (Instr.loadAt 41 (vP w.heap.size 0)) (vA (nodC x)) (rn_lda (vs := nodC x) (hBw1.all) (by rw [nodC_len]; kernel_rfl)) ?_)))))
  refine wpF_step (op_call (some 16) (c_NCheck x _) ?_)
  rintro _ w2 ⟨rfl, hEw2⟩
  have hzw2 := hEw2.size
  refine wpF_run 1 [(6, (vI (chkN x)))] (wpF_end (then_code (wpC_seq (wpC_region (wpF_run 1 [(17, (vI (chkN x)))] (wpF_step (op_split (some 18) ((((chkN x : Nat) : Int) != ((0 : Nat) : Int))) (fun hc18 => ?_) (fun hc18 => ?_))))))))
  · replace hc18 : ¬ (chkN x = 0) := by have := of_ne_t hc18; omega
    refine wpF_end (then_code (wpC_true (wpC_seq (wpC_region (wpF_run 2 [(4, (vI (chkN x))), (19, (vI (chkN x)))] (wpF_end (then_code (wpC_ret (then_ret ?_)))))))))
    exact body_rets (vI (chkN x)) (⟨congrArg (fun z : Nat => vI z) (fitV_bad (by omega)), (hEw1.trans hEw2)⟩)
  · replace hc18 : chkN x = 0 := by have := of_ne_f hc18; omega
    refine wpF_end (then_code (wpC_false (wpC_skip (then_code (wpC_seq (wpC_region (wpF_run 2 [(22, (vP w.heap.size 0)), (21, (vI n))] (wpF_step (op_v (some 23) (Instr.loadAt 5 (vP w.heap.size 0)) (vB x.lv) (rn_ld ((hBw1.ext hEw2).cell rfl)) ?_)))))))))
    refine wpF_step (op_in (some 24) .i64 (IntKind.i64.wrap ((x.lv : Nat) : Int)) x.lv (wrapS rfl (by omega) (by omega)) ?_)
    refine wpF_run 1 [(25, (vP w.heap.size 1))] (wpF_step (op_v (some 26) (Instr.loadAt 28 (vP w.heap.size 1)) (vW x.ix) (rn_ld ((hBw1.ext hEw2).cell rfl)) ?_))
    refine wpF_step (op_in (some 27) .i64 (IntKind.i64.wrap ((x.ix : Nat) : Int)) x.ix (wrapS rfl (by omega) (by omega)) ?_)
    rcases Classical.em (x.lv ≤ hgt n ∧ x.ix < cnt n x.lv) with hin | hin
    · have hcn := cnt_n n x.lv
      refine wpF_step (op_call (some 28) (c_Parts n x.lv x.ix _ (by first | omega | (simp only [Int.toNat_natCast]; omega)) (by omega) (by omega) (by omega)) ?_)
      rintro _ w3 ⟨rfl, hEw3⟩
      have hzw3 := hEw3.size
      refine wpF_run 5 [(8, (vI 0)), (7, (vI (prt n x.lv x.ix))), (30, (vI 0)), (29, (vI (prt n x.lv x.ix))), (20, (.tuple #[(vI (prt n x.lv x.ix)), (vI 0)]))] (wpF_end (then_code (wpC_seq (wpC_seq (wpC_region (wpF_run 2 [(32, vF), (31, (vI 0))] (wpF_end (then_code (wpC_false ?_)))))))))
      refine wpC_skip (then_code (wpC_seq (wpC_seq (wpC_region (wpF_run 2 [(9, (vI (prt n x.lv x.ix))), (33, (vI (prt n x.lv x.ix)))] (wpF_end (then_code (wpC_block (wpC_loop (X := Nat) (fun i => [(9, (vI i))]) [4, 34, 35, 36, 37, 38, 39, 40, 41, 42, 43, 44, 45, 46, 47, 48, 49, 50, 51] (fun i w4 => prt n x.lv x.ix ≤ i ∧ i ≤ 4 ∧ (∀ k, prt n x.lv x.ix ≤ k → k < i → (x.rs.get k).eqb Rec.zero = true ∧ (x.es.get k).eqb Ent.zero = true) ∧ Ext w1 w4) (fun i => 4 - i) (prt n x.lv x.ix) (by kernel_rfl) ⟨Nat.le_refl _, prt_le _ _ _, fun k h1 h2 => absurd h1 (by omega), (hEw2.trans hEw3)⟩ ?_)))))))))
      rintro i dw4 w4 ⟨hpi, hi, hz, hEl⟩
      have hzl := hEl.size
      refine wpC_seq (wpC_seq (wpC_region (wpF_run 1 [(34, (vI i))] (wpF_step (op_split (some 35) (decide (((i : Nat) : Int) < ((4 : Nat) : Int))) (fun hc35 => ?_) (fun hc35 => ?_))))))
      · replace hc35 : i < 4 := by have := of_d_t hc35; omega
        refine wpF_end (then_code (wpC_true (wpC_skip (then_code (wpC_seq (wpC_block (wpC_seq (wpC_region (wpF_run 2 [(39, (vP w.heap.size 2)), (38, (vI i))] ?_)))))))))
        refine wpF_step (op_v (some 40) (Instr.indexAt 36 (vP w.heap.size 2) (vI i)) (vP w.heap.size (2 + i * 35)) (rn_ixa (E := 35) (sz := 35) (m := 4) (by omega)) ?_)
        refine wpF_step (op_v (some 41) (Instr.loadAt 35 (vP w.heap.size (2 + i * 35))) (vA (recC (x.rs.get i))) (rn_lda (vs := recC (x.rs.get i)) ((hBw1.ext hEl).at (2 + i * 35) (recC (x.rs.get i)) (nod_r (by omega))) (by rw [recC_len]; kernel_rfl)) ?_)
        refine wpF_run 1 [(42, (vA (recC Rec.zero)))] ?_
        rcases Bool.eq_false_or_eq_true ((x.rs.get i).eqb Rec.zero) with hq43 | hq43
        · refine wpF_step (op_v (some 43) (bo .neq 35 (.tmp 41) (.tmp 42) (vA (recC (x.rs.get i))) (vA (recC Rec.zero))) vF (run_neqAgg (r := true) (T := 35) ((run_eq_rec (dd := 9997) (t := 35) (t8 := 5) (tn := 31) (td := 33) (e := 5) (t32 := 28) (t64 := 29) (x.rs.get i) Rec.zero).trans (congrArg (fun b => Result.ok b _) (show ((x.rs.get i).eqb Rec.zero) = true from hq43)))) ?_)
          refine wpF_run 3 [(46, (vP w.heap.size 142)), (45, (vI i)), (44, vF)] (wpF_step (op_v (some 47) (Instr.indexAt 39 (vP w.heap.size 142) (vI i)) (vP w.heap.size (142 + i * 33)) (rn_ixa (E := 38) (sz := 33) (m := 4) (by omega)) ?_))
          refine wpF_step (op_v (some 48) (Instr.loadAt 38 (vP w.heap.size (142 + i * 33))) (vA (entC (x.es.get i))) (rn_lda (vs := entC (x.es.get i)) ((hBw1.ext hEl).at (142 + i * 33) (entC (x.es.get i)) (nod_e (by omega))) (by rw [entC_len]; kernel_rfl)) ?_)
          refine wpF_run 1 [(49, (vA (entC Ent.zero)))] ?_
          rcases Bool.eq_false_or_eq_true ((x.es.get i).eqb Ent.zero) with hq50 | hq50
          · refine wpF_step (op_v (some 50) (bo .neq 38 (.tmp 48) (.tmp 49) (vA (entC (x.es.get i))) (vA (entC Ent.zero))) vF (run_neqAgg (r := true) (T := 38) ((run_eq_ent (dd := 9997) (t := 38) (t8 := 5) (td := 33) (e := 5) (x.es.get i) Ent.zero).trans (congrArg (fun b => Result.ok b _) (show ((x.es.get i).eqb Ent.zero) = true from hq50)))) ?_)
            refine wpF_run 1 [(51, vF)] (wpF_end (then_code (wpC_false (wpC_skip (inBlock_normal (then_code (wpC_region (wpF_run 1 [(36, (vI i))] (wpF_step (op_in (some 37) .i64 (IntKind.i64.wrap (((i : Nat) : Int) + ((1 : Nat) : Int))) (i + 1) (wrapS (by omega) (by omega) (by omega)) ?_))))))))))
            refine wpF_run 1 [(9, (vI (i + 1)))] (wpF_end (then_normal (endR_mk (i + 1) ?_ ?_)))
            · exact ⟨by omega, by omega, fun k h1 h2 => by rcases Nat.lt_or_ge k i with h3 | h3; exact hz k h1 h3; rw [show k = i by omega]; exact ⟨hq43, hq50⟩, hEl⟩
            · first | omega | (dsimp only; omega)
          · refine wpF_step (op_v (some 50) (bo .neq 38 (.tmp 48) (.tmp 49) (vA (entC (x.es.get i))) (vA (entC Ent.zero))) vT (run_neqAgg (r := false) (T := 38) ((run_eq_ent (dd := 9997) (t := 38) (t8 := 5) (td := 33) (e := 5) (x.es.get i) Ent.zero).trans (congrArg (fun b => Result.ok b _) (show ((x.es.get i).eqb Ent.zero) = false from hq50)))) ?_)
            refine wpF_run 1 [(51, vT)] (wpF_end (then_code (wpC_true (wpC_seq (wpC_region (wpF_run 1 [(4, (vI 17))] (wpF_end (then_code (wpC_ret ?_)))))))))
            exact inBlock_ret (then_ret (then_ret (inBlock_ret (then_ret (body_rets (vI 17) (⟨congrArg (fun z : Nat => vI z) (by rw [fitV_in (by omega) hin, emp_badE hpi (by omega) hq50]; rfl), (hEw1.trans hEl)⟩))))))
        · refine wpF_step (op_v (some 43) (bo .neq 35 (.tmp 41) (.tmp 42) (vA (recC (x.rs.get i))) (vA (recC Rec.zero))) vT (run_neqAgg (r := false) (T := 35) ((run_eq_rec (dd := 9997) (t := 35) (t8 := 5) (tn := 31) (td := 33) (e := 5) (t32 := 28) (t64 := 29) (x.rs.get i) Rec.zero).trans (congrArg (fun b => Result.ok b _) (show ((x.rs.get i).eqb Rec.zero) = false from hq43)))) ?_)
          refine wpF_run 8 [(51, vT), (50, undef), (49, undef), (48, undef), (47, undef), (46, undef), (45, undef), (44, vT)] (wpF_end (then_code (wpC_true (wpC_seq (wpC_region (wpF_run 1 [(4, (vI 17))] (wpF_end (then_code (wpC_ret ?_)))))))))
          exact inBlock_ret (then_ret (then_ret (inBlock_ret (then_ret (body_rets (vI 17) (⟨congrArg (fun z : Nat => vI z) (by rw [fitV_in (by omega) hin, emp_badR hpi (by omega) hq43]; rfl), (hEw1.trans hEl)⟩))))))
      · replace hc35 : ¬ (i < 4) := by have := of_d_f hc35; omega
        refine wpF_end (then_code (wpC_false (wpC_exit (then_exit (then_exit (inBlock_exit (then_code (wpC_seq (wpC_region ?_)))))))))
        refine wpF_run 1 [(4, (vI 0))] (wpF_end (then_code (wpC_ret (body_rets (vI 0) ?_))))
        obtain rfl : i = 4 := by omega
        exact ⟨congrArg (fun z : Nat => vI z) (by rw [fitV_in (by omega) hin, if_pos (emp_iff.2 hz)]), (hEw1.trans hEl)⟩
    · refine wpF_step (op_call (some 28) (c_PartsBad ((n : Nat) : Int) ((x.lv : Nat) : Int) ((x.ix : Nat) : Int) _ (by first | omega | (simp only [Int.toNat_natCast]; omega))) ?_)
      rintro _ w5 ⟨rfl, hEw5⟩
      have hzw5 := hEw5.size
      refine wpF_run 5 [(8, (vI 1)), (7, (vI 0)), (30, (vI 1)), (29, (vI 0)), (20, (.tuple #[(vI 0), (vI 1)]))] (wpF_end (then_code (wpC_seq (wpC_seq (wpC_region (wpF_run 2 [(32, vT), (31, (vI 1))] (wpF_end (then_code (wpC_true ?_)))))))))
      exact wpC_seq (wpC_region (wpF_run 1 [(4, (vI 17))] (wpF_end (then_code (wpC_ret (then_ret (body_rets (vI 17) (⟨congrArg (fun z : Nat => vI z) ((fitV_out (by omega) hin).symm), ((hEw1.trans hEw2).trans hEw5)⟩))))))))

theorem c_NFitsBad (n : Int) (x : Nod)  (w : World) (hp0 : ¬ (1 ≤ n ∧ n ≤ 4096)) :
    Calls Tryd.prog 13 #[(.int .i64 n), (vA (nodC x))] w (Ret fun r w' => r = (vI 1) ∧ Ext w w') := by
  refine calls_of (n := 52) (σ := [(0, (.int .i64 n)), (1, (vA (nodC x)))]) Tryd.func13 rfl ?_
  refine wpC_seq (wpC_region (wpF_step (op_new (some 3) (Instr.box 41 (vA (nodC x))) (vP w.heap.size 0) (nodC x) 41 ?_)))
  intro w1 hBw1 hEw1
  have hzw1 := hEw1.size; have hlw1 := hBw1.lt
  refine wpF_run 1 [(4, (vI 0))] (wpF_end (then_code (wpC_seq (wpC_seq (wpC_region (wpF_run 1 [(10, (.int .i64 n))] (wpF_step (op_call (some 11) (c_CheckBad n _ (by omega)) ?_))))))))
  rintro _ _ ⟨rfl, rfl⟩
  refine wpF_run 1 [(5, (vI 1))] (wpF_end (then_code (wpC_seq (wpC_region (wpF_run 2 [(13, vT), (12, (vI 1))] (wpF_end (then_code (wpC_true (wpC_seq ?_)))))))))
  exact wpC_region (wpF_run 2 [(4, (vI 1)), (14, (vI 1))] (wpF_end (then_code (wpC_ret (then_ret (body_rets (vI 1) (⟨rfl, hEw1⟩)))))))

theorem c_rNFits (n : Nat) (x : Nod)  (w : World) (hp0 : 1 ≤ n) (hp1 : n ≤ 4096) :
    Calls Tryd.prog 24 #[(vI n), (vA (nodC x))] w (Ret fun r w' => r = (vI (fitV n x)) ∧ Ext w w') := by
  refine calls_of (n := 53) (σ := [(0, (vI n)), (1, (vA (nodC x)))]) Tryd.func24 rfl ?_
  have hlvx := x.hlv
  have hixx := x.hix
  have hcl := chkN_le x
  have h5 := hgt_le n
  refine wpC_seq (wpC_region (wpF_step (op_new (some 3) (Instr.box 41 (vA (nodC x))) (vP w.heap.size 0) (nodC x) 41 ?_)))
  intro w1 hBw1 hEw1
  have hzw1 := hEw1.size; have hlw1 := hBw1.lt
  refine wpF_run 1 [(4, (vI 0))] (wpF_end (then_code (wpC_seq (wpC_seq (wpC_region (wpF_run 1 [(7, (vI n))] (wpF_step (op_b (some 8) (decide (((n : Nat) : Int) < ((1 : Nat) : Int))) false (cmpDF (by omega)) ?_))))))))
  refine wpF_run 2 [(10, (vI n)), (9, vF)] (wpF_step (op_b (some 11) (decide (((n : Nat) : Int) > ((4096 : Nat) : Int))) false (cmpDF (by omega)) ?_))
  refine wpF_run 1 [(12, vF)] (wpF_end (then_code (wpC_false (wpC_skip (then_code (wpC_seq (wpC_region (wpF_step (op_v (some 13) (Instr.loadAt 41 (vP w.heap.size 0)) (vA (nodC x)) (rn_lda (vs := nodC x) (hBw1.all) (by rw [nodC_len]; kernel_rfl)) ?_)))))))))
  refine wpF_step (op_call (some 14) (c_rNCheck x _) ?_)
  rintro _ w2 ⟨rfl, hEw2⟩
  have hzw2 := hEw2.size
  refine wpF_run 1 [(5, (vI (chkN x)))] (wpF_end (then_code (wpC_seq (wpC_seq (wpC_region (wpF_run 1 [(15, (vI (chkN x)))] (wpF_step (op_split (some 16) ((((chkN x : Nat) : Int) != ((0 : Nat) : Int))) (fun hc16 => ?_) (fun hc16 => ?_)))))))))
  · replace hc16 : ¬ (chkN x = 0) := by have := of_ne_t hc16; omega
    refine wpF_end (then_code (wpC_true (wpC_seq (wpC_region (wpF_run 2 [(4, (vI (chkN x))), (17, (vI (chkN x)))] (wpF_end (then_code (wpC_ret (then_ret ?_)))))))))
    exact body_rets (vI (chkN x)) (⟨congrArg (fun z : Nat => vI z) (fitV_bad (by omega)), (hEw1.trans hEw2)⟩)
  · replace hc16 : chkN x = 0 := by have := of_ne_f hc16; omega
    refine wpF_end (then_code (wpC_false (wpC_skip (then_code (wpC_seq (wpC_seq (wpC_region (wpF_run 2 [(19, (vP w.heap.size 0)), (18, (vI n))] (wpF_step (op_v (some 20) (Instr.loadAt 5 (vP w.heap.size 0)) (vB x.lv) (rn_ld ((hBw1.ext hEw2).cell rfl)) ?_))))))))))
    refine wpF_step (op_in (some 21) .i64 (IntKind.i64.wrap ((x.lv : Nat) : Int)) x.lv (wrapS rfl (by omega) (by omega)) ?_)
    refine wpF_run 1 [(22, (vP w.heap.size 1))] (wpF_step (op_v (some 23) (Instr.loadAt 28 (vP w.heap.size 1)) (vW x.ix) (rn_ld ((hBw1.ext hEw2).cell rfl)) ?_))
    refine wpF_step (op_in (some 24) .i64 (IntKind.i64.wrap ((x.ix : Nat) : Int)) x.ix (wrapS rfl (by omega) (by omega)) ?_)
    rcases Classical.em (x.lv ≤ hgt n ∧ x.ix < cnt n x.lv) with hin | hin
    · have hcn := cnt_n n x.lv
      refine wpF_step (op_call (some 25) (c_rIs n x.lv x.ix _ (by omega) (by omega) (by first | omega | (simp only [Int.toNat_natCast]; omega)) (by omega)) ?_)
      rintro _ _ ⟨rfl, rfl⟩
      refine wpF_run 1 [(26, vF)] (wpF_end (then_code (wpC_false (wpC_skip (then_code (wpC_seq (wpC_seq (wpC_region (wpF_run 2 [(28, (vP w.heap.size 0)), (27, (vI n))] ?_)))))))))
      refine wpF_step (op_v (some 29) (Instr.loadAt 5 (vP w.heap.size 0)) (vB x.lv) (rn_ld ((hBw1.ext hEw2).cell rfl)) ?_)
      refine wpF_step (op_in (some 30) .i64 (IntKind.i64.wrap ((x.lv : Nat) : Int)) x.lv (wrapS rfl (by omega) (by omega)) ?_)
      refine wpF_run 1 [(31, (vP w.heap.size 1))] (wpF_step (op_v (some 32) (Instr.loadAt 28 (vP w.heap.size 1)) (vW x.ix) (rn_ld ((hBw1.ext hEw2).cell rfl)) ?_))
      refine wpF_step (op_in (some 33) .i64 (IntKind.i64.wrap ((x.ix : Nat) : Int)) x.ix (wrapS rfl (by omega) (by omega)) ?_)
      refine wpF_step (op_call (some 34) (c_rParts n x.lv x.ix _ (by omega) (by omega) (by omega) (by omega)) ?_)
      rintro _ _ ⟨rfl, rfl⟩
      refine wpF_run 1 [(6, (vI (prt n x.lv x.ix)))] (wpF_end (then_code (wpC_block (wpC_loop (X := Nat) (fun i => [(6, (vI i))]) [4, 35, 36, 37, 38, 39, 40, 41, 42, 43, 44, 45, 46, 47, 48, 49, 50, 51, 52] (fun i w3 => prt n x.lv x.ix ≤ i ∧ i ≤ 4 ∧ (∀ k, prt n x.lv x.ix ≤ k → k < i → (x.rs.get k).eqb Rec.zero = true ∧ (x.es.get k).eqb Ent.zero = true) ∧ Ext w1 w3) (fun i => 4 - i) (prt n x.lv x.ix) (by kernel_rfl) ⟨Nat.le_refl _, prt_le _ _ _, fun k h1 h2 => absurd h1 (by omega), hEw2⟩ ?_))))
      rintro i dw3 w3 ⟨hpi, hi, hz, hEl⟩
      have hzl := hEl.size
      refine wpC_seq (wpC_seq (wpC_region (wpF_run 1 [(35, (vI i))] (wpF_step (op_split (some 36) (decide (((i : Nat) : Int) < ((4 : Nat) : Int))) (fun hc36 => ?_) (fun hc36 => ?_))))))
      · replace hc36 : i < 4 := by have := of_d_t hc36; omega
        refine wpF_end (then_code (wpC_true (wpC_skip (then_code (wpC_seq (wpC_block (wpC_seq (wpC_region (wpF_run 2 [(40, (vP w.heap.size 2)), (39, (vI i))] ?_)))))))))
        refine wpF_step (op_v (some 41) (Instr.indexAt 36 (vP w.heap.size 2) (vI i)) (vP w.heap.size (2 + i * 35)) (rn_ixa (E := 35) (sz := 35) (m := 4) (by omega)) ?_)
        refine wpF_step (op_v (some 42) (Instr.loadAt 35 (vP w.heap.size (2 + i * 35))) (vA (recC (x.rs.get i))) (rn_lda (vs := recC (x.rs.get i)) ((hBw1.ext hEl).at (2 + i * 35) (recC (x.rs.get i)) (nod_r (by omega))) (by rw [recC_len]; kernel_rfl)) ?_)
        refine wpF_run 1 [(43, (vA (recC Rec.zero)))] ?_
        rcases Bool.eq_false_or_eq_true ((x.rs.get i).eqb Rec.zero) with hq44 | hq44
        · refine wpF_step (op_v (some 44) (bo .neq 35 (.tmp 42) (.tmp 43) (vA (recC (x.rs.get i))) (vA (recC Rec.zero))) vF (run_neqAgg (r := true) (T := 35) ((run_eq_rec (dd := 9997) (t := 35) (t8 := 5) (tn := 31) (td := 33) (e := 5) (t32 := 28) (t64 := 29) (x.rs.get i) Rec.zero).trans (congrArg (fun b => Result.ok b _) (show ((x.rs.get i).eqb Rec.zero) = true from hq44)))) ?_)
          refine wpF_run 3 [(47, (vP w.heap.size 142)), (46, (vI i)), (45, vF)] (wpF_step (op_v (some 48) (Instr.indexAt 39 (vP w.heap.size 142) (vI i)) (vP w.heap.size (142 + i * 33)) (rn_ixa (E := 38) (sz := 33) (m := 4) (by omega)) ?_))
          refine wpF_step (op_v (some 49) (Instr.loadAt 38 (vP w.heap.size (142 + i * 33))) (vA (entC (x.es.get i))) (rn_lda (vs := entC (x.es.get i)) ((hBw1.ext hEl).at (142 + i * 33) (entC (x.es.get i)) (nod_e (by omega))) (by rw [entC_len]; kernel_rfl)) ?_)
          refine wpF_run 1 [(50, (vA (entC Ent.zero)))] ?_
          rcases Bool.eq_false_or_eq_true ((x.es.get i).eqb Ent.zero) with hq51 | hq51
          · refine wpF_step (op_v (some 51) (bo .neq 38 (.tmp 49) (.tmp 50) (vA (entC (x.es.get i))) (vA (entC Ent.zero))) vF (run_neqAgg (r := true) (T := 38) ((run_eq_ent (dd := 9997) (t := 38) (t8 := 5) (td := 33) (e := 5) (x.es.get i) Ent.zero).trans (congrArg (fun b => Result.ok b _) (show ((x.es.get i).eqb Ent.zero) = true from hq51)))) ?_)
            refine wpF_run 1 [(52, vF)] (wpF_end (then_code (wpC_false (wpC_skip (inBlock_normal (then_code (wpC_region (wpF_run 1 [(37, (vI i))] (wpF_step (op_in (some 38) .i64 (IntKind.i64.wrap (((i : Nat) : Int) + ((1 : Nat) : Int))) (i + 1) (wrapS (by omega) (by omega) (by omega)) ?_))))))))))
            refine wpF_run 1 [(6, (vI (i + 1)))] (wpF_end (then_normal (endR_mk (i + 1) ?_ ?_)))
            · exact ⟨by omega, by omega, fun k h1 h2 => by rcases Nat.lt_or_ge k i with h3 | h3; exact hz k h1 h3; rw [show k = i by omega]; exact ⟨hq44, hq51⟩, hEl⟩
            · first | omega | (dsimp only; omega)
          · refine wpF_step (op_v (some 51) (bo .neq 38 (.tmp 49) (.tmp 50) (vA (entC (x.es.get i))) (vA (entC Ent.zero))) vT (run_neqAgg (r := false) (T := 38) ((run_eq_ent (dd := 9997) (t := 38) (t8 := 5) (td := 33) (e := 5) (x.es.get i) Ent.zero).trans (congrArg (fun b => Result.ok b _) (show ((x.es.get i).eqb Ent.zero) = false from hq51)))) ?_)
            refine wpF_run 1 [(52, vT)] (wpF_end (then_code (wpC_true (wpC_seq (wpC_region (wpF_run 1 [(4, (vI 17))] (wpF_end (then_code (wpC_ret ?_)))))))))
            exact inBlock_ret (then_ret (then_ret (inBlock_ret (then_ret (body_rets (vI 17) (⟨congrArg (fun z : Nat => vI z) (by rw [fitV_in (by omega) hin, emp_badE hpi (by omega) hq51]; rfl), (hEw1.trans hEl)⟩))))))
        · refine wpF_step (op_v (some 44) (bo .neq 35 (.tmp 42) (.tmp 43) (vA (recC (x.rs.get i))) (vA (recC Rec.zero))) vT (run_neqAgg (r := false) (T := 35) ((run_eq_rec (dd := 9997) (t := 35) (t8 := 5) (tn := 31) (td := 33) (e := 5) (t32 := 28) (t64 := 29) (x.rs.get i) Rec.zero).trans (congrArg (fun b => Result.ok b _) (show ((x.rs.get i).eqb Rec.zero) = false from hq44)))) ?_)
          refine wpF_run 8 [(52, vT), (51, undef), (50, undef), (49, undef), (48, undef), (47, undef), (46, undef), (45, vT)] (wpF_end (then_code (wpC_true (wpC_seq (wpC_region (wpF_run 1 [(4, (vI 17))] (wpF_end (then_code (wpC_ret ?_)))))))))
          exact inBlock_ret (then_ret (then_ret (inBlock_ret (then_ret (body_rets (vI 17) (⟨congrArg (fun z : Nat => vI z) (by rw [fitV_in (by omega) hin, emp_badR hpi (by omega) hq44]; rfl), (hEw1.trans hEl)⟩))))))
      · replace hc36 : ¬ (i < 4) := by have := of_d_f hc36; omega
        refine wpF_end (then_code (wpC_false (wpC_exit (then_exit (then_exit (inBlock_exit (then_code (wpC_seq (wpC_region ?_)))))))))
        refine wpF_run 1 [(4, (vI 0))] (wpF_end (then_code (wpC_ret (body_rets (vI 0) ?_))))
        obtain rfl : i = 4 := by omega
        exact ⟨congrArg (fun z : Nat => vI z) (by rw [fitV_in (by omega) hin, if_pos (emp_iff.2 hz)]), (hEw1.trans hEl)⟩
    · refine wpF_step (op_call (some 25) (c_rIsBad n ((x.lv : Nat) : Int) ((x.ix : Nat) : Int) _ (by omega) (by omega) (by first | omega | (simp only [Int.toNat_natCast]; omega))) ?_)
      rintro _ _ ⟨rfl, rfl⟩
      refine wpF_run 1 [(26, vT)] (wpF_end (then_code (wpC_true (wpC_seq (wpC_region (wpF_run 1 [(4, (vI 17))] (wpF_end (then_code (wpC_ret ?_)))))))))
      exact then_ret (body_rets (vI 17) (⟨congrArg (fun z : Nat => vI z) ((fitV_out (by omega) hin).symm), (hEw1.trans hEw2)⟩))

theorem c_rNFitsB1 (n : Int) (x : Nod)  (w : World) (hp0 : n < 1) :
    Calls Tryd.prog 24 #[(.int .i64 n), (vA (nodC x))] w (Ret fun r w' => r = (vI 1) ∧ Ext w w') := by
  refine calls_of (n := 53) (σ := [(0, (.int .i64 n)), (1, (vA (nodC x)))]) Tryd.func24 rfl ?_
  refine wpC_seq (wpC_region (wpF_step (op_new (some 3) (Instr.box 41 (vA (nodC x))) (vP w.heap.size 0) (nodC x) 41 ?_)))
  intro w1 hBw1 hEw1
  have hzw1 := hEw1.size; have hlw1 := hBw1.lt
  refine wpF_run 1 [(4, (vI 0))] (wpF_end (then_code (wpC_seq (wpC_seq (wpC_region (wpF_run 1 [(7, (.int .i64 n))] (wpF_step (op_b (some 8) (decide (n < ((1 : Nat) : Int))) true (cmpDT (by omega)) ?_))))))))
  refine wpF_run 4 [(12, vT), (11, undef), (10, undef), (9, vT)] (wpF_end (then_code (wpC_true (wpC_seq (wpC_region (wpF_run 1 [(4, (vI 1))] (wpF_end (then_code (wpC_ret ?_)))))))))
  exact then_ret (body_rets (vI 1) (⟨rfl, hEw1⟩))

theorem c_rNFitsB2 (n : Int) (x : Nod)  (w : World) (hp0 : n > 4096) :
    Calls Tryd.prog 24 #[(.int .i64 n), (vA (nodC x))] w (Ret fun r w' => r = (vI 1) ∧ Ext w w') := by
  refine calls_of (n := 53) (σ := [(0, (.int .i64 n)), (1, (vA (nodC x)))]) Tryd.func24 rfl ?_
  refine wpC_seq (wpC_region (wpF_step (op_new (some 3) (Instr.box 41 (vA (nodC x))) (vP w.heap.size 0) (nodC x) 41 ?_)))
  intro w1 hBw1 hEw1
  have hzw1 := hEw1.size; have hlw1 := hBw1.lt
  refine wpF_run 1 [(4, (vI 0))] (wpF_end (then_code (wpC_seq (wpC_seq (wpC_region (wpF_run 1 [(7, (.int .i64 n))] (wpF_step (op_b (some 8) (decide (n < ((1 : Nat) : Int))) false (cmpDF (by omega)) ?_))))))))
  refine wpF_run 2 [(10, (.int .i64 n)), (9, vF)] (wpF_step (op_b (some 11) (decide (n > ((4096 : Nat) : Int))) true (cmpDT (by omega)) ?_))
  refine wpF_run 1 [(12, vT)] (wpF_end (then_code (wpC_true (wpC_seq (wpC_region (wpF_run 1 [(4, (vI 1))] (wpF_end (then_code (wpC_ret ?_)))))))))
  exact then_ret (body_rets (vI 1) (⟨rfl, hEw1⟩))

theorem c_rNFitsBad (n : Int) (x : Nod)  (w : World) (hp0 : ¬ (1 ≤ n ∧ n ≤ 4096)) :
    Calls Tryd.prog 24 #[(.int .i64 n), (vA (nodC x))] w (Ret fun r w' => r = (vI 1) ∧ Ext w w') := by
  by_cases h : n < 1
  · exact c_rNFitsB1 n x w h
  · exact c_rNFitsB2 n x w (by omega)

theorem c_whole0 {lo_b hi_b : Nat} {a_b : Option Addr} {n_b c_b : Nat} {b : List UInt8}  (w : World) (h_b : Bs lo_b hi_b w a_b n_b c_b b) (hp0 : n_b = 185) (hp1 : byt b 0 = 0) :
    Calls Tryd.prog 17 #[(.slice a_b n_b c_b)] w (Ret fun r w' => r = (vI (1 - ckL b 4)) ∧ w = w') := by
  refine calls_of (n := 46) (σ := [(0, (.slice a_b n_b c_b))]) Tryd.func17 rfl ?_
  replace h_b := h_b.now; have hle_b := h_b.le
  have hlen := h_b.len_eq
  refine wpC_seq (wpC_region (wpF_run 1 [(2, (vI 0))] (wpF_end (then_code (wpC_seq (wpC_region (wpF_run 2 [(8, (vI n_b)), (7, (.slice a_b n_b c_b))] (wpF_step (op_in (some 9) .i64 (IntKind.i64.wrap (((n_b : Nat) : Int) - ((5 : Nat) : Int))) (n_b - 5) (wrapS (by omega) (by omega) (by omega)) ?_)))))))))
  refine wpF_step (op_in (some 10) .i64 (IntKind.i64.wrap (((n_b - 5 : Nat) : Int).tdiv ((4 : Nat) : Int))) 45 (by rw [show n_b - 5 = 180 from by omega]; rfl) ?_)
  refine wpF_run 1 [(3, (vI 45))] (wpF_end (then_code (wpC_seq (wpC_seq (wpC_region (wpF_run 1 [(4, (vI 0))] (wpF_end (then_code (wpC_block ?_)))))))))
  refine wpC_loop (X := Nat) (fun i => [(4, (vI i))]) [2, 5, 6, 11, 12, 13, 14, 15, 16, 17, 18, 19, 20, 21, 22, 23, 24, 25, 26, 27, 28, 29, 30, 31, 32, 33, 34, 35, 36, 37, 38, 39, 40, 41, 42, 43, 44, 45] (fun i w1 => w = w1 ∧ i ≤ 4 ∧ ckL b i = 0) (fun i => 4 - i) 0 (by kernel_rfl) ⟨rfl, by omega, ckL_zero b⟩ ?_
  rintro i dw1 w1 ⟨rfl, hi, hck⟩
  have hlen := h_b.len_eq
  refine wpC_seq (wpC_seq (wpC_region (wpF_run 1 [(11, (vI i))] (wpF_step (op_split (some 12) (decide (((i : Nat) : Int) < ((4 : Nat) : Int))) (fun hc12 => ?_) (fun hc12 => ?_))))))
  · replace hc12 : i < 4 := by have := of_d_t hc12; omega
    refine wpF_end (then_code (wpC_true (wpC_skip (then_code (wpC_seq (wpC_block (wpC_seq (wpC_region (wpF_run 3 [(17, (vI 45)), (16, (vI i)), (15, (.slice a_b n_b c_b))] ?_)))))))))
    refine wpF_step (op_in (some 18) .i64 (IntKind.i64.wrap (((i : Nat) : Int) * ((45 : Nat) : Int))) (i * 45) (wrapS (by omega) (by omega) (by omega)) ?_)
    refine wpF_step (op_in (some 19) .i64 (IntKind.i64.wrap (((5 : Nat) : Int) + ((i * 45 : Nat) : Int))) (5 + (i * 45)) (wrapS (by omega) (by omega) (by omega)) ?_)
    refine wpF_run 1 [(20, (vI i))] (wpF_step (op_in (some 21) .i64 (IntKind.i64.wrap (((i : Nat) : Int) + ((1 : Nat) : Int))) (i + 1) (wrapS (by omega) (by omega) (by omega)) ?_))
    refine wpF_run 1 [(22, (vI 45))] (wpF_step (op_in (some 23) .i64 (IntKind.i64.wrap (((i + 1 : Nat) : Int) * ((45 : Nat) : Int))) ((i + 1) * 45) (wrapS (by omega) (by omega) (by omega)) ?_))
    refine wpF_step (op_in (some 24) .i64 (IntKind.i64.wrap (((5 : Nat) : Int) + (((i + 1) * 45 : Nat) : Int))) (5 + ((i + 1) * 45)) (wrapS (by omega) (by omega) (by omega)) ?_)
    obtain ⟨a1, hR1, hS1⟩ := h_b.slice Tryd.prog 44 5 (5 + (i * 45)) (5 + ((i + 1) * 45)) c_b (some (vI (5 + (i * 45)))) (some (vI (5 + ((i + 1) * 45)))) none
    refine wpF_step (op_v (some 25) (Instr.sliceAt 44 (.slice a_b n_b c_b) (some (vI (5 + (i * 45)))) (some (vI (5 + ((i + 1) * 45)))) none) (.slice a1 (5 + ((i + 1) * 45) - (5 + (i * 45))) (c_b - (5 + (i * 45)))) (hR1 _) ?_)
    have hPb1 : Bs lo_b w.heap.size w a1 45 (c_b - (5 + (i * 45))) (prtB b 45 i) := by have hq := hS1; rw [show (b.drop (5 + (i * 45))).take (5 + ((i + 1) * 45) - (5 + (i * 45))) = prtB b 45 i from by rw [prtB]; congr 1; omega, show 5 + ((i + 1) * 45) - (5 + (i * 45)) = 45 from by omega] at hq; exact hq
    rw [show 5 + ((i + 1) * 45) - (5 + (i * 45)) = 45 from by omega]
    refine wpF_run 1 [(5, (.slice a1 45 (c_b - (5 + (i * 45)))))] (wpF_end (then_code (wpC_seq (wpC_seq (wpC_region (wpF_run 1 [(26, (.slice a1 45 (c_b - (5 + (i * 45)))))] ?_))))))
    obtain ⟨b1, o1, rfl⟩ := hPb1.addr (by omega)
    refine wpF_step (op_v (some 27) (Instr.indexAt 44 (.slice (pA b1 o1) 45 (c_b - (5 + (i * 45)))) (vI 0)) (vP b1 (o1 + 0 * 1)) (rn_ixs (E := 5) (sz := 1) (by omega)) ?_)
    refine wpF_step (op_v (some 28) (Instr.loadAt 5 (vP b1 (o1 + 0 * 1))) (vB (byt (prtB b 45 i) 0)) (rn_ld (hPb1.cell1 (by omega))) ?_)
    refine wpF_step (op_split (some 29) (decide (((byt (prtB b 45 i) 0 : Nat) : Int) > ((2 : Nat) : Int))) (fun hc29 => ?_) (fun hc29 => ?_))
    · replace hc29 : byt (prtB b 45 i) 0 > 2 := by have := of_d_t hc29; omega
      refine wpF_end (then_code (wpC_true (wpC_seq (wpC_region (wpF_run 1 [(2, (vI 0))] (wpF_end (then_code (wpC_ret (then_ret ?_)))))))))
      refine inBlock_ret (then_ret (then_ret (inBlock_ret (then_ret (body_rets (vI 0) ?_)))))
      rw [ckL_badR (i := i) (by omega) hp1 (chkR_big (by omega))]; exact ⟨rfl, rfl⟩
    · replace hc29 : ¬ (byt (prtB b 45 i) 0 > 2) := by have := of_d_f hc29; omega
      refine wpF_end (then_code (wpC_false (wpC_skip (then_code (wpC_seq (wpC_region (wpF_run 1 [(6, (vI 1))] (wpF_end (then_code ?_)))))))))
      refine wpC_block (wpC_loop (X := Nat) (fun t => [(6, (vI (t + 1)))]) [2, 30, 31, 32, 33, 34, 35, 36, 37, 38, 39, 40, 41, 42, 43, 44, 45] (fun t w2 => w = w2 ∧ t ≤ 44 ∧ (byt (prtB b 45 i) 0 = 0 → sumB (prtB b 45 i) t = 0)) (fun t => 45 - t) 0 (by kernel_rfl) ⟨rfl, by omega, fun _ => rfl⟩ ?_)
      rintro t dw2 w2 ⟨rfl, ht, hs⟩
      have hpl := prtB_len (l := b) (sz := 45) (i := i) (by omega) (by omega)
      have hst := sumB_step (l := prtB b 45 i) (t := t)
      refine wpC_seq (wpC_seq (wpC_region (wpF_run 2 [(31, (vI 45)), (30, (vI (t + 1)))] (wpF_step (op_split (some 32) (decide (((t + 1 : Nat) : Int) < ((45 : Nat) : Int))) (fun hc32 => ?_) (fun hc32 => ?_))))))
      · replace hc32 : t + 1 < 45 := by have := of_d_t hc32; omega
        refine wpF_end (then_code (wpC_true (wpC_skip (then_code (wpC_seq (wpC_block (wpC_seq (wpC_region (wpF_run 1 [(35, (.slice (pA b1 o1) 45 (c_b - (5 + (i * 45)))))] ?_)))))))))
        refine wpF_step (op_v (some 36) (Instr.indexAt 44 (.slice (pA b1 o1) 45 (c_b - (5 + (i * 45)))) (vI 0)) (vP b1 (o1 + 0 * 1)) (rn_ixs (E := 5) (sz := 1) (by omega)) ?_)
        refine wpF_step (op_v (some 37) (Instr.loadAt 5 (vP b1 (o1 + 0 * 1))) (vB (byt (prtB b 45 i) 0)) (rn_ld (hPb1.cell1 (by omega))) ?_)
        refine wpF_step (op_split (some 38) ((((byt (prtB b 45 i) 0 : Nat) : Int) == ((0 : Nat) : Int))) (fun hc38 => ?_) (fun hc38 => ?_))
        · replace hc38 : byt (prtB b 45 i) 0 = 0 := by have := of_eq_t hc38; omega
          refine wpF_run 3 [(41, (vI (t + 1))), (40, (.slice (pA b1 o1) 45 (c_b - (5 + (i * 45))))), (39, vT)] (wpF_step (op_v (some 42) (Instr.indexAt 44 (.slice (pA b1 o1) 45 (c_b - (5 + (i * 45)))) (vI (t + 1))) (vP b1 (o1 + (t + 1) * 1)) (rn_ixs (E := 5) (sz := 1) (by omega)) ?_))
          refine wpF_step (op_v (some 43) (Instr.loadAt 5 (vP b1 (o1 + (t + 1) * 1))) (vB (byt (prtB b 45 i) (t + 1))) (rn_ld (hPb1.cell1 (by omega))) ?_)
          refine wpF_step (op_split (some 44) ((((byt (prtB b 45 i) (t + 1) : Nat) : Int) != ((0 : Nat) : Int))) (fun hc44 => ?_) (fun hc44 => ?_))
          · replace hc44 : ¬ (byt (prtB b 45 i) (t + 1) = 0) := by have := of_ne_t hc44; omega
            refine wpF_run 1 [(45, vT)] (wpF_end (then_code (wpC_true (wpC_seq (wpC_region (wpF_run 1 [(2, (vI 0))] (wpF_end (then_code (wpC_ret ?_)))))))))
            refine inBlock_ret (then_ret (then_ret (inBlock_ret (inBlock_ret (then_ret (then_ret (inBlock_ret (then_ret (body_rets (vI 0) ?_)))))))))
            rw [ckL_badR (i := i) (by omega) hp1 (chkR_pos hpl (by omega) (sumB_gt (t := t) (by omega) (by omega) (by omega)))]; exact ⟨rfl, rfl⟩
          · replace hc44 : byt (prtB b 45 i) (t + 1) = 0 := by have := of_ne_f hc44; omega
            refine wpF_run 1 [(45, vF)] (wpF_end (then_code (wpC_false (wpC_skip (inBlock_normal (then_code (wpC_region (wpF_run 1 [(33, (vI (t + 1)))] (wpF_step (op_in (some 34) .i64 (IntKind.i64.wrap (((t + 1 : Nat) : Int) + ((1 : Nat) : Int))) (t + 1 + 1) (wrapS (by omega) (by omega) (by omega)) ?_))))))))))
            refine wpF_run 1 [(6, (vI (t + 1 + 1)))] (wpF_end (then_normal (endR_mk (t + 1) ?_ ?_)))
            · exact ⟨rfl, by omega, fun h0 => by rw [sumB_step (by omega), hs h0]; omega⟩
            · first | omega | (dsimp only; omega)
        · replace hc38 : ¬ (byt (prtB b 45 i) 0 = 0) := by have := of_eq_f hc38; omega
          refine wpF_run 7 [(45, vF), (44, undef), (43, undef), (42, undef), (41, undef), (40, undef), (39, vF)] (wpF_end (then_code (wpC_false (wpC_skip (inBlock_normal (then_code (wpC_region (wpF_run 1 [(33, (vI (t + 1)))] (wpF_step (op_in (some 34) .i64 (IntKind.i64.wrap (((t + 1 : Nat) : Int) + ((1 : Nat) : Int))) (t + 1 + 1) (wrapS (by omega) (by omega) (by omega)) ?_))))))))))
          refine wpF_run 1 [(6, (vI (t + 1 + 1)))] (wpF_end (then_normal (endR_mk (t + 1) ?_ ?_)))
          · exact ⟨rfl, by omega, fun h0 => by rw [sumB_step (by omega), hs h0]; omega⟩
          · first | omega | (dsimp only; omega)
      · replace hc32 : ¬ (t + 1 < 45) := by have := of_d_f hc32; omega
        refine wpF_end (then_code (wpC_false (wpC_exit (then_exit (then_exit (inBlock_exit (inBlock_normal (then_code (wpC_region ?_)))))))))
        refine wpF_run 1 [(13, (vI i))] (wpF_step (op_in (some 14) .i64 (IntKind.i64.wrap (((i : Nat) : Int) + ((1 : Nat) : Int))) (i + 1) (wrapS (by omega) (by omega) (by omega)) ?_))
        refine wpF_run 1 [(4, (vI (i + 1)))] (wpF_end (then_normal (endR_mk (i + 1) ?_ ?_)))
        · exact ⟨rfl, by omega, ckL_R hck hp1 (chkR_end (prtB_len (by omega) (by omega)) (by omega) (fun h0 => by have hq := hs h0; rwa [show t = 44 from by omega] at hq))⟩
        · first | omega | (dsimp only; omega)
  · replace hc12 : ¬ (i < 4) := by have := of_d_f hc12; omega
    refine wpF_end (then_code (wpC_false (wpC_exit (then_exit (then_exit (inBlock_exit (then_code (wpC_seq (wpC_region ?_)))))))))
    refine wpF_run 1 [(2, (vI 1))] (wpF_end (then_code (wpC_ret (body_rets (vI 1) ?_))))
    obtain rfl : i = 4 := by omega
    rw [hck]; exact ⟨rfl, rfl⟩

theorem c_whole1 {lo_b hi_b : Nat} {a_b : Option Addr} {n_b c_b : Nat} {b : List UInt8}  (w : World) (h_b : Bs lo_b hi_b w a_b n_b c_b b) (hp0 : n_b = 137) (hp1 : ¬ byt b 0 = 0) :
    Calls Tryd.prog 17 #[(.slice a_b n_b c_b)] w (Ret fun r w' => r = (vI (1 - ckL b 4)) ∧ w = w') := by
  refine calls_of (n := 46) (σ := [(0, (.slice a_b n_b c_b))]) Tryd.func17 rfl ?_
  replace h_b := h_b.now; have hle_b := h_b.le
  have hlen := h_b.len_eq
  refine wpC_seq (wpC_region (wpF_run 1 [(2, (vI 0))] (wpF_end (then_code (wpC_seq (wpC_region (wpF_run 2 [(8, (vI n_b)), (7, (.slice a_b n_b c_b))] (wpF_step (op_in (some 9) .i64 (IntKind.i64.wrap (((n_b : Nat) : Int) - ((5 : Nat) : Int))) (n_b - 5) (wrapS (by omega) (by omega) (by omega)) ?_)))))))))
  refine wpF_step (op_in (some 10) .i64 (IntKind.i64.wrap (((n_b - 5 : Nat) : Int).tdiv ((4 : Nat) : Int))) 33 (by rw [show n_b - 5 = 132 from by omega]; rfl) ?_)
  refine wpF_run 1 [(3, (vI 33))] (wpF_end (then_code (wpC_seq (wpC_seq (wpC_region (wpF_run 1 [(4, (vI 0))] (wpF_end (then_code (wpC_block ?_)))))))))
  refine wpC_loop (X := Nat) (fun i => [(4, (vI i))]) [2, 5, 6, 11, 12, 13, 14, 15, 16, 17, 18, 19, 20, 21, 22, 23, 24, 25, 26, 27, 28, 29, 30, 31, 32, 33, 34, 35, 36, 37, 38, 39, 40, 41, 42, 43, 44, 45] (fun i w1 => w = w1 ∧ i ≤ 4 ∧ ckL b i = 0) (fun i => 4 - i) 0 (by kernel_rfl) ⟨rfl, by omega, ckL_zero b⟩ ?_
  rintro i dw1 w1 ⟨rfl, hi, hck⟩
  have hlen := h_b.len_eq
  refine wpC_seq (wpC_seq (wpC_region (wpF_run 1 [(11, (vI i))] (wpF_step (op_split (some 12) (decide (((i : Nat) : Int) < ((4 : Nat) : Int))) (fun hc12 => ?_) (fun hc12 => ?_))))))
  · replace hc12 : i < 4 := by have := of_d_t hc12; omega
    refine wpF_end (then_code (wpC_true (wpC_skip (then_code (wpC_seq (wpC_block (wpC_seq (wpC_region (wpF_run 3 [(17, (vI 33)), (16, (vI i)), (15, (.slice a_b n_b c_b))] ?_)))))))))
    refine wpF_step (op_in (some 18) .i64 (IntKind.i64.wrap (((i : Nat) : Int) * ((33 : Nat) : Int))) (i * 33) (wrapS (by omega) (by omega) (by omega)) ?_)
    refine wpF_step (op_in (some 19) .i64 (IntKind.i64.wrap (((5 : Nat) : Int) + ((i * 33 : Nat) : Int))) (5 + (i * 33)) (wrapS (by omega) (by omega) (by omega)) ?_)
    refine wpF_run 1 [(20, (vI i))] (wpF_step (op_in (some 21) .i64 (IntKind.i64.wrap (((i : Nat) : Int) + ((1 : Nat) : Int))) (i + 1) (wrapS (by omega) (by omega) (by omega)) ?_))
    refine wpF_run 1 [(22, (vI 33))] (wpF_step (op_in (some 23) .i64 (IntKind.i64.wrap (((i + 1 : Nat) : Int) * ((33 : Nat) : Int))) ((i + 1) * 33) (wrapS (by omega) (by omega) (by omega)) ?_))
    refine wpF_step (op_in (some 24) .i64 (IntKind.i64.wrap (((5 : Nat) : Int) + (((i + 1) * 33 : Nat) : Int))) (5 + ((i + 1) * 33)) (wrapS (by omega) (by omega) (by omega)) ?_)
    obtain ⟨a1, hR1, hS1⟩ := h_b.slice Tryd.prog 44 5 (5 + (i * 33)) (5 + ((i + 1) * 33)) c_b (some (vI (5 + (i * 33)))) (some (vI (5 + ((i + 1) * 33)))) none
    refine wpF_step (op_v (some 25) (Instr.sliceAt 44 (.slice a_b n_b c_b) (some (vI (5 + (i * 33)))) (some (vI (5 + ((i + 1) * 33)))) none) (.slice a1 (5 + ((i + 1) * 33) - (5 + (i * 33))) (c_b - (5 + (i * 33)))) (hR1 _) ?_)
    have hPb1 : Bs lo_b w.heap.size w a1 33 (c_b - (5 + (i * 33))) (prtB b 33 i) := by have hq := hS1; rw [show (b.drop (5 + (i * 33))).take (5 + ((i + 1) * 33) - (5 + (i * 33))) = prtB b 33 i from by rw [prtB]; congr 1; omega, show 5 + ((i + 1) * 33) - (5 + (i * 33)) = 33 from by omega] at hq; exact hq
    rw [show 5 + ((i + 1) * 33) - (5 + (i * 33)) = 33 from by omega]
    refine wpF_run 1 [(5, (.slice a1 33 (c_b - (5 + (i * 33)))))] (wpF_end (then_code (wpC_seq (wpC_seq (wpC_region (wpF_run 1 [(26, (.slice a1 33 (c_b - (5 + (i * 33)))))] ?_))))))
    obtain ⟨b1, o1, rfl⟩ := hPb1.addr (by omega)
    refine wpF_step (op_v (some 27) (Instr.indexAt 44 (.slice (pA b1 o1) 33 (c_b - (5 + (i * 33)))) (vI 0)) (vP b1 (o1 + 0 * 1)) (rn_ixs (E := 5) (sz := 1) (by omega)) ?_)
    refine wpF_step (op_v (some 28) (Instr.loadAt 5 (vP b1 (o1 + 0 * 1))) (vB (byt (prtB b 33 i) 0)) (rn_ld (hPb1.cell1 (by omega))) ?_)
    refine wpF_step (op_split (some 29) (decide (((byt (prtB b 33 i) 0 : Nat) : Int) > ((2 : Nat) : Int))) (fun hc29 => ?_) (fun hc29 => ?_))
    · replace hc29 : byt (prtB b 33 i) 0 > 2 := by have := of_d_t hc29; omega
      refine wpF_end (then_code (wpC_true (wpC_seq (wpC_region (wpF_run 1 [(2, (vI 0))] (wpF_end (then_code (wpC_ret (then_ret ?_)))))))))
      refine inBlock_ret (then_ret (then_ret (inBlock_ret (then_ret (body_rets (vI 0) ?_)))))
      rw [ckL_badE (i := i) (by omega) hp1 (chkE_big (by omega))]; exact ⟨rfl, rfl⟩
    · replace hc29 : ¬ (byt (prtB b 33 i) 0 > 2) := by have := of_d_f hc29; omega
      refine wpF_end (then_code (wpC_false (wpC_skip (then_code (wpC_seq (wpC_region (wpF_run 1 [(6, (vI 1))] (wpF_end (then_code ?_)))))))))
      refine wpC_block (wpC_loop (X := Nat) (fun t => [(6, (vI (t + 1)))]) [2, 30, 31, 32, 33, 34, 35, 36, 37, 38, 39, 40, 41, 42, 43, 44, 45] (fun t w2 => w = w2 ∧ t ≤ 32 ∧ (byt (prtB b 33 i) 0 = 0 → sumB (prtB b 33 i) t = 0)) (fun t => 33 - t) 0 (by kernel_rfl) ⟨rfl, by omega, fun _ => rfl⟩ ?_)
      rintro t dw2 w2 ⟨rfl, ht, hs⟩
      have hpl := prtB_len (l := b) (sz := 33) (i := i) (by omega) (by omega)
      have hst := sumB_step (l := prtB b 33 i) (t := t)
      refine wpC_seq (wpC_seq (wpC_region (wpF_run 2 [(31, (vI 33)), (30, (vI (t + 1)))] (wpF_step (op_split (some 32) (decide (((t + 1 : Nat) : Int) < ((33 : Nat) : Int))) (fun hc32 => ?_) (fun hc32 => ?_))))))
      · replace hc32 : t + 1 < 33 := by have := of_d_t hc32; omega
        refine wpF_end (then_code (wpC_true (wpC_skip (then_code (wpC_seq (wpC_block (wpC_seq (wpC_region (wpF_run 1 [(35, (.slice (pA b1 o1) 33 (c_b - (5 + (i * 33)))))] ?_)))))))))
        refine wpF_step (op_v (some 36) (Instr.indexAt 44 (.slice (pA b1 o1) 33 (c_b - (5 + (i * 33)))) (vI 0)) (vP b1 (o1 + 0 * 1)) (rn_ixs (E := 5) (sz := 1) (by omega)) ?_)
        refine wpF_step (op_v (some 37) (Instr.loadAt 5 (vP b1 (o1 + 0 * 1))) (vB (byt (prtB b 33 i) 0)) (rn_ld (hPb1.cell1 (by omega))) ?_)
        refine wpF_step (op_split (some 38) ((((byt (prtB b 33 i) 0 : Nat) : Int) == ((0 : Nat) : Int))) (fun hc38 => ?_) (fun hc38 => ?_))
        · replace hc38 : byt (prtB b 33 i) 0 = 0 := by have := of_eq_t hc38; omega
          refine wpF_run 3 [(41, (vI (t + 1))), (40, (.slice (pA b1 o1) 33 (c_b - (5 + (i * 33))))), (39, vT)] (wpF_step (op_v (some 42) (Instr.indexAt 44 (.slice (pA b1 o1) 33 (c_b - (5 + (i * 33)))) (vI (t + 1))) (vP b1 (o1 + (t + 1) * 1)) (rn_ixs (E := 5) (sz := 1) (by omega)) ?_))
          refine wpF_step (op_v (some 43) (Instr.loadAt 5 (vP b1 (o1 + (t + 1) * 1))) (vB (byt (prtB b 33 i) (t + 1))) (rn_ld (hPb1.cell1 (by omega))) ?_)
          refine wpF_step (op_split (some 44) ((((byt (prtB b 33 i) (t + 1) : Nat) : Int) != ((0 : Nat) : Int))) (fun hc44 => ?_) (fun hc44 => ?_))
          · replace hc44 : ¬ (byt (prtB b 33 i) (t + 1) = 0) := by have := of_ne_t hc44; omega
            refine wpF_run 1 [(45, vT)] (wpF_end (then_code (wpC_true (wpC_seq (wpC_region (wpF_run 1 [(2, (vI 0))] (wpF_end (then_code (wpC_ret ?_)))))))))
            refine inBlock_ret (then_ret (then_ret (inBlock_ret (inBlock_ret (then_ret (then_ret (inBlock_ret (then_ret (body_rets (vI 0) ?_)))))))))
            rw [ckL_badE (i := i) (by omega) hp1 (chkE_pos hpl (by omega) (sumB_gt (t := t) (by omega) (by omega) (by omega)))]; exact ⟨rfl, rfl⟩
          · replace hc44 : byt (prtB b 33 i) (t + 1) = 0 := by have := of_ne_f hc44; omega
            refine wpF_run 1 [(45, vF)] (wpF_end (then_code (wpC_false (wpC_skip (inBlock_normal (then_code (wpC_region (wpF_run 1 [(33, (vI (t + 1)))] (wpF_step (op_in (some 34) .i64 (IntKind.i64.wrap (((t + 1 : Nat) : Int) + ((1 : Nat) : Int))) (t + 1 + 1) (wrapS (by omega) (by omega) (by omega)) ?_))))))))))
            refine wpF_run 1 [(6, (vI (t + 1 + 1)))] (wpF_end (then_normal (endR_mk (t + 1) ?_ ?_)))
            · exact ⟨rfl, by omega, fun h0 => by rw [sumB_step (by omega), hs h0]; omega⟩
            · first | omega | (dsimp only; omega)
        · replace hc38 : ¬ (byt (prtB b 33 i) 0 = 0) := by have := of_eq_f hc38; omega
          refine wpF_run 7 [(45, vF), (44, undef), (43, undef), (42, undef), (41, undef), (40, undef), (39, vF)] (wpF_end (then_code (wpC_false (wpC_skip (inBlock_normal (then_code (wpC_region (wpF_run 1 [(33, (vI (t + 1)))] (wpF_step (op_in (some 34) .i64 (IntKind.i64.wrap (((t + 1 : Nat) : Int) + ((1 : Nat) : Int))) (t + 1 + 1) (wrapS (by omega) (by omega) (by omega)) ?_))))))))))
          refine wpF_run 1 [(6, (vI (t + 1 + 1)))] (wpF_end (then_normal (endR_mk (t + 1) ?_ ?_)))
          · exact ⟨rfl, by omega, fun h0 => by rw [sumB_step (by omega), hs h0]; omega⟩
          · first | omega | (dsimp only; omega)
      · replace hc32 : ¬ (t + 1 < 33) := by have := of_d_f hc32; omega
        refine wpF_end (then_code (wpC_false (wpC_exit (then_exit (then_exit (inBlock_exit (inBlock_normal (then_code (wpC_region ?_)))))))))
        refine wpF_run 1 [(13, (vI i))] (wpF_step (op_in (some 14) .i64 (IntKind.i64.wrap (((i : Nat) : Int) + ((1 : Nat) : Int))) (i + 1) (wrapS (by omega) (by omega) (by omega)) ?_))
        refine wpF_run 1 [(4, (vI (i + 1)))] (wpF_end (then_normal (endR_mk (i + 1) ?_ ?_)))
        · exact ⟨rfl, by omega, ckL_E hck hp1 (chkE_end (prtB_len (by omega) (by omega)) (by omega) (fun h0 => by have hq := hs h0; rwa [show t = 32 from by omega] at hq))⟩
        · first | omega | (dsimp only; omega)
  · replace hc12 : ¬ (i < 4) := by have := of_d_f hc12; omega
    refine wpF_end (then_code (wpC_false (wpC_exit (then_exit (then_exit (inBlock_exit (then_code (wpC_seq (wpC_region ?_)))))))))
    refine wpF_run 1 [(2, (vI 1))] (wpF_end (then_code (wpC_ret (body_rets (vI 1) ?_))))
    obtain rfl : i = 4 := by omega
    rw [hck]; exact ⟨rfl, rfl⟩

theorem c_whole {lo_b hi_b : Nat} {a_b : Option Addr} {n_b c_b : Nat} {b : List UInt8}  (w : World) (h_b : Bs lo_b hi_b w a_b n_b c_b b) (hp0 : n_b = sizL b) :
    Calls Tryd.prog 17 #[(.slice a_b n_b c_b)] w (Ret fun r w' => r = (vI (1 - ckL b 4)) ∧ w = w') := by
  by_cases h : byt b 0 = 0
  · exact c_whole0 w h_b (by rw [hp0, sizL, if_pos h]) h
  · exact c_whole1 w h_b (by rw [hp0, sizL, if_neg h]) h

theorem c_lives13   (w : World) (hg0 : Gl 0 [vI 45, vI 33] w) :
    Calls Tryd.prog 15 #[] w (Ret fun r w' => r = vT ∧ Ext w w') := by
  refine calls_of (n := 107) (σ := []) Tryd.func15 rfl ?_
  have hgl0 := hg0.lt
  refine wpC_seq (wpC_region (wpF_run 1 [(0, vF)] (wpF_end (then_code (wpC_seq (wpC_region (wpF_step (op_call (some 16) (c_Empty 1 2 _ (by first | omega | decide) (by first | omega | decide)) ?_))))))))
  rintro _ w1 ⟨rfl, hEw1⟩
  have hzw1 := hEw1.size
  refine wpF_step (op_call (some 17) (c_NPut (Nod.mt 1 2) _ (by decide) (hg0.ext hEw1)) ?_)
  rintro _ w2 ⟨a1, rfl, hFz2_0, hFz2_1, hFz2_2, hFz2_3, hEw2⟩
  have hzw2 := hEw2.size
  have hla1 := hFz2_1.lt; have hna1 := hFz2_3
  have hSa1 : Bs a1 (a1 + 1) w2 (pA a1 0) (nodL (Nod.mt 1 2)) (nodL (Nod.mt 1 2)) (nodB (Nod.mt 1 2)) := Bs.of_blk hFz2_1 rfl hFz2_2 (Nat.le_refl _) (le_maxLen hna1) (Nat.le_refl _) (Nat.lt_succ_self _)
  rw [show nodL (Nod.mt 1 2) = 137 from rfl]
  refine wpF_run 5 [(2, (vI 0)), (1, (.slice (pA a1 0) 137 137)), (19, (vI 0)), (18, (.slice (pA a1 0) 137 137)), (15, (.tuple #[(.slice (pA a1 0) 137 137), (vI 0)]))] (wpF_end (then_code (wpC_seq (wpC_seq (wpC_drawM (Ext w2.drew) 15 [(21, 4, 0), (22, 1048576, 1), (23, 2097152, 2), (24, 4194306, 4), (25, 12582912, 12), (26, 20971520, 20), (27, 37748736, 36), (28, 67108864, 68), (29, 134217730, 128), (30, 402653184, 384), (31, 134217728, 128), (32, 1207959552, 1152), (33, 2281701376, 2176), (34, 4966055936, 4736), (35, 8724152320, 8320)] (fun hT348 => ?_))))))
  have hEw3 : Ext w2 w2.drew := Ext.drew w2
  generalize w2.drew = w3 at hEw3 ⊢
  have hzw3 := hEw3.size
  refine anyM_run hT348 [(0, 20, (vI 0)), (1, 21, vF), (2, 22, vF), (3, 23, (.slice (pA a1 0) 137 137)), (4, 24, (vI 137)), (5, 25, vF), (6, 26, vF), (7, 27, vF), (8, 28, (.slice (pA a1 0) 137 137))] 9 511 (anyM_take hT348 9 1023 (some 29) (.string ⟨(nodB (Nod.mt 1 2)).toArray⟩) (yld_val (convert 44 9 (.slice (pA a1 0) 137 137)) (fun w' hC => run_string 5 ((hSa1.ext hEw3).ext hC))) (anyM_one 10 2047 (op_make (some 30) 44 5 1 1 132 132 .i64 .i64 (vB 0) (by omega) (by omega) (by omega) ?_)))
  rw [made_one _ rfl]
  intro w4 hBw4 hEw4
  have hzw4 := hEw4.size; have hlw4 := hBw4.lt
  have hSw4 : Bs w3.heap.size (w3.heap.size + 1) w4 (pA w3.heap.size 0) 132 132 (List.replicate 132 0) := Bs.of_blk hBw4 (u8s_zero _) (by simp) (Nat.le_refl _) (by simp only [maxLen]; omega) (Nat.le_refl _) (Nat.lt_succ_self _)
  refine ⟨.inr hEw4, ?_⟩
  refine anyM_class (C := Ext w3) (C' := Ext w4) (fun w' h => (hEw4).trans h) (anyM_take hT348 11 4095 (some 31) (.string ⟨(List.replicate 132 0).toArray⟩) (yld_val (convert 44 9 (.slice (pA w3.heap.size 0) 132 132)) (fun w' hC => run_string 5 (hSw4.ext hC))) (anyM_take hT348 12 8191 (some 32) (.string ⟨(([1, 0, 0, 0, 2] : List UInt8) ++ (List.replicate 132 0)).toArray⟩) (yld_val (bo .add 9 (.const (.string ⟨(([1, 0, 0, 0, 2] : List UInt8)).toArray⟩)) (.tmp 31) (.string ⟨(([1, 0, 0, 0, 2] : List UInt8)).toArray⟩) (.string ⟨(List.replicate 132 0).toArray⟩)) (fun w' hC => run_cat (by first | (simp; done) | (simp; omega)))) (anyM_take hT348 13 16383 (some 33) vF (yld_b (!((⟨(nodB (Nod.mt 1 2)).toArray⟩ : ByteArray).toList == (⟨(([1, 0, 0, 0, 2] : List UInt8) ++ (List.replicate 132 0)).toArray⟩ : ByteArray).toList)) (strNF (by decide))) (anyM_run hT348 [(14, 34, vF)] 1 32767 (anyM_done (then_code (wpC_false (wpC_skip (then_code ?_)))))))))
  refine wpC_seq (wpC_region (wpF_step (op_make (some 35) 44 5 1 1 138 138 .i64 .i64 (vB 0) (by omega) (by omega) (by omega) ?_)))
  rw [made_one _ rfl]
  intro w5 hBw5 hEw5
  have hzw5 := hEw5.size; have hlw5 := hBw5.lt
  have hSw5 : Bs w4.heap.size (w4.heap.size + 1) w5 (pA w4.heap.size 0) 138 138 (List.replicate 138 0) := Bs.of_blk hBw5 (u8s_zero _) (by simp) (Nat.le_refl _) (by simp only [maxLen]; omega) (Nat.le_refl _) (Nat.lt_succ_self _)
  refine wpF_run 1 [(3, (.slice (pA w4.heap.size 0) 138 138))] (wpF_end (then_code (wpC_seq (wpC_region (wpF_run 1 [(36, (.slice (pA w4.heap.size 0) 138 138))] (wpF_step (op_v (some 37) (Instr.indexAt 44 (.slice (pA w4.heap.size 0) 138 138) (vI 0)) (vP w4.heap.size (0 + 0 * 1)) (rn_ixs (E := 5) (sz := 1) (by omega)) ?_)))))))
  refine wpF_step (op_store1 5 w4.heap.size (0 + 0 * 1) 5 (vB 1) (List.replicate 138 (vB 0)) hBw5 (by decide) ?_)
  intro w6 hBw6 hCw6
  have hzw6 := hCw6.size
  rw [show ((List.replicate 138 (vB 0)).set (0 + 0 * 1) (vB 1) : List Value) = u8s ((1 : UInt8) :: List.replicate 137 (0 : UInt8)) from by kernel_rfl] at hBw6
  have hSw6 : Bs w4.heap.size (w4.heap.size + 1) w6 (pA w4.heap.size 0) 138 138 ((1 : UInt8) :: List.replicate 137 (0 : UInt8)) := Bs.of_blk hBw6 (by kernel_rfl) rfl (Nat.le_refl _) (by simp only [maxLen]; omega) (Nat.le_refl _) (Nat.lt_succ_self _)
  refine wpF_end (then_code (wpC_seq (wpC_region ?_)))
  have hK1 := (((((((((((hg0.ext hEw1)).ext hEw2)).ext hEw3)).ext hEw4)).ext hEw5)).chg hCw6 (fun hs => by have h : _ = _ := hs; omega))
  refine wpF_step (op_call (some 39) (c_NGet _ (Bs.nil 0 0 _) hK1) ?_)
  rintro _ w7 ⟨rfl, hEw7⟩
  have hzw7 := hEw7.size
  rw [show getNE ([]) = 6 from by decide]
  refine wpF_run 3 [(41, (vI 6)), (40, (vA (nodC (getN ([]))))), (38, (.tuple #[(vA (nodC (getN ([])))), (vI 6)]))] (wpF_step (op_new (some 4) (Instr.alloc 41 true (.tuple #[])) (vP w7.heap.size 0) (nodC Nod.zero) 41 ?_))
  intro w8 hBw8 hEw8
  have hzw8 := hEw8.size; have hlw8 := hBw8.lt
  refine wpF_step (op_store 41 w7.heap.size 0 41 (vA (nodC (getN ([])))) (nodC Nod.zero) (nodC (getN ([]))) hBw8 (by rw [nodC_len]; kernel_rfl) (by first | (simp; done) | (simp; omega)) (nodC_one _) ?_)
  intro w9 hBw9 hCw9
  have hzw9 := hCw9.size
  rw [setFrom_all _ _ (by simp)] at hBw9
  refine wpF_run 1 [(5, (vI 6))] (wpF_end (then_code (wpC_seq (wpC_region (wpF_step (op_new (some 43) (Instr.buildSlice 44 1 #[(0, (vB 6))]) (.slice (pA w9.heap.size 0) 1 1) [(vB 6)] 5 ?_))))))
  intro w10 hBw10 hEw10
  have hzw10 := hEw10.size; have hlw10 := hBw10.lt
  have hSw10 : Bs w9.heap.size (w9.heap.size + 1) w10 (pA w9.heap.size 0) 1 1 [6] := Bs.of_blk hBw10 (by kernel_rfl) rfl (Nat.le_refl _) (by decide) (Nat.le_refl _) (Nat.lt_succ_self _)
  have hK2 := (((((((hK1.ext hEw7)).ext hEw8)).chg hCw9 (fun hs => by have h : _ = _ := hs; omega))).ext hEw10)
  refine wpF_step (op_call (some 44) (c_NGet _ hSw10 hK2) ?_)
  rintro _ w11 ⟨rfl, hEw11⟩
  have hzw11 := hEw11.size
  rw [show getNE ([6]) = 1 from by decide]
  refine wpF_run 3 [(46, (vI 1)), (45, (vA (nodC (getN ([6]))))), (42, (.tuple #[(vA (nodC (getN ([6])))), (vI 1)]))] (wpF_step (op_new (some 6) (Instr.alloc 41 true (.tuple #[])) (vP w11.heap.size 0) (nodC Nod.zero) 41 ?_))
  intro w12 hBw12 hEw12
  have hzw12 := hEw12.size; have hlw12 := hBw12.lt
  refine wpF_step (op_store 41 w11.heap.size 0 41 (vA (nodC (getN ([6])))) (nodC Nod.zero) (nodC (getN ([6]))) hBw12 (by rw [nodC_len]; kernel_rfl) (by first | (simp; done) | (simp; omega)) (nodC_one _) ?_)
  intro w13 hBw13 hCw13
  have hzw13 := hCw13.size
  rw [setFrom_all _ _ (by simp)] at hBw13
  refine wpF_run 1 [(7, (vI 1))] (wpF_end (then_code (wpC_seq (wpC_region (wpF_step (op_new (some 48) (Instr.buildSlice 44 1 #[(0, (vB 0))]) (.slice (pA w13.heap.size 0) 1 1) [(vB 0)] 5 ?_))))))
  intro w14 hBw14 hEw14
  have hzw14 := hEw14.size; have hlw14 := hBw14.lt
  have hSw14 : Bs w13.heap.size (w13.heap.size + 1) w14 (pA w13.heap.size 0) 1 1 [0] := Bs.of_blk hBw14 (by kernel_rfl) rfl (Nat.le_refl _) (by decide) (Nat.le_refl _) (Nat.lt_succ_self _)
  have hK3 := (((((((hK2.ext hEw11)).ext hEw12)).chg hCw13 (fun hs => by have h : _ = _ := hs; omega))).ext hEw14)
  refine wpF_step (op_call (some 49) (c_NGet _ hSw14 hK3) ?_)
  rintro _ w15 ⟨rfl, hEw15⟩
  have hzw15 := hEw15.size
  rw [show getNE ([0]) = 6 from by decide]
  refine wpF_run 3 [(51, (vI 6)), (50, (vA (nodC (getN ([0]))))), (47, (.tuple #[(vA (nodC (getN ([0])))), (vI 6)]))] (wpF_step (op_new (some 8) (Instr.alloc 41 true (.tuple #[])) (vP w15.heap.size 0) (nodC Nod.zero) 41 ?_))
  intro w16 hBw16 hEw16
  have hzw16 := hEw16.size; have hlw16 := hBw16.lt
  refine wpF_step (op_store 41 w15.heap.size 0 41 (vA (nodC (getN ([0])))) (nodC Nod.zero) (nodC (getN ([0]))) hBw16 (by rw [nodC_len]; kernel_rfl) (by first | (simp; done) | (simp; omega)) (nodC_one _) ?_)
  intro w17 hBw17 hCw17
  have hzw17 := hCw17.size
  rw [setFrom_all _ _ (by simp)] at hBw17
  refine wpF_run 1 [(9, (vI 6))] (wpF_end (then_code (wpC_seq (wpC_region (wpF_run 1 [(53, (.slice (pA w4.heap.size 0) 138 138))] ?_)))))
  have hK4 := (((((((((((((((((((((hSw6.ext hEw7)).ext hEw8)).chg hCw9 (fun k h1 h2 hs => by have h : k = _ := hs; omega))).ext hEw10)).ext hEw11)).ext hEw12)).chg hCw13 (fun k h1 h2 hs => by have h : k = _ := hs; omega))).ext hEw14)).ext hEw15)).ext hEw16)).chg hCw17 (fun k h1 h2 hs => by have h : k = _ := hs; omega))
  have hK5 := (((((hK3.ext hEw15)).ext hEw16)).chg hCw17 (fun hs => by have h : _ = _ := hs; omega))
  refine wpF_step (op_call (some 54) (c_NGet _ hK4 hK5) ?_)
  rintro _ w18 ⟨rfl, hEw18⟩
  have hzw18 := hEw18.size
  rw [show getNE ((1 : UInt8) :: List.replicate 137 (0 : UInt8)) = 5 from by decide]
  refine wpF_run 3 [(56, (vI 5)), (55, (vA (nodC (getN ((1 : UInt8) :: List.replicate 137 (0 : UInt8)))))), (52, (.tuple #[(vA (nodC (getN ((1 : UInt8) :: List.replicate 137 (0 : UInt8))))), (vI 5)]))] (wpF_step (op_new (some 10) (Instr.alloc 41 true (.tuple #[])) (vP w18.heap.size 0) (nodC Nod.zero) 41 ?_))
  intro w19 hBw19 hEw19
  have hzw19 := hEw19.size; have hlw19 := hBw19.lt
  refine wpF_step (op_store 41 w18.heap.size 0 41 (vA (nodC (getN ((1 : UInt8) :: List.replicate 137 (0 : UInt8))))) (nodC Nod.zero) (nodC (getN ((1 : UInt8) :: List.replicate 137 (0 : UInt8)))) hBw19 (by rw [nodC_len]; kernel_rfl) (by first | (simp; done) | (simp; omega)) (nodC_one _) ?_)
  intro w20 hBw20 hCw20
  have hzw20 := hCw20.size
  rw [setFrom_all _ _ (by simp)] at hBw20
  refine wpF_run 1 [(11, (vI 5))] (wpF_end (then_code (wpC_seq (wpC_region (wpF_step (op_call (some 57) (c_Empty 1 0 _ (by first | omega | decide) (by first | omega | decide)) ?_))))))
  rintro _ w21 ⟨rfl, hEw21⟩
  have hzw21 := hEw21.size
  refine wpF_step (op_new (some 12) (Instr.alloc 41 true (.tuple #[])) (vP w21.heap.size 0) (nodC Nod.zero) 41 ?_)
  intro w22 hBw22 hEw22
  have hzw22 := hEw22.size; have hlw22 := hBw22.lt
  refine wpF_step (op_store 41 w21.heap.size 0 41 (vA (nodC (Nod.mt 1 0))) (nodC Nod.zero) (nodC (Nod.mt 1 0)) hBw22 (by rw [nodC_len]; kernel_rfl) (by first | (simp; done) | (simp; omega)) (nodC_one _) ?_)
  intro w23 hBw23 hCw23
  have hzw23 := hCw23.size
  rw [setFrom_all _ _ (by simp)] at hBw23
  refine wpF_end (then_code (wpC_seq (wpC_region (wpF_run 1 [(58, (vP w21.heap.size 2))] (wpF_step (op_v (some 59) (Instr.indexAt 36 (vP w21.heap.size 2) (vI 3)) (vP w21.heap.size (2 + 3 * 35)) (rn_ixa (E := 35) (sz := 35) (m := 4) (by omega)) ?_))))))
  refine wpF_run 1 [(60, (vP w21.heap.size (2 + 3 * 35)))] (wpF_step (op_store1 5 w21.heap.size (2 + 3 * 35) 41 (vB 1) (nodC (Nod.mt 1 0)) hBw23 (by decide) ?_))
  intro w24 hBw24 hCw24
  have hzw24 := hCw24.size
  rw [show ((nodC (Nod.mt 1 0)).set (2 + 3 * 35) (vB 1) : List Value) = nodC ((Nod.mt 1 0).setR 3 ⟨1, Non.zero, Dig.zero, by decide⟩) from by kernel_rfl] at hBw24
  refine wpF_end (then_code (wpC_seq (wpC_region (wpF_step (op_call (some 62) (c_Empty 6 0 _ (by first | omega | decide) (by first | omega | decide)) ?_)))))
  rintro _ w25 ⟨rfl, hEw25⟩
  have hzw25 := hEw25.size
  refine wpF_step (op_call (some 63) (c_NPutBad (Nod.mt 6 0) _ (by decide)) ?_)
  rintro _ w26 ⟨rfl, hEw26⟩
  have hzw26 := hEw26.size
  refine wpF_run 5 [(14, (vI 1)), (13, (.slice none 0 0)), (65, (vI 1)), (64, (.slice none 0 0)), (61, (.tuple #[(.slice none 0 0), (vI 1)]))] (wpF_end (then_code (wpC_seq (wpC_seq (wpC_region (wpF_run 19 [(84, vF), (83, vF), (82, vF), (81, (vI 1)), (80, vF), (79, vF), (78, vF), (77, (vI 5)), (76, vF), (75, vF), (74, vF), (73, (vI 6)), (72, vF), (71, vF), (70, vF), (69, (vI 1)), (68, vF), (67, vF), (66, (vI 6))] (wpF_step (op_v (some 85) (Instr.loadAt 41 (vP w21.heap.size 0)) (vA (nodC ((Nod.mt 1 0).setR 3 ⟨1, Non.zero, Dig.zero, by decide⟩))) (rn_lda (vs := nodC ((Nod.mt 1 0).setR 3 ⟨1, Non.zero, Dig.zero, by decide⟩)) ((((hBw24.ext hEw25)).ext hEw26).all) (by rw [nodC_len]; kernel_rfl)) ?_))))))))
  refine wpF_step (op_call (some 86) (c_NCheck ((Nod.mt 1 0).setR 3 ⟨1, Non.zero, Dig.zero, by decide⟩) _) ?_)
  rintro _ w27 ⟨rfl, hEw27⟩
  have hzw27 := hEw27.size
  rw [show chkN ((Nod.mt 1 0).setR 3 ⟨1, Non.zero, Dig.zero, by decide⟩) = 1 from by decide]
  refine wpF_run 2 [(88, vF), (87, vF)] (wpF_end (then_code (wpC_false (wpC_skip (then_code (wpC_seq (wpC_region (wpF_step (op_call (some 89) (c_Empty 1 0 _ (by first | omega | decide) (by first | omega | decide)) ?_)))))))))
  rintro _ w28 ⟨rfl, hEw28⟩
  have hzw28 := hEw28.size
  refine wpF_step (op_call (some 90) (c_NFits 5 (Nod.mt 1 0) _ (by first | omega | decide) (by first | omega | decide)) ?_)
  rintro _ w29 ⟨rfl, hEw29⟩
  have hzw29 := hEw29.size
  rw [show fitV 5 (Nod.mt 1 0) = 0 from by decide]
  refine wpF_run 2 [(92, vT), (91, vT)] (wpF_step (op_call (some 93) (c_Empty 0 2 _ (by first | omega | decide) (by first | omega | decide)) ?_))
  rintro _ w30 ⟨rfl, hEw30⟩
  have hzw30 := hEw30.size
  refine wpF_step (op_call (some 94) (c_NFits 5 (Nod.mt 0 2) _ (by first | omega | decide) (by first | omega | decide)) ?_)
  rintro _ w31 ⟨rfl, hEw31⟩
  have hzw31 := hEw31.size
  rw [show fitV 5 (Nod.mt 0 2) = 17 from by decide]
  refine wpF_run 3 [(97, vT), (96, vT), (95, vT)] (wpF_step (op_call (some 98) (c_Empty 1 0 _ (by first | omega | decide) (by first | omega | decide)) ?_))
  rintro _ w32 ⟨rfl, hEw32⟩
  have hzw32 := hEw32.size
  refine wpF_step (op_call (some 99) (c_NFits 4 (Nod.mt 1 0) _ (by first | omega | decide) (by first | omega | decide)) ?_)
  rintro _ w33 ⟨rfl, hEw33⟩
  have hzw33 := hEw33.size
  rw [show fitV 4 (Nod.mt 1 0) = 17 from by decide]
  refine wpF_run 3 [(102, vT), (101, vT), (100, vT)] (wpF_step (op_call (some 103) (c_Empty 0 0 _ (by first | omega | decide) (by first | omega | decide)) ?_))
  rintro _ w34 ⟨rfl, hEw34⟩
  have hzw34 := hEw34.size
  refine wpF_step (op_call (some 104) (c_NFitsBad ((0 : Nat) : Int) (Nod.mt 0 0) _ (by first | omega | decide)) ?_)
  rintro _ w35 ⟨rfl, hEw35⟩
  have hzw35 := hEw35.size
  refine wpF_run 3 [(0, vT), (106, vT), (105, vT)] (wpF_end (then_code (wpC_ret (body_rets vT ?_))))
  have hX1 : Ext w w35 := ((((((((((((Ext.own (Ext.own (((Ext.own (((Ext.own ((((Ext.own ((((Ext.own (((Ext.own ((((hEw1.trans hEw2).trans hEw3).trans hEw4).trans hEw5) hCw6 (by omega)).trans hEw7).trans hEw8) hCw9 (by omega)).trans hEw10).trans hEw11).trans hEw12) hCw13 (by omega)).trans hEw14).trans hEw15).trans hEw16) hCw17 (by omega)).trans hEw18).trans hEw19) hCw20 (by omega)).trans hEw21).trans hEw22) hCw23 (by omega)) hCw24 (by omega)).trans hEw25).trans hEw26).trans hEw27).trans hEw28).trans hEw29).trans hEw30).trans hEw31).trans hEw32).trans hEw33).trans hEw34).trans hEw35)
  exact ⟨rfl, hX1⟩

end Go.Proofs.YtpcbhalagllhnaaDoor
