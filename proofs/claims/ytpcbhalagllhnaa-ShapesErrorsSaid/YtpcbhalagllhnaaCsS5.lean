/- CsS5: what each function does, by its own code. No condition beyond those of each statement. -/
import Derived.Test.YtpcbhalagllhnaaCsS4
namespace Go.Proofs.Ytpcbhalagllhnaa
open Go Go.RowKit Go.Cs
set_option maxRecDepth 100000
set_option linter.all false
set_option linter.unusedVariables false

theorem i_path {b1 b2 lo hi cp : Nat} {a : Option Addr} (n i B l : Nat) (U : Nat → Prop) (J Jx : Nat → World → Prop) (w : World) (hp0 : 1 ≤ n) (hp1 : n ≤ 4096) (hp2 : i < n) (hB1 : Blk w b1 [(vI n), (.slice a (hgt n + 1) cp)] 62) (hB2 : Blk w b2 [vI i] 3) (hc : Es (nv .i64) lo hi w a (hgt n + 1) cp (cts n)) (hb : b1 ≠ b2) (hlo : ¬ (lo ≤ b2 ∧ b2 < hi)) (hU : ∀ b, (B ≤ b ∨ U b) → b ≠ b1 ∧ b ≠ b2 ∧ ¬ (lo ≤ b ∧ b < hi)) (hJ : ∀ k W W', J k W → Chg (fun b => b = b2) W W' → J k W') (hY : ∀ k W, k < hgt n + 1 → J k W → Yat Try.prog l [.agg #[vI k, vI (qs i (k + 1))]] W (fun v W' => (v = .bool true ∧ J (k + 1) W' ∧ Chg (fun b => B ≤ b ∨ U b) W W') ∨ (v = .bool false ∧ Jx k W'))) (h0 : J 0 w) :
    Calls Try.prog 43 #[(.func (.yield l) #[] #[]), (vP b1 0), (vP b2 0)] w (Ret fun r w' => J (hgt n + 1) w' ∨ ∃ k, k < hgt n + 1 ∧ Jx k w') := by
  refine calls_of (n := 20) (σ := [(0, (.func (.yield l) #[] #[])), (1, (vP b1 0)), (2, (vP b2 0))]) Try.func43 rfl ?_
  have h5 := hgt_le n
  refine wpC_seq (wpC_region (wpF_run 1 [(5, (vP b1 1))] (wpF_step (op_v (some 6) (Instr.loadAt 60 (vP b1 1)) (.slice a (hgt n + 1) cp) (rn_ld (hB1.cell rfl)) ?_))))
  refine wpF_run 2 [(8, (vI 0)), (7, (vI (hgt n + 1)))] (wpF_end (then_code (wpC_block (wpC_loop (X := Nat) (fun k => [(8, (vI k))]) [4, 9, 10, 11, 12, 13, 14, 15, 16, 17, 18, 19] (fun k w1 => k ≤ hgt n + 1 ∧ J k w1 ∧ Blk w1 b1 [(vI n), (.slice a (hgt n + 1) cp)] 62 ∧ Blk w1 b2 [vI (qs i k)] 3 ∧ Es (nv .i64) lo hi w1 a (hgt n + 1) cp (cts n)) (fun k => hgt n + 1 - k) 0 (by kernel_rfl) ⟨by omega, h0, hB1, hB2, hc⟩ ?_))))
  rintro k dw1 w1 ⟨hk, hJk, hBa, hBb, hEc⟩
  have hqi := qs_le i k
  have hBlt := hBb.lt
  refine wpC_seq (wpC_region (wpF_step (op_split (some 9) (decide (((k : Nat) : Int) < ((hgt n + 1 : Nat) : Int))) (fun hc9 => ?_) (fun hc9 => ?_))))
  · replace hc9 : k < hgt n + 1 := by have := of_d_t hc9; omega
    refine wpF_end (then_code (wpC_seq (wpC_true (wpC_skip (then_code (wpC_seq (wpC_block (wpC_seq (wpC_region ?_)))))))))
    refine wpF_run 2 [(4, (vI k)), (10, (vI k))] (wpF_end (then_code (wpC_seq (wpC_region (wpF_step (op_v (some 11) (Instr.loadAt 3 (vP b2 0)) (vI (qs i k)) (rn_ld (hBb.cell rfl)) ?_))))))
    refine wpF_step (op_in (some 12) .i64 (IntKind.i64.wrap (((qs i k : Nat) : Int).tdiv ((4 : Nat) : Int))) (qs i (k + 1)) (wrapS (tdivN _ _) (by omega) (by rw [qs]; omega)) ?_)
    refine wpF_step (op_store1 3 b2 0 3 (vI (qs i (k + 1))) ([vI (qs i k)]) hBb (by first | decide | (simp; done) | (simp; omega)) ?_)
    intro w2 hBw2 hCw2
    have hzw2 := hCw2.size
    replace hBw2 := hBw2.set1
    refine wpF_end (then_code (wpC_seq (wpC_region (wpF_run 2 [(14, (vI k)), (13, (.func (.yield l) #[] #[]))] (wpF_step (op_v (some 15) (Instr.loadAt 3 (vP b2 0)) (vI (qs i (k + 1))) (rn_ld (hBw2.cell rfl)) ?_))))))
    refine wpF_run 1 [(16, (vA [(vI k), (vI (qs i (k + 1)))]))] (wpF_step (op_yield (some 17) l [(vA [(vI k), (vI (qs i (k + 1)))])] (hY k _ (by omega) (hJ _ _ _ hJk hCw2)) ?_))
    rintro _ w3 (⟨rfl, hJw3, hCw3⟩ | ⟨rfl, hXw3⟩)
    · have hzw3 := hCw3.size
      refine wpF_run 1 [(18, vF)] (wpF_end (then_code (wpC_false (wpC_skip (inBlock_normal (then_code (wpC_region (wpF_step (op_in (some 19) .i64 (IntKind.i64.wrap (((k : Nat) : Int) + ((1 : Nat) : Int))) (k + 1) (wrapS (by omega) (by omega) (by omega)) ?_)))))))))
      refine wpF_run 1 [(8, (vI (k + 1)))] (wpF_end (then_normal (endR_mk (k + 1) ?_ ?_)))
      · exact ⟨by omega, hJw3, ((((hBa).chg hCw2 (fun hs => by have h : _ = _ := hs; omega))).chg hCw3 (fun hs => by have hu := hU _ hs; omega)), ((hBw2).chg hCw3 (fun hs => by have hu := hU _ hs; omega)), ((((hEc).chg hCw2 (fun k h1 h2 hs => by have h : k = _ := hs; omega))).chg hCw3 (fun k h1 h2 hs => by have hu := hU _ hs; omega))⟩
      · first | omega | (dsimp only; omega)
    · refine wpF_run 1 [(18, vT)] (wpF_end (then_code (wpC_true (wpC_ret (inBlock_ret (then_ret (then_ret (inBlock_ret (body_rets (.tuple #[]) ?_)))))))))
      exact .inr ⟨k, by omega, hXw3⟩
  · replace hc9 : ¬ (k < hgt n + 1) := by have := of_d_f hc9; omega
    refine wpF_end (then_code (wpC_seq (wpC_false (wpC_exit (then_exit (then_exit (inBlock_exit (body_end ?_))))))))
    obtain rfl : k = hgt n + 1 := by omega
    exact .inl hJk

theorem c_path (n : Nat) {lo_c hi_c : Nat} {a_c : Option Addr} {n_c c_c : Nat} (i : Nat)  (w : World) (h_c : Es (nv .i64) lo_c hi_c w a_c n_c c_c (cts n)) :
    Calls Try.prog 40 #[(vA [(vI n), (.slice a_c n_c c_c)]), (vI i)] w (Ret fun r w' => ∃ a0 a0q, r = (.func (.func 43) #[] #[(vP a0 0), (vP a0q 0)]) ∧ w.heap.size ≤ a0 ∧ a0 < a0q ∧ Blk w' a0 [(vI n), (.slice a_c n_c c_c)] 62 ∧ Blk w' a0q [(vI i)] 3 ∧ Ext w w') := by
  refine calls_of (n := 6) (σ := [(0, (vA [(vI n), (.slice a_c n_c c_c)])), (1, (vI i))]) Try.func40 rfl ?_
  replace h_c := h_c.now; have hle_c := h_c.le
  refine wpC_seq (wpC_region (wpF_step (op_new (some 2) (Instr.box 62 (vA [(vI n), (.slice a_c n_c c_c)])) (vP w.heap.size 0) ([(vI n), (.slice a_c n_c c_c)]) 62 ?_)))
  intro w1 hBw1 hEw1
  have hzw1 := hEw1.size; have hlw1 := hBw1.lt
  refine wpF_step (op_new (some 3) (Instr.box 3 (vI i)) (vP w1.heap.size 0) ([(vI i)]) 3 ?_)
  intro w2 hBw2 hEw2
  have hzw2 := hEw2.size; have hlw2 := hBw2.lt
  refine wpF_run 1 [(4, .nilFunc)] (wpF_end (then_code (wpC_seq (wpC_region (wpF_run 2 [(4, (.func (.func 43) #[] #[(vP w.heap.size 0), (vP w1.heap.size 0)])), (5, (.func (.func 43) #[] #[(vP w.heap.size 0), (vP w1.heap.size 0)]))] (wpF_end (then_code (wpC_ret (body_rets (.func (.func 43) #[] #[(vP w.heap.size 0), (vP w1.heap.size 0)]) ?_)))))))))
  exact ⟨_, _, rfl, by omega, by omega, (hBw1.ext hEw2), hBw2, (hEw1.trans hEw2)⟩

theorem c_PathBad (n : Int) (i : Int)  (w : World) (hp0 : ¬ ((1 ≤ n ∧ n ≤ 4096) ∧ (0 ≤ i ∧ i < n))) :
    Calls Try.prog 31 #[(.int .i64 n), (.int .i64 i)] w (Ret fun r w' => r = (.tuple #[(.slice none 0 0), (vI 1)]) ∧ Ext w w') := by
  refine calls_ofM (n := 34) (σ := [(0, (.int .i64 n)), (1, (.int .i64 i))]) Try.func31 rfl ?_
  refine wpC_seq (wpC_region (wpF_run 2 [(5, (vI 0)), (4, (.slice none 0 0))] (wpF_end (then_code (wpC_seq (wpC_region (wpF_run 2 [(12, (.int .i64 i)), (11, (.int .i64 n))] (wpF_step (op_call (some 13) (c_blockBad n i _ (by omega)) ?_)))))))))
  rintro _ w1 ⟨a1, a2, na2, ca2, rfl, hEw1⟩
  have hzw1 := hEw1.size
  refine wpF_run 3 [(15, (vI 1)), (14, (vA [(.int .i64 a1), (.slice a2 na2 ca2)])), (10, (.tuple #[(vA [(.int .i64 a1), (.slice a2 na2 ca2)]), (vI 1)]))] (wpF_step (op_new (some 6) (Instr.alloc 62 true (.tuple #[])) (vP w1.heap.size 0) ([(vI 0), (.slice none 0 0)]) 62 ?_))
  intro w2 hBw2 hEw2
  have hzw2 := hEw2.size; have hlw2 := hBw2.lt
  refine wpF_step (op_store 62 w1.heap.size 0 62 (vA [(.int .i64 a1), (.slice a2 na2 ca2)]) ([(vI 0), (.slice none 0 0)]) ([(.int .i64 a1), (.slice a2 na2 ca2)]) hBw2 (by kernel_rfl) (by first | decide | (simp; done) | (simp; omega)) (by simp [Value.oneCell']) ?_)
  intro w3 hBw3 hCw3
  have hzw3 := hCw3.size
  rw [setFrom_all _ _ (by kernel_rfl)] at hBw3
  refine wpF_run 1 [(7, (vI 1))] (wpF_end (then_code (wpC_seq (wpC_seq (wpC_region (wpF_run 2 [(17, vT), (16, (vI 1))] (wpF_end (then_code (wpC_true ?_)))))))))
  exact wpC_seq (wpC_region (wpF_run 3 [(5, (vI 1)), (4, (.slice none 0 0)), (18, (vI 1))] (wpF_end (then_code (wpC_ret (then_ret (bodyM0_rets (.tuple #[(.slice none 0 0), (vI 1)]) (⟨rfl, (Ext.own (hEw1.trans hEw2) hCw3 (by omega))⟩))))))))

theorem c_Path (n : Nat) (i : Nat)  (w : World) (hp0 : 1 ≤ n) (hp1 : n ≤ 4096) (hp2 : i < n) :
    Calls Try.prog 31 #[(vI n), (vI i)] w (Ret fun r w' => ∃ a0, r = (.tuple #[(.slice a0 (hgt n + 1) (hgt n + 1)), (vI 0)]) ∧ Ms plaV 2 w.heap.size w'.heap.size w' a0 (hgt n + 1) (hgt n + 1) (pathL n i) ∧ Ext w w') := by
  refine calls_ofM (n := 34) (σ := [(0, (vI n)), (1, (vI i))]) Try.func31 rfl ?_
  have h5 := hgt_le n
  have hqi := qs_le i
  refine wpC_seq (wpC_region (wpF_run 2 [(5, (vI 0)), (4, (.slice none 0 0))] (wpF_end (then_code (wpC_seq (wpC_region (wpF_run 2 [(12, (vI i)), (11, (vI n))] (wpF_step (op_call (some 13) (c_block n i _ (by omega) (by omega) (by omega)) ?_)))))))))
  rintro _ w1 ⟨a1, ca1, rfl, hFz1_0, hEw1⟩
  have hzw1 := hEw1.size
  have hlea1 := hFz1_0.le
  refine wpF_run 3 [(15, (vI 0)), (14, (vA [(vI n), (.slice a1 (hgt n + 1) ca1)])), (10, (.tuple #[(vA [(vI n), (.slice a1 (hgt n + 1) ca1)]), (vI 0)]))] (wpF_step (op_new (some 6) (Instr.alloc 62 true (.tuple #[])) (vP w1.heap.size 0) ([(vI 0), (.slice none 0 0)]) 62 ?_))
  intro w2 hBw2 hEw2
  have hzw2 := hEw2.size; have hlw2 := hBw2.lt
  refine wpF_step (op_store 62 w1.heap.size 0 62 (vA [(vI n), (.slice a1 (hgt n + 1) ca1)]) ([(vI 0), (.slice none 0 0)]) ([(vI n), (.slice a1 (hgt n + 1) ca1)]) hBw2 (by kernel_rfl) (by first | decide | (simp; done) | (simp; omega)) (by simp [Value.oneCell']) ?_)
  intro w3 hBw3 hCw3
  have hzw3 := hCw3.size
  rw [setFrom_all _ _ (by kernel_rfl)] at hBw3
  refine wpF_run 1 [(7, (vI 0))] (wpF_end (then_code (wpC_seq (wpC_seq (wpC_region (wpF_run 2 [(17, vF), (16, (vI 0))] (wpF_end (then_code (wpC_false ?_)))))))))
  refine wpC_skip (then_code (wpC_seq (wpC_region (wpF_run 1 [(19, (vP w1.heap.size 1))] (wpF_step (op_v (some 20) (Instr.loadAt 60 (vP w1.heap.size 1)) (.slice a1 (hgt n + 1) ca1) (rn_ld (hBw3.cell rfl)) ?_))))))
  refine wpF_run 1 [(21, (vI (hgt n + 1)))] (wpF_step (op_make (some 22) 54 45 2 16 0 (hgt n + 1) .i64 .i64 (vA [(vI 0), (vI 0)]) (by omega) (by omega) (by omega) ?_))
  obtain ⟨r1, hr1⟩ : ∃ r, (madeCells (vA [(vI 0), (vI 0)]).cells ((hgt n + 1) * 2)).toList = r := ⟨_, rfl⟩
  rw [hr1]
  have hlr1 : r1.length = (hgt n + 1) * 2 := by rw [← hr1, made_length]
  intro w4 hBw4 hEw4
  have hzw4 := hEw4.size; have hlw4 := hBw4.lt
  refine wpF_step (op_new (some 8) (Instr.alloc 54 true (.tuple #[])) (vP w4.heap.size 0) ([(.slice none 0 0)]) 54 ?_)
  intro w5 hBw5 hEw5
  have hzw5 := hEw5.size; have hlw5 := hBw5.lt
  refine wpF_step (op_store1 54 w4.heap.size 0 54 (.slice (pA w3.heap.size 0) 0 (hgt n + 1)) ([(.slice none 0 0)]) hBw5 (by first | decide | (simp; done) | (simp; omega)) ?_)
  intro w6 hBw6 hCw6
  have hzw6 := hCw6.size
  replace hBw6 := hBw6.set1
  refine wpF_end (then_code (wpC_seq (wpC_seq (wpC_region ?_))))
  have hK1 := (((((hBw3.ext hEw4)).ext hEw5)).chg hCw6 (fun hs => by have h : _ = _ := hs; omega))
  refine wpF_step (op_v (some 23) (Instr.loadAt 62 (vP w1.heap.size 0)) (vA [(vI n), (.slice a1 (hgt n + 1) ca1)]) (rn_lda (vs := [(vI n), (.slice a1 (hgt n + 1) ca1)]) (hK1.all)) ?_)
  refine wpF_run 1 [(24, (vI i))] ?_
  have hK2 := (((((((((hFz1_0.ext hEw2)).chg hCw3 (fun k h1 h2 hs => by have h : k = _ := hs; omega))).ext hEw4)).ext hEw5)).chg hCw6 (fun k h1 h2 hs => by have h : k = _ := hs; omega))
  refine wpF_step (op_call (some 25) (c_path n i _ hK2) ?_)
  rintro _ w7 ⟨a2, a2q, rfl, hFz2_0, hFz2_1, hFz2_2, hFz2_3, hEw7⟩
  have hzw7 := hEw7.size
  have hla2 := hFz2_2.lt; have hla2q := hFz2_3.lt
  refine wpF_end (then_code (wpC_block ?_))
  have hK3 := (((((hBw4.ext hEw5)).chg hCw6 (fun hs => by have h : _ = _ := hs; omega))).ext hEw7)
  have hX1 : Ext w w7 := ((Ext.own (((Ext.own (hEw1.trans hEw2) hCw3 (by omega)).trans hEw4).trans hEw5) hCw6 (by omega)).trans hEw7)
  refine wpC_range [26] 43 [(vP a2 0), (vP a2q 0)] (hgt n + 1) (fun k => [(vA [(vI k), (vI (qs i (k + 1)))])]) (fun b => b = w4.heap.size ∨ b = w3.heap.size) (fun b => b = a2q) (fun k w' => ∃ r, Blk w' w3.heap.size ((pup i k).flatMap plaV ++ r) 45 ∧ r.length = (hgt n + 1 - k) * 2 ∧ Blk w' w4.heap.size [(.slice (pA w3.heap.size 0) k (hgt n + 1))] 54 ∧ Ext w w') (fun cc k w' => False) (fun b hb => by have h : b = _ := hb; omega) (fun _ => rfl) (fun k W W' ⟨r, h1, h2, h3, h4⟩ hb => ⟨r, h1.book hb, h2, h3.book hb, h4.book hb (by omega)⟩) (fun _ _ _ _ h _ => h) (fun k W W' ⟨r, h1, h2, h3, h4⟩ hc => ⟨r, h1.chg hc (fun hs => by have h : _ = _ := hs; omega), h2, h3.chg hc (fun hs => by have h : _ = _ := hs; omega), Ext.own h4 hc (by omega)⟩) (⟨_, hK3, by omega, (hBw6.ext hEw7), hX1⟩) (fun l J Jx w1 hE1 hJ hY h0 => i_path n i w7.heap.size l _ J Jx w1 hp0 hp1 hp2 (hFz2_2.ext hE1) (hFz2_3.ext hE1) ((hK2.ext hEw7).ext hE1) (by omega) (by omega) (fun b hb => by omega) hJ hY h0) ?_ ?_ ?_
  · rintro l k w8 hl ⟨r, hBo, hr, hB8, hEw⟩ hk
    have hlo8 := hB8.lt; have hloo := hBo.lt; have hzr := hEw.size
    refine wpC_region (wpF_step (op_new (some 9) (Instr.alloc 45 true (.tuple #[])) (vP w8.heap.size 0) ([(vI 0), (vI 0)]) 45 ?_))
    intro w9 hBw9 hEw9
    have hzw9 := hEw9.size; have hlw9 := hBw9.lt
    refine wpF_step (op_store 45 w8.heap.size 0 45 (vA [(vI k), (vI (qs i (k + 1)))]) ([(vI 0), (vI 0)]) ([(vI k), (vI (qs i (k + 1)))]) hBw9 (by kernel_rfl) (by first | decide | (simp; done) | (simp; omega)) (by simp [Value.oneCell']) ?_)
    intro w10 hBw10 hCw10
    have hzw10 := hCw10.size
    rw [setFrom_all _ _ (by kernel_rfl)] at hBw10
    refine wpF_end (mid_mk (((Kpt.refl _).ext hEw9).blk hBw9 hCw10) (Chg.then ((Chg.refl _ _).trans hEw9.chg) hCw10 (fun k hk hs => by have h : k = _ := hs; first | (left; omega) | (exfalso; omega) | (right; simp [h]; done))) (fun w11 hBkw11 => ?_))
    have hzw11 := hBkw11.size
    refine wpC_block (wpC_region ?_)
    have hK4 := (((((hB8.ext hEw9)).chg hCw10 (fun hs => by have h : _ = _ := hs; omega))).book hBkw11)
    refine wpF_step (op_v (some 27) (Instr.loadAt 54 (vP w4.heap.size 0)) (.slice (pA w3.heap.size 0) k (hgt n + 1)) (rn_ld (hK4.cell rfl)) ?_)
    refine wpF_step (op_v (some 28) (Instr.loadAt 45 (vP w8.heap.size 0)) (vA [(vI k), (vI (qs i (k + 1)))]) (rn_lda (vs := [(vI k), (vI (qs i (k + 1)))]) (((hBw10).book hBkw11).all)) ?_)
    refine wpF_step (op_new (some 29) (Instr.buildSlice 54 1 #[(0, (vA [(vI k), (vI (qs i (k + 1)))]))]) (.slice (pA w11.heap.size 0) 1 1) [(vI k), (vI (qs i (k + 1)))] 45 ?_)
    intro w12 hBw12 hEw12
    have hzw12 := hEw12.size; have hlw12 := hBw12.lt
    have hK5 := (((((((hBo.ext hEw9)).chg hCw10 (fun hs => by have h : _ = _ := hs; omega))).book hBkw11)).ext hEw12)
    refine wpF_step (op_appendB (some 30) 54 54 45 2 w3.heap.size k (hgt n + 1) ⟨w11.heap.size, 0, none⟩ 1 1 hK5 (SlA.of_blk hBw12 (Nat.le_refl _) (by decide) (Nat.le_refl _) (Nat.lt_succ_self _)) rfl (plaV_one (k, qs i (k + 1))) (by rw [List.length_append, flatMap_len plaV_len, pup_length]; omega) ?_)
    have hK6 := (((((((hBo.ext hEw9)).chg hCw10 (fun hs => by have h : _ = _ := hs; omega))).book hBkw11)).ext hEw12)
    intro w13 hBw13 hCw13
    have hzw13 := hCw13.size
    replace hBw13 : Blk w13 w3.heap.size (((pup i k) ++ [(k, qs i (k + 1))]).flatMap plaV ++ r.drop 2) 45 := (app_mid (sz := 2) (r := r) plaV_len (pup_length i k) (k, qs i (k + 1)) (by omega)) ▸ hBw13
    refine wpF_step (op_store1 54 w4.heap.size 0 54 (.slice (pA w3.heap.size 0) (k + 1) (hgt n + 1)) ([(.slice (pA w3.heap.size 0) k (hgt n + 1))]) (((hK4.ext hEw12)).chg hCw13 (fun hs => by have h : _ = _ := hs; omega)) (by first | decide | (simp; done) | (simp; omega)) ?_)
    intro w14 hBw14 hCw14
    have hzw14 := hCw14.size
    replace hBw14 := hBw14.set1
    refine wpF_end (inBlock_normal ?_)
    have hX2 : Ext w w14 := (Ext.own (Ext.own (((Ext.own (hEw.trans hEw9) hCw10 (by omega)).book hBkw11 (by omega)).trans hEw12) hCw13 (by omega)) hCw14 (by omega))
    exact rpost_normal ((((Kpt.refl _).ext hEw12).blk hK6 hCw13).blk (((hK4.ext hEw12)).chg hCw13 (fun hs => by have h : _ = _ := hs; omega)) hCw14) (Chg.then (Chg.then ((Chg.refl _ _).trans hEw12.chg) hCw13 (fun k hk hs => by have h : k = _ := hs; first | (left; omega) | (exfalso; omega) | (right; simp [h]; done))) hCw14 (fun k hk hs => by have h : k = _ := hs; first | (left; omega) | (exfalso; omega) | (right; simp [h]; done))) (⟨_, by rw [pup_succ, idx_qs]; exact ((hBw13).chg hCw14 (fun hs => by have h : _ = _ := hs; omega)), by rw [List.length_drop]; omega, hBw14, hX2⟩)
  · rintro D w15 hD ⟨r, hBo, hr, hB8, hEw⟩ hM
    have hlo8 := hB8.lt; have hloo := hBo.lt; have hzr := hEw.size
    obtain rfl : r = [] := List.eq_nil_of_length_eq_zero (by omega)
    rw [List.append_nil] at hBo
    have hMl := hM.lt
    refine inBlock_normal (then_code (wpC_seq (wpC_region (wpF_step (op_v (some 31) (Instr.loadAt 54 (vP w4.heap.size 0)) (.slice (pA w3.heap.size 0) (hgt n + 1) (hgt n + 1)) (rn_ld (hB8.cell rfl)) ?_)))))
    refine wpF_step (op_call (some 32) (c_Reverse (l := (pup i (hgt n + 1))) _ hBo (by rw [pup_length]) (by omega)) ?_)
    rintro _ w16 ⟨rfl, hBw16, hCw16⟩
    have hzw16 := hCw16.size
    refine wpF_end (then_code (wpC_seq (wpC_region (wpF_step (op_v (some 33) (Instr.loadAt 54 (vP w4.heap.size 0)) (.slice (pA w3.heap.size 0) (hgt n + 1) (hgt n + 1)) (rn_ld (((hB8).chg hCw16 (fun hs => by have h : _ = _ := hs; omega)).cell rfl)) ?_)))))
    refine wpF_run 2 [(5, (vI 0)), (4, (.slice (pA w3.heap.size 0) (hgt n + 1) (hgt n + 1)))] (wpF_end (then_code (wpC_ret ?_)))
    obtain ⟨w17, hTw17, hCw17, hBkw17⟩ := take_mark (P := Try.prog) ((hM).chg hCw16 (fun hs => by have h : _ = _ := hs; omega))
    have hzw17 := hCw17.size
    exact bodyM_rets hTw17 (.tuple #[(.slice (pA w3.heap.size 0) (hgt n + 1) (hgt n + 1)), (vI 0)]) (⟨_, rfl, Ms.of_pre (r := []) (by rw [List.append_nil]; exact ((hBw16).chg hCw17 (fun hs => by have h : _ = _ := hs; omega))) plaV_len (pathL_length n i).symm (Nat.le_refl _) (by simp only [maxLen]; omega) (by omega) (by have := (((hBw16).chg hCw17 (fun hs => by have h : _ = _ := hs; omega))).lt; omega), (Ext.own (Ext.own hEw hCw16 (by omega)) hCw17 (by omega))⟩)
  · intro D cc k w18 hD hk hx; exact hx.elim

end Go.Proofs.Ytpcbhalagllhnaa
