/- CsN5: what each function does, by its own code. No condition beyond those of each statement. -/
import Derived.Test.YthjplefmfjkhfaaDoorCsN4
namespace Go.Proofs.YthjplefmfjkhfaaDoor
open Go Go.RowKit Go.Cs
set_option maxRecDepth 100000
set_option linter.all false
set_option linter.unusedVariables false

theorem c_NPut0 (x : Nod)  (w : World) (hp0 : chkN x = 0) (hp1 : x.lv = 0) (hg0 : Gl 0 [vI 45, vI 33] w) :
    Calls Tryd.prog 35 #[(vA (nodC x))] w (Ret fun r w' => ∃ a0, r = (.tuple #[(.slice (pA a0 0) 185 185), (vI 0)]) ∧ w.heap.size ≤ a0 ∧ Blk w' a0 (u8s (nodB x)) 5 ∧ 185 = (nodB x).length ∧ 185 ≤ 1099511627776 ∧ Ext w w') := by
  refine calls_of (n := 44) (σ := [(0, (vA (nodC x)))]) Tryd.func35 rfl ?_
  have hgl0 := hg0.lt
  have hlvx := x.hlv
  have hixx := x.hix
  refine wpC_seq (wpC_region (wpF_step (op_new (some 1) (Instr.box 78 (vA (nodC x))) (vP w.heap.size 0) (nodC x) 78 ?_)))
  intro w1 hBw1 hEw1
  have hzw1 := hEw1.size; have hlw1 := hBw1.lt
  refine wpF_run 2 [(3, (vI 0)), (2, (.slice none 0 0))] (wpF_end (then_code (wpC_seq (wpC_seq (wpC_region (wpF_step (op_v (some 8) (Instr.loadAt 78 (vP w.heap.size 0)) (vA (nodC x)) (rn_lda (vs := nodC x) (hBw1.all) (by rw [nodC_len]; kernel_rfl)) ?_)))))))
  refine wpF_step (op_call (some 9) (c_NCheck x _) ?_)
  rintro _ w2 ⟨rfl, hEw2⟩
  have hzw2 := hEw2.size
  refine wpF_run 1 [(4, (vI (chkN x)))] (wpF_end (then_code (wpC_seq (wpC_region (wpF_run 1 [(10, (vI (chkN x)))] (wpF_step (op_b (some 11) (((chkN x : Nat) : Int) != ((0 : Nat) : Int)) false (cmpNeF (by omega)) ?_)))))))
  refine wpF_end (then_code (wpC_false (wpC_skip (then_code (wpC_seq (wpC_region (wpF_run 1 [(13, (vP w.heap.size 0))] (wpF_step (op_v (some 14) (Instr.loadAt 5 (vP w.heap.size 0)) (vB x.lv) (rn_ld ((hBw1.ext hEw2).cell rfl)) ?_)))))))))
  refine wpF_step (op_call (some 15) (c_kind x.lv _) ?_)
  rintro _ _ ⟨rfl, rfl⟩
  rw [show min x.lv 1 = 0 from by omega]
  refine wpF_run 1 [(5, (vI 0))] (wpF_end (then_code (wpC_seq (wpC_region (wpF_run 1 [(16, (vI 0))] (wpF_step (op_v (some 17) (Instr.indexAt 61 (vP 0 0) (vI 0)) (vP 0 0) (rn_ixa (E := 3) (sz := 1) (m := 2) (by omega)) ?_)))))))
  refine wpF_step (op_v (some 18) (Instr.loadAt 3 (vP 0 0)) (vI 45) (rn_ld ((((hg0.ext hEw1)).ext hEw2).all.one 0 (vI 45) rfl)) ?_)
  refine wpF_step (op_in (some 19) .i64 (IntKind.i64.wrap (((4 : Nat) : Int) * ((45 : Nat) : Int))) 180 (wrapS (by omega) (by omega) (by omega)) ?_)
  refine wpF_step (op_in (some 20) .i64 (IntKind.i64.wrap (((5 : Nat) : Int) + ((180 : Nat) : Int))) 185 (wrapS (by omega) (by omega) (by omega)) ?_)
  refine wpF_step (op_make (some 21) 91 5 1 1 0 185 .i64 .i64 (vB 0) (by omega) (by omega) (by omega) ?_)
  rw [made_one _ rfl]
  intro w3 hBw3 hEw3
  have hzw3 := hEw3.size; have hlw3 := hBw3.lt
  refine wpF_step (op_new (some 6) (Instr.alloc 91 true (.tuple #[])) (vP w3.heap.size 0) ([(.slice none 0 0)]) 91 ?_)
  intro w4 hBw4 hEw4
  have hzw4 := hEw4.size; have hlw4 := hBw4.lt
  refine wpF_step (op_store1 91 w3.heap.size 0 91 (.slice (pA w2.heap.size 0) 0 185) ([(.slice none 0 0)]) hBw4 (by first | decide | (simp; done) | (simp; omega)) ?_)
  intro w5 hBw5 hCw5
  have hzw5 := hCw5.size
  replace hBw5 := hBw5.set1
  refine wpF_end (then_code (wpC_seq (wpC_region (wpF_step (op_v (some 22) (Instr.loadAt 91 (vP w3.heap.size 0)) (.slice (pA w2.heap.size 0) 0 185) (rn_ld (hBw5.cell rfl)) ?_)))))
  refine wpF_run 1 [(23, (vP w.heap.size 0))] ?_
  have hK1 := (((((((hBw1.ext hEw2)).ext hEw3)).ext hEw4)).chg hCw5 (fun hs => by have h : _ = _ := hs; omega))
  refine wpF_step (op_v (some 24) (Instr.loadAt 5 (vP w.heap.size 0)) (vB x.lv) (rn_ld (hK1.cell rfl)) ?_)
  refine wpF_step (op_new (some 25) (Instr.buildSlice 91 1 #[(0, (vB x.lv))]) (.slice (pA w5.heap.size 0) 1 1) [(vB x.lv)] 5 ?_)
  intro w6 hBw6 hEw6
  have hzw6 := hEw6.size; have hlw6 := hBw6.lt
  have hSw6 : Bs w5.heap.size (w5.heap.size + 1) w6 (pA w5.heap.size 0) 1 1 [UInt8.ofNat x.lv] := Bs.of_blk hBw6 (u8s_sing x.hlv) rfl (Nat.le_refl _) (by decide) (Nat.le_refl _) (Nat.lt_succ_self _)
  have hK2 := (((((hBw3.ext hEw4)).chg hCw5 (fun hs => by have h : _ = _ := hs; omega))).ext hEw6)
  have hZw2 : Blk w6 w2.heap.size (u8s [] ++ List.replicate 185 (vB 0)) 5 := hK2
  refine wpF_step (op_appendB (some 26) 91 91 5 1 w2.heap.size 0 185 ⟨w5.heap.size, 0, none⟩ 1 1 hZw2 hSw6.sla (by rw [u8s_length, ← hSw6.len_eq, Nat.mul_one]) (u8s_one _) (by rw [List.length_append, u8s_length, (show ([] : List UInt8).length = 0 from rfl), List.length_replicate, Nat.mul_one]; omega) ?_ (by omega))
  intro w7 hBw7 hCw7
  have hzw7 := hCw7.size
  rw [app_u8 (show ([] : List UInt8).length = 0 from rfl) hSw6.len_eq.symm (by omega)] at hBw7
  rw [show 185 - 1 = 184 from rfl] at hBw7
  have hLw7 : ([] ++ ([UInt8.ofNat x.lv])).length = 0 + 1 := by rw [List.length_append, (show ([] : List UInt8).length = 0 from rfl), ← hSw6.len_eq]
  rw [show 0 + 1 = 1 from rfl]
  rw [show 0 + 1 = 1 from rfl] at hLw7
  refine wpF_step (op_store1 91 w3.heap.size 0 91 (.slice (pA w2.heap.size 0) 1 185) ([(.slice (pA w2.heap.size 0) 0 185)]) (((hBw5.ext hEw6)).chg hCw7 (fun hs => by have h : _ = _ := hs; omega)) (by first | decide | (simp; done) | (simp; omega)) ?_)
  intro w8 hBw8 hCw8
  have hzw8 := hCw8.size
  replace hBw8 := hBw8.set1
  refine wpF_end (then_code (wpC_seq (wpC_drawM (Chg (fun k => k = w3.heap.size ∨ k = w2.heap.size) w8.drew) 6 [(28, 64, 0), (29, 2, 0), (30, 268435456, 2), (31, 536870912, 4), (32, 1207959552, 9), (0, 2147483712, 31)] (fun hT107 => ?_))))
  have hEw9 : Ext w8 w8.drew := Ext.drew w8
  generalize w8.drew = w9 at hEw9 ⊢
  have hzw9 := hEw9.size
  refine anyM_run (hw := show Chg (fun k => k = w3.heap.size ∨ k = w2.heap.size) w9 w9 from (Chg.refl (fun k => k = w3.heap.size ∨ k = w2.heap.size) w9)) hT107 [(1, 28, (vP w.heap.size 1))] 1 2 ?_
  have hK3 := (((((((hK1.ext hEw6)).chg hCw7 (fun hs => by have h : _ = _ := hs; omega))).chg hCw8 (fun hs => by have h : _ = _ := hs; omega))).ext hEw9)
  refine anyM_take (hw := show Chg (fun k => k = w3.heap.size ∨ k = w2.heap.size) w9 w9 from (Chg.refl (fun k => k = w3.heap.size ∨ k = w2.heap.size) w9)) hT107 2 6 (some 29) (vW x.ix) (yld_val (Instr.loadAt 68 (vP w.heap.size 1)) (fun w' hC => rn_ld ((hK3.chg hC (fun hs => by rcases hs with hs | hs <;> omega)).cell rfl))) (anyM_two 0 3 7 14 ?_ ?_)
  · refine op_v (some 27) (Instr.loadAt 91 (vP w3.heap.size 0)) (.slice (pA w2.heap.size 0) 1 185) (rn_ld ((hBw8.ext hEw9).cell rfl)) (⟨.inr (Chg.refl (fun k => k = w3.heap.size ∨ k = w2.heap.size) w9), ?_⟩)
    refine anyM_one 3 15 (op_call (some 30) (c_Put32 x.ix _ (by omega)) ?_)
    rintro _ w10 ⟨a1, rfl, hFz3_0, hEw10⟩
    have hzw10 := hEw10.size
    refine ⟨.inr ((Chg.refl (fun k => k = w3.heap.size ∨ k = w2.heap.size) w9).trans hEw10.chg), ?_⟩
    obtain ⟨b1, o1, rfl⟩ := hFz3_0.addr (by omega)
    have hK4 := ((((((hBw7).chg hCw8 (fun hs => by have h : _ = _ := hs; omega))).ext hEw9)).ext hEw10)
    refine anyM_one 4 31 (op_appendB (some 31) 91 91 5 1 w2.heap.size 1 185 ⟨b1, o1, none⟩ 4 4 hK4 hFz3_0.sla (by rw [u8s_length, ← hFz3_0.len_eq, Nat.mul_one]) (u8s_one _) (by rw [List.length_append, u8s_length, hLw7, List.length_replicate, Nat.mul_one]; omega) ?_ (by omega))
    intro w11 hBw11 hCw11
    have hzw11 := hCw11.size
    rw [app_u8 hLw7 hFz3_0.len_eq.symm (by omega)] at hBw11
    rw [show 184 - 4 = 180 from rfl] at hBw11
    have hLw11 : ([] ++ ([UInt8.ofNat x.lv]) ++ (be x.ix 4)).length = 1 + 4 := by rw [List.length_append, hLw7, ← hFz3_0.len_eq]
    rw [show 1 + 4 = 5 from rfl]
    rw [show 1 + 4 = 5 from rfl] at hLw11
    refine ⟨.inr (Chg.then ((Chg.refl (fun k => k = w3.heap.size ∨ k = w2.heap.size) w9).trans hEw10.chg) hCw11 (fun k hk hs => by have h : k = _ := hs; first | exact hs | exact .inl h | exact .inr h | (exfalso; omega))), ?_⟩
    have hK5 := (((((hBw8.ext hEw9)).ext hEw10)).chg hCw11 (fun hs => by have h : _ = _ := hs; omega))
    refine anyM_one 5 63 (op_store1 91 w3.heap.size 0 91 (.slice (pA w2.heap.size 0) 5 185) ([(.slice (pA w2.heap.size 0) 1 185)]) hK5 (by first | decide | (simp; done) | (simp; omega)) ?_)
    have hK6 := (((((hBw8.ext hEw9)).ext hEw10)).chg hCw11 (fun hs => by have h : _ = _ := hs; omega))
    intro w12 hBw12 hCw12
    have hzw12 := hCw12.size
    replace hBw12 := hBw12.set1
    refine ⟨.inl (by kernel_rfl), ?_⟩
    refine anyM_done (then_code (wpC_seq (wpC_region (wpF_run 1 [(32, (.func (.func 45) #[] #[(vP w3.heap.size 0)]))] (wpF_step (op_new (some 7) (Instr.alloc 103 true (.tuple #[])) (vP w12.heap.size 0) ([.nilFunc]) 103 ?_))))))
    intro w13 hBw13 hEw13
    have hzw13 := hEw13.size; have hlw13 := hBw13.lt
    refine wpF_step (op_store1 103 w12.heap.size 0 103 (.func (.func 45) #[] #[(vP w3.heap.size 0)]) ([.nilFunc]) hBw13 (by first | decide | (simp; done) | (simp; omega)) ?_)
    intro w14 hBw14 hCw14
    have hzw14 := hCw14.size
    replace hBw14 := hBw14.set1
    refine wpF_end (then_code (wpC_seq (wpC_seq (wpC_region (wpF_run 1 [(33, (vI 0))] (wpF_step (op_b (some 34) (((0 : Nat) : Int) == ((0 : Nat) : Int)) true (cmpEqT (by omega)) ?_)))))))
    refine wpF_end (then_code (wpC_true (wpC_region (wpF_run 1 [(35, (vP w.heap.size 2))] ?_))))
    have hK7 := (((((((((hK3.ext hEw10)).chg hCw11 (fun hs => by have h : _ = _ := hs; omega))).chg hCw12 (fun hs => by have h : _ = _ := hs; omega))).ext hEw13)).chg hCw14 (fun hs => by have h : _ = _ := hs; omega))
    refine wpF_step (op_v (some 36) (Instr.loadAt 73 (vP w.heap.size 2)) (vA (r4C x.rs)) (rn_lda (vs := r4C x.rs) (hK7.at 2 (r4C x.rs) (nod_rs _)) (by rw [r4C_len]; kernel_rfl)) ?_)
    refine wpF_run 1 [(37, (.func (.func 47) #[] #[(vP w12.heap.size 0)]))] ?_
    have hK8 := ((((((hBw11).chg hCw12 (fun hs => by have h : _ = _ := hs; omega))).ext hEw13)).chg hCw14 (fun hs => by have h : _ = _ := hs; omega))
    refine wpF_step (op_call (some 38) (c_eachPR x.rs _ (((hBw12.ext hEw13)).chg hCw14 (fun hs => by have h : _ = _ := hs; omega)) hK8 hLw11 rfl (by decide) (by omega) hBw14 (by omega) (by omega) (chkN_rs hp0 hp1) (by omega)) ?_)
    rintro _ w15 ⟨rfl, hRw15, hPw15, hQw15, hCw15⟩
    have hzw15 := hCw15.size
    refine wpF_end (then_code (wpC_seq (wpC_region (wpF_step (op_v (some 43) (Instr.loadAt 91 (vP w3.heap.size 0)) (.slice (pA w2.heap.size 0) 185 185) (rn_ld (hPw15.cell rfl)) ?_)))))
    refine wpF_run 2 [(3, (vI 0)), (2, (.slice (pA w2.heap.size 0) 185 185))] (wpF_end (then_code (wpC_ret (body_rets (.tuple #[(.slice (pA w2.heap.size 0) 185 185), (vI 0)]) ?_))))
    have hX1 : Ext w w15 := (Ext.ownS (Ext.own ((Ext.own (Ext.own (((Ext.own (Ext.own ((Ext.own (((hEw1.trans hEw2).trans hEw3).trans hEw4) hCw5 (by omega)).trans hEw6) hCw7 (by omega)) hCw8 (by omega)).trans hEw9).trans hEw10) hCw11 (by omega)) hCw12 (by omega)).trans hEw13) hCw14 (by omega)) hCw15 (fun k hs hk => by rcases hs with hs | hs <;> omega))
    have hfin := hQw15
    rw [show u8s ([] ++ ([UInt8.ofNat x.lv]) ++ (be x.ix 4) ++ catA recB (x.rs.get) 4) ++ List.replicate (0) (vB 0) = u8s (nodB x) from by rw [List.replicate_zero, List.append_nil]; unfold nodB; rw [if_pos hp1]; simp [hedB]] at hfin
    exact ⟨_, rfl, by omega, hfin, by rw [nodB_len, if_pos hp1], by decide, hX1⟩
  · refine op_call (some 30) (c_Put32 x.ix _ (by omega)) ?_
    rintro _ w16 ⟨a2, rfl, hFz4_0, hEw16⟩
    have hzw16 := hEw16.size
    refine ⟨.inr ((Chg.refl (fun k => k = w3.heap.size ∨ k = w2.heap.size) w9).trans hEw16.chg), ?_⟩
    refine anyM_one 0 15 (op_v (some 27) (Instr.loadAt 91 (vP w3.heap.size 0)) (.slice (pA w2.heap.size 0) 1 185) (rn_ld ((((hBw8.ext hEw9)).ext hEw16).cell rfl)) ?_)
    refine ⟨.inr ((Chg.refl (fun k => k = w3.heap.size ∨ k = w2.heap.size) w9).trans hEw16.chg), ?_⟩
    obtain ⟨b2, o2, rfl⟩ := hFz4_0.addr (by omega)
    have hK9 := ((((((hBw7).chg hCw8 (fun hs => by have h : _ = _ := hs; omega))).ext hEw9)).ext hEw16)
    refine anyM_one 4 31 (op_appendB (some 31) 91 91 5 1 w2.heap.size 1 185 ⟨b2, o2, none⟩ 4 4 hK9 hFz4_0.sla (by rw [u8s_length, ← hFz4_0.len_eq, Nat.mul_one]) (u8s_one _) (by rw [List.length_append, u8s_length, hLw7, List.length_replicate, Nat.mul_one]; omega) ?_ (by omega))
    intro w17 hBw17 hCw17
    have hzw17 := hCw17.size
    rw [app_u8 hLw7 hFz4_0.len_eq.symm (by omega)] at hBw17
    rw [show 184 - 4 = 180 from rfl] at hBw17
    have hLw17 : ([] ++ ([UInt8.ofNat x.lv]) ++ (be x.ix 4)).length = 1 + 4 := by rw [List.length_append, hLw7, ← hFz4_0.len_eq]
    rw [show 1 + 4 = 5 from rfl]
    rw [show 1 + 4 = 5 from rfl] at hLw17
    refine ⟨.inr (Chg.then ((Chg.refl (fun k => k = w3.heap.size ∨ k = w2.heap.size) w9).trans hEw16.chg) hCw17 (fun k hk hs => by have h : k = _ := hs; first | exact hs | exact .inl h | exact .inr h | (exfalso; omega))), ?_⟩
    have hK10 := (((((hBw8.ext hEw9)).ext hEw16)).chg hCw17 (fun hs => by have h : _ = _ := hs; omega))
    refine anyM_one 5 63 (op_store1 91 w3.heap.size 0 91 (.slice (pA w2.heap.size 0) 5 185) ([(.slice (pA w2.heap.size 0) 1 185)]) hK10 (by first | decide | (simp; done) | (simp; omega)) ?_)
    have hK11 := (((((hBw8.ext hEw9)).ext hEw16)).chg hCw17 (fun hs => by have h : _ = _ := hs; omega))
    intro w18 hBw18 hCw18
    have hzw18 := hCw18.size
    replace hBw18 := hBw18.set1
    refine ⟨.inl (by kernel_rfl), ?_⟩
    refine anyM_done (then_code (wpC_seq (wpC_region (wpF_run 1 [(32, (.func (.func 45) #[] #[(vP w3.heap.size 0)]))] (wpF_step (op_new (some 7) (Instr.alloc 103 true (.tuple #[])) (vP w18.heap.size 0) ([.nilFunc]) 103 ?_))))))
    intro w19 hBw19 hEw19
    have hzw19 := hEw19.size; have hlw19 := hBw19.lt
    refine wpF_step (op_store1 103 w18.heap.size 0 103 (.func (.func 45) #[] #[(vP w3.heap.size 0)]) ([.nilFunc]) hBw19 (by first | decide | (simp; done) | (simp; omega)) ?_)
    intro w20 hBw20 hCw20
    have hzw20 := hCw20.size
    replace hBw20 := hBw20.set1
    refine wpF_end (then_code (wpC_seq (wpC_seq (wpC_region (wpF_run 1 [(33, (vI 0))] (wpF_step (op_b (some 34) (((0 : Nat) : Int) == ((0 : Nat) : Int)) true (cmpEqT (by omega)) ?_)))))))
    refine wpF_end (then_code (wpC_true (wpC_region (wpF_run 1 [(35, (vP w.heap.size 2))] ?_))))
    have hK12 := (((((((((hK3.ext hEw16)).chg hCw17 (fun hs => by have h : _ = _ := hs; omega))).chg hCw18 (fun hs => by have h : _ = _ := hs; omega))).ext hEw19)).chg hCw20 (fun hs => by have h : _ = _ := hs; omega))
    refine wpF_step (op_v (some 36) (Instr.loadAt 73 (vP w.heap.size 2)) (vA (r4C x.rs)) (rn_lda (vs := r4C x.rs) (hK12.at 2 (r4C x.rs) (nod_rs _)) (by rw [r4C_len]; kernel_rfl)) ?_)
    refine wpF_run 1 [(37, (.func (.func 47) #[] #[(vP w18.heap.size 0)]))] ?_
    have hK13 := ((((((hBw17).chg hCw18 (fun hs => by have h : _ = _ := hs; omega))).ext hEw19)).chg hCw20 (fun hs => by have h : _ = _ := hs; omega))
    refine wpF_step (op_call (some 38) (c_eachPR x.rs _ (((hBw18.ext hEw19)).chg hCw20 (fun hs => by have h : _ = _ := hs; omega)) hK13 hLw17 rfl (by decide) (by omega) hBw20 (by omega) (by omega) (chkN_rs hp0 hp1) (by omega)) ?_)
    rintro _ w21 ⟨rfl, hRw21, hPw21, hQw21, hCw21⟩
    have hzw21 := hCw21.size
    refine wpF_end (then_code (wpC_seq (wpC_region (wpF_step (op_v (some 43) (Instr.loadAt 91 (vP w3.heap.size 0)) (.slice (pA w2.heap.size 0) 185 185) (rn_ld (hPw21.cell rfl)) ?_)))))
    refine wpF_run 2 [(3, (vI 0)), (2, (.slice (pA w2.heap.size 0) 185 185))] (wpF_end (then_code (wpC_ret (body_rets (.tuple #[(.slice (pA w2.heap.size 0) 185 185), (vI 0)]) ?_))))
    have hX2 : Ext w w21 := (Ext.ownS (Ext.own ((Ext.own (Ext.own (((Ext.own (Ext.own ((Ext.own (((hEw1.trans hEw2).trans hEw3).trans hEw4) hCw5 (by omega)).trans hEw6) hCw7 (by omega)) hCw8 (by omega)).trans hEw9).trans hEw16) hCw17 (by omega)) hCw18 (by omega)).trans hEw19) hCw20 (by omega)) hCw21 (fun k hs hk => by rcases hs with hs | hs <;> omega))
    have hfin := hQw21
    rw [show u8s ([] ++ ([UInt8.ofNat x.lv]) ++ (be x.ix 4) ++ catA recB (x.rs.get) 4) ++ List.replicate (0) (vB 0) = u8s (nodB x) from by rw [List.replicate_zero, List.append_nil]; unfold nodB; rw [if_pos hp1]; simp [hedB]] at hfin
    exact ⟨_, rfl, by omega, hfin, by rw [nodB_len, if_pos hp1], by decide, hX2⟩

theorem c_NPut1 (x : Nod)  (w : World) (hp0 : chkN x = 0) (hp1 : ¬ x.lv = 0) (hg0 : Gl 0 [vI 45, vI 33] w) :
    Calls Tryd.prog 35 #[(vA (nodC x))] w (Ret fun r w' => ∃ a0, r = (.tuple #[(.slice (pA a0 0) 137 137), (vI 0)]) ∧ w.heap.size ≤ a0 ∧ Blk w' a0 (u8s (nodB x)) 5 ∧ 137 = (nodB x).length ∧ 137 ≤ 1099511627776 ∧ Ext w w') := by
  refine calls_of (n := 44) (σ := [(0, (vA (nodC x)))]) Tryd.func35 rfl ?_
  have hgl0 := hg0.lt
  have hlvx := x.hlv
  have hixx := x.hix
  refine wpC_seq (wpC_region (wpF_step (op_new (some 1) (Instr.box 78 (vA (nodC x))) (vP w.heap.size 0) (nodC x) 78 ?_)))
  intro w1 hBw1 hEw1
  have hzw1 := hEw1.size; have hlw1 := hBw1.lt
  refine wpF_run 2 [(3, (vI 0)), (2, (.slice none 0 0))] (wpF_end (then_code (wpC_seq (wpC_seq (wpC_region (wpF_step (op_v (some 8) (Instr.loadAt 78 (vP w.heap.size 0)) (vA (nodC x)) (rn_lda (vs := nodC x) (hBw1.all) (by rw [nodC_len]; kernel_rfl)) ?_)))))))
  refine wpF_step (op_call (some 9) (c_NCheck x _) ?_)
  rintro _ w2 ⟨rfl, hEw2⟩
  have hzw2 := hEw2.size
  refine wpF_run 1 [(4, (vI (chkN x)))] (wpF_end (then_code (wpC_seq (wpC_region (wpF_run 1 [(10, (vI (chkN x)))] (wpF_step (op_b (some 11) (((chkN x : Nat) : Int) != ((0 : Nat) : Int)) false (cmpNeF (by omega)) ?_)))))))
  refine wpF_end (then_code (wpC_false (wpC_skip (then_code (wpC_seq (wpC_region (wpF_run 1 [(13, (vP w.heap.size 0))] (wpF_step (op_v (some 14) (Instr.loadAt 5 (vP w.heap.size 0)) (vB x.lv) (rn_ld ((hBw1.ext hEw2).cell rfl)) ?_)))))))))
  refine wpF_step (op_call (some 15) (c_kind x.lv _) ?_)
  rintro _ _ ⟨rfl, rfl⟩
  rw [show min x.lv 1 = 1 from by omega]
  refine wpF_run 1 [(5, (vI 1))] (wpF_end (then_code (wpC_seq (wpC_region (wpF_run 1 [(16, (vI 1))] (wpF_step (op_v (some 17) (Instr.indexAt 61 (vP 0 0) (vI 1)) (vP 0 1) (rn_ixa (E := 3) (sz := 1) (m := 2) (by omega)) ?_)))))))
  refine wpF_step (op_v (some 18) (Instr.loadAt 3 (vP 0 1)) (vI 33) (rn_ld ((((hg0.ext hEw1)).ext hEw2).all.one 1 (vI 33) rfl)) ?_)
  refine wpF_step (op_in (some 19) .i64 (IntKind.i64.wrap (((4 : Nat) : Int) * ((33 : Nat) : Int))) 132 (wrapS (by omega) (by omega) (by omega)) ?_)
  refine wpF_step (op_in (some 20) .i64 (IntKind.i64.wrap (((5 : Nat) : Int) + ((132 : Nat) : Int))) 137 (wrapS (by omega) (by omega) (by omega)) ?_)
  refine wpF_step (op_make (some 21) 91 5 1 1 0 137 .i64 .i64 (vB 0) (by omega) (by omega) (by omega) ?_)
  rw [made_one _ rfl]
  intro w3 hBw3 hEw3
  have hzw3 := hEw3.size; have hlw3 := hBw3.lt
  refine wpF_step (op_new (some 6) (Instr.alloc 91 true (.tuple #[])) (vP w3.heap.size 0) ([(.slice none 0 0)]) 91 ?_)
  intro w4 hBw4 hEw4
  have hzw4 := hEw4.size; have hlw4 := hBw4.lt
  refine wpF_step (op_store1 91 w3.heap.size 0 91 (.slice (pA w2.heap.size 0) 0 137) ([(.slice none 0 0)]) hBw4 (by first | decide | (simp; done) | (simp; omega)) ?_)
  intro w5 hBw5 hCw5
  have hzw5 := hCw5.size
  replace hBw5 := hBw5.set1
  refine wpF_end (then_code (wpC_seq (wpC_region (wpF_step (op_v (some 22) (Instr.loadAt 91 (vP w3.heap.size 0)) (.slice (pA w2.heap.size 0) 0 137) (rn_ld (hBw5.cell rfl)) ?_)))))
  refine wpF_run 1 [(23, (vP w.heap.size 0))] ?_
  have hK1 := (((((((hBw1.ext hEw2)).ext hEw3)).ext hEw4)).chg hCw5 (fun hs => by have h : _ = _ := hs; omega))
  refine wpF_step (op_v (some 24) (Instr.loadAt 5 (vP w.heap.size 0)) (vB x.lv) (rn_ld (hK1.cell rfl)) ?_)
  refine wpF_step (op_new (some 25) (Instr.buildSlice 91 1 #[(0, (vB x.lv))]) (.slice (pA w5.heap.size 0) 1 1) [(vB x.lv)] 5 ?_)
  intro w6 hBw6 hEw6
  have hzw6 := hEw6.size; have hlw6 := hBw6.lt
  have hSw6 : Bs w5.heap.size (w5.heap.size + 1) w6 (pA w5.heap.size 0) 1 1 [UInt8.ofNat x.lv] := Bs.of_blk hBw6 (u8s_sing x.hlv) rfl (Nat.le_refl _) (by decide) (Nat.le_refl _) (Nat.lt_succ_self _)
  have hK2 := (((((hBw3.ext hEw4)).chg hCw5 (fun hs => by have h : _ = _ := hs; omega))).ext hEw6)
  have hZw2 : Blk w6 w2.heap.size (u8s [] ++ List.replicate 137 (vB 0)) 5 := hK2
  refine wpF_step (op_appendB (some 26) 91 91 5 1 w2.heap.size 0 137 ⟨w5.heap.size, 0, none⟩ 1 1 hZw2 hSw6.sla (by rw [u8s_length, ← hSw6.len_eq, Nat.mul_one]) (u8s_one _) (by rw [List.length_append, u8s_length, (show ([] : List UInt8).length = 0 from rfl), List.length_replicate, Nat.mul_one]; omega) ?_ (by omega))
  intro w7 hBw7 hCw7
  have hzw7 := hCw7.size
  rw [app_u8 (show ([] : List UInt8).length = 0 from rfl) hSw6.len_eq.symm (by omega)] at hBw7
  rw [show 137 - 1 = 136 from rfl] at hBw7
  have hLw7 : ([] ++ ([UInt8.ofNat x.lv])).length = 0 + 1 := by rw [List.length_append, (show ([] : List UInt8).length = 0 from rfl), ← hSw6.len_eq]
  rw [show 0 + 1 = 1 from rfl]
  rw [show 0 + 1 = 1 from rfl] at hLw7
  refine wpF_step (op_store1 91 w3.heap.size 0 91 (.slice (pA w2.heap.size 0) 1 137) ([(.slice (pA w2.heap.size 0) 0 137)]) (((hBw5.ext hEw6)).chg hCw7 (fun hs => by have h : _ = _ := hs; omega)) (by first | decide | (simp; done) | (simp; omega)) ?_)
  intro w8 hBw8 hCw8
  have hzw8 := hCw8.size
  replace hBw8 := hBw8.set1
  refine wpF_end (then_code (wpC_seq (wpC_drawM (Chg (fun k => k = w3.heap.size ∨ k = w2.heap.size) w8.drew) 6 [(28, 64, 0), (29, 2, 0), (30, 268435456, 2), (31, 536870912, 4), (32, 1207959552, 9), (0, 2147483712, 31)] (fun hT261 => ?_))))
  have hEw9 : Ext w8 w8.drew := Ext.drew w8
  generalize w8.drew = w9 at hEw9 ⊢
  have hzw9 := hEw9.size
  refine anyM_run (hw := show Chg (fun k => k = w3.heap.size ∨ k = w2.heap.size) w9 w9 from (Chg.refl (fun k => k = w3.heap.size ∨ k = w2.heap.size) w9)) hT261 [(1, 28, (vP w.heap.size 1))] 1 2 ?_
  have hK3 := (((((((hK1.ext hEw6)).chg hCw7 (fun hs => by have h : _ = _ := hs; omega))).chg hCw8 (fun hs => by have h : _ = _ := hs; omega))).ext hEw9)
  refine anyM_take (hw := show Chg (fun k => k = w3.heap.size ∨ k = w2.heap.size) w9 w9 from (Chg.refl (fun k => k = w3.heap.size ∨ k = w2.heap.size) w9)) hT261 2 6 (some 29) (vW x.ix) (yld_val (Instr.loadAt 68 (vP w.heap.size 1)) (fun w' hC => rn_ld ((hK3.chg hC (fun hs => by rcases hs with hs | hs <;> omega)).cell rfl))) (anyM_two 0 3 7 14 ?_ ?_)
  · refine op_v (some 27) (Instr.loadAt 91 (vP w3.heap.size 0)) (.slice (pA w2.heap.size 0) 1 137) (rn_ld ((hBw8.ext hEw9).cell rfl)) (⟨.inr (Chg.refl (fun k => k = w3.heap.size ∨ k = w2.heap.size) w9), ?_⟩)
    refine anyM_one 3 15 (op_call (some 30) (c_Put32 x.ix _ (by omega)) ?_)
    rintro _ w10 ⟨a1, rfl, hFz3_0, hEw10⟩
    have hzw10 := hEw10.size
    refine ⟨.inr ((Chg.refl (fun k => k = w3.heap.size ∨ k = w2.heap.size) w9).trans hEw10.chg), ?_⟩
    obtain ⟨b1, o1, rfl⟩ := hFz3_0.addr (by omega)
    have hK4 := ((((((hBw7).chg hCw8 (fun hs => by have h : _ = _ := hs; omega))).ext hEw9)).ext hEw10)
    refine anyM_one 4 31 (op_appendB (some 31) 91 91 5 1 w2.heap.size 1 137 ⟨b1, o1, none⟩ 4 4 hK4 hFz3_0.sla (by rw [u8s_length, ← hFz3_0.len_eq, Nat.mul_one]) (u8s_one _) (by rw [List.length_append, u8s_length, hLw7, List.length_replicate, Nat.mul_one]; omega) ?_ (by omega))
    intro w11 hBw11 hCw11
    have hzw11 := hCw11.size
    rw [app_u8 hLw7 hFz3_0.len_eq.symm (by omega)] at hBw11
    rw [show 136 - 4 = 132 from rfl] at hBw11
    have hLw11 : ([] ++ ([UInt8.ofNat x.lv]) ++ (be x.ix 4)).length = 1 + 4 := by rw [List.length_append, hLw7, ← hFz3_0.len_eq]
    rw [show 1 + 4 = 5 from rfl]
    rw [show 1 + 4 = 5 from rfl] at hLw11
    refine ⟨.inr (Chg.then ((Chg.refl (fun k => k = w3.heap.size ∨ k = w2.heap.size) w9).trans hEw10.chg) hCw11 (fun k hk hs => by have h : k = _ := hs; first | exact hs | exact .inl h | exact .inr h | (exfalso; omega))), ?_⟩
    have hK5 := (((((hBw8.ext hEw9)).ext hEw10)).chg hCw11 (fun hs => by have h : _ = _ := hs; omega))
    refine anyM_one 5 63 (op_store1 91 w3.heap.size 0 91 (.slice (pA w2.heap.size 0) 5 137) ([(.slice (pA w2.heap.size 0) 1 137)]) hK5 (by first | decide | (simp; done) | (simp; omega)) ?_)
    have hK6 := (((((hBw8.ext hEw9)).ext hEw10)).chg hCw11 (fun hs => by have h : _ = _ := hs; omega))
    intro w12 hBw12 hCw12
    have hzw12 := hCw12.size
    replace hBw12 := hBw12.set1
    refine ⟨.inl (by kernel_rfl), ?_⟩
    refine anyM_done (then_code (wpC_seq (wpC_region (wpF_run 1 [(32, (.func (.func 45) #[] #[(vP w3.heap.size 0)]))] (wpF_step (op_new (some 7) (Instr.alloc 103 true (.tuple #[])) (vP w12.heap.size 0) ([.nilFunc]) 103 ?_))))))
    intro w13 hBw13 hEw13
    have hzw13 := hEw13.size; have hlw13 := hBw13.lt
    refine wpF_step (op_store1 103 w12.heap.size 0 103 (.func (.func 45) #[] #[(vP w3.heap.size 0)]) ([.nilFunc]) hBw13 (by first | decide | (simp; done) | (simp; omega)) ?_)
    intro w14 hBw14 hCw14
    have hzw14 := hCw14.size
    replace hBw14 := hBw14.set1
    refine wpF_end (then_code (wpC_seq (wpC_seq (wpC_region (wpF_run 1 [(33, (vI 1))] (wpF_step (op_b (some 34) (((1 : Nat) : Int) == ((0 : Nat) : Int)) false (cmpEqF (by omega)) ?_)))))))
    refine wpF_end (then_code (wpC_false (wpC_region (wpF_run 1 [(39, (vP w.heap.size 142))] ?_))))
    have hK7 := (((((((((hK3.ext hEw10)).chg hCw11 (fun hs => by have h : _ = _ := hs; omega))).chg hCw12 (fun hs => by have h : _ = _ := hs; omega))).ext hEw13)).chg hCw14 (fun hs => by have h : _ = _ := hs; omega))
    refine wpF_step (op_v (some 40) (Instr.loadAt 76 (vP w.heap.size 142)) (vA (e4C x.es)) (rn_lda (vs := e4C x.es) (hK7.at 142 (e4C x.es) (nod_es _)) (by rw [e4C_len]; kernel_rfl)) ?_)
    refine wpF_run 1 [(41, (.func (.func 50) #[] #[(vP w12.heap.size 0)]))] ?_
    have hK8 := ((((((hBw11).chg hCw12 (fun hs => by have h : _ = _ := hs; omega))).ext hEw13)).chg hCw14 (fun hs => by have h : _ = _ := hs; omega))
    refine wpF_step (op_call (some 42) (c_eachPE x.es _ (((hBw12.ext hEw13)).chg hCw14 (fun hs => by have h : _ = _ := hs; omega)) hK8 hLw11 rfl (by decide) (by omega) hBw14 (by omega) (by omega) (chkN_es hp0 hp1) (by omega)) ?_)
    rintro _ w15 ⟨rfl, hRw15, hPw15, hQw15, hCw15⟩
    have hzw15 := hCw15.size
    refine wpF_end (then_code (wpC_seq (wpC_region (wpF_step (op_v (some 43) (Instr.loadAt 91 (vP w3.heap.size 0)) (.slice (pA w2.heap.size 0) 137 137) (rn_ld (hPw15.cell rfl)) ?_)))))
    refine wpF_run 2 [(3, (vI 0)), (2, (.slice (pA w2.heap.size 0) 137 137))] (wpF_end (then_code (wpC_ret (body_rets (.tuple #[(.slice (pA w2.heap.size 0) 137 137), (vI 0)]) ?_))))
    have hX1 : Ext w w15 := (Ext.ownS (Ext.own ((Ext.own (Ext.own (((Ext.own (Ext.own ((Ext.own (((hEw1.trans hEw2).trans hEw3).trans hEw4) hCw5 (by omega)).trans hEw6) hCw7 (by omega)) hCw8 (by omega)).trans hEw9).trans hEw10) hCw11 (by omega)) hCw12 (by omega)).trans hEw13) hCw14 (by omega)) hCw15 (fun k hs hk => by rcases hs with hs | hs <;> omega))
    have hfin := hQw15
    rw [show u8s ([] ++ ([UInt8.ofNat x.lv]) ++ (be x.ix 4) ++ catA entB (x.es.get) 4) ++ List.replicate (0) (vB 0) = u8s (nodB x) from by rw [List.replicate_zero, List.append_nil]; unfold nodB; rw [if_neg hp1]; simp [hedB]] at hfin
    exact ⟨_, rfl, by omega, hfin, by rw [nodB_len, if_neg hp1], by decide, hX1⟩
  · refine op_call (some 30) (c_Put32 x.ix _ (by omega)) ?_
    rintro _ w16 ⟨a2, rfl, hFz4_0, hEw16⟩
    have hzw16 := hEw16.size
    refine ⟨.inr ((Chg.refl (fun k => k = w3.heap.size ∨ k = w2.heap.size) w9).trans hEw16.chg), ?_⟩
    refine anyM_one 0 15 (op_v (some 27) (Instr.loadAt 91 (vP w3.heap.size 0)) (.slice (pA w2.heap.size 0) 1 137) (rn_ld ((((hBw8.ext hEw9)).ext hEw16).cell rfl)) ?_)
    refine ⟨.inr ((Chg.refl (fun k => k = w3.heap.size ∨ k = w2.heap.size) w9).trans hEw16.chg), ?_⟩
    obtain ⟨b2, o2, rfl⟩ := hFz4_0.addr (by omega)
    have hK9 := ((((((hBw7).chg hCw8 (fun hs => by have h : _ = _ := hs; omega))).ext hEw9)).ext hEw16)
    refine anyM_one 4 31 (op_appendB (some 31) 91 91 5 1 w2.heap.size 1 137 ⟨b2, o2, none⟩ 4 4 hK9 hFz4_0.sla (by rw [u8s_length, ← hFz4_0.len_eq, Nat.mul_one]) (u8s_one _) (by rw [List.length_append, u8s_length, hLw7, List.length_replicate, Nat.mul_one]; omega) ?_ (by omega))
    intro w17 hBw17 hCw17
    have hzw17 := hCw17.size
    rw [app_u8 hLw7 hFz4_0.len_eq.symm (by omega)] at hBw17
    rw [show 136 - 4 = 132 from rfl] at hBw17
    have hLw17 : ([] ++ ([UInt8.ofNat x.lv]) ++ (be x.ix 4)).length = 1 + 4 := by rw [List.length_append, hLw7, ← hFz4_0.len_eq]
    rw [show 1 + 4 = 5 from rfl]
    rw [show 1 + 4 = 5 from rfl] at hLw17
    refine ⟨.inr (Chg.then ((Chg.refl (fun k => k = w3.heap.size ∨ k = w2.heap.size) w9).trans hEw16.chg) hCw17 (fun k hk hs => by have h : k = _ := hs; first | exact hs | exact .inl h | exact .inr h | (exfalso; omega))), ?_⟩
    have hK10 := (((((hBw8.ext hEw9)).ext hEw16)).chg hCw17 (fun hs => by have h : _ = _ := hs; omega))
    refine anyM_one 5 63 (op_store1 91 w3.heap.size 0 91 (.slice (pA w2.heap.size 0) 5 137) ([(.slice (pA w2.heap.size 0) 1 137)]) hK10 (by first | decide | (simp; done) | (simp; omega)) ?_)
    have hK11 := (((((hBw8.ext hEw9)).ext hEw16)).chg hCw17 (fun hs => by have h : _ = _ := hs; omega))
    intro w18 hBw18 hCw18
    have hzw18 := hCw18.size
    replace hBw18 := hBw18.set1
    refine ⟨.inl (by kernel_rfl), ?_⟩
    refine anyM_done (then_code (wpC_seq (wpC_region (wpF_run 1 [(32, (.func (.func 45) #[] #[(vP w3.heap.size 0)]))] (wpF_step (op_new (some 7) (Instr.alloc 103 true (.tuple #[])) (vP w18.heap.size 0) ([.nilFunc]) 103 ?_))))))
    intro w19 hBw19 hEw19
    have hzw19 := hEw19.size; have hlw19 := hBw19.lt
    refine wpF_step (op_store1 103 w18.heap.size 0 103 (.func (.func 45) #[] #[(vP w3.heap.size 0)]) ([.nilFunc]) hBw19 (by first | decide | (simp; done) | (simp; omega)) ?_)
    intro w20 hBw20 hCw20
    have hzw20 := hCw20.size
    replace hBw20 := hBw20.set1
    refine wpF_end (then_code (wpC_seq (wpC_seq (wpC_region (wpF_run 1 [(33, (vI 1))] (wpF_step (op_b (some 34) (((1 : Nat) : Int) == ((0 : Nat) : Int)) false (cmpEqF (by omega)) ?_)))))))
    refine wpF_end (then_code (wpC_false (wpC_region (wpF_run 1 [(39, (vP w.heap.size 142))] ?_))))
    have hK12 := (((((((((hK3.ext hEw16)).chg hCw17 (fun hs => by have h : _ = _ := hs; omega))).chg hCw18 (fun hs => by have h : _ = _ := hs; omega))).ext hEw19)).chg hCw20 (fun hs => by have h : _ = _ := hs; omega))
    refine wpF_step (op_v (some 40) (Instr.loadAt 76 (vP w.heap.size 142)) (vA (e4C x.es)) (rn_lda (vs := e4C x.es) (hK12.at 142 (e4C x.es) (nod_es _)) (by rw [e4C_len]; kernel_rfl)) ?_)
    refine wpF_run 1 [(41, (.func (.func 50) #[] #[(vP w18.heap.size 0)]))] ?_
    have hK13 := ((((((hBw17).chg hCw18 (fun hs => by have h : _ = _ := hs; omega))).ext hEw19)).chg hCw20 (fun hs => by have h : _ = _ := hs; omega))
    refine wpF_step (op_call (some 42) (c_eachPE x.es _ (((hBw18.ext hEw19)).chg hCw20 (fun hs => by have h : _ = _ := hs; omega)) hK13 hLw17 rfl (by decide) (by omega) hBw20 (by omega) (by omega) (chkN_es hp0 hp1) (by omega)) ?_)
    rintro _ w21 ⟨rfl, hRw21, hPw21, hQw21, hCw21⟩
    have hzw21 := hCw21.size
    refine wpF_end (then_code (wpC_seq (wpC_region (wpF_step (op_v (some 43) (Instr.loadAt 91 (vP w3.heap.size 0)) (.slice (pA w2.heap.size 0) 137 137) (rn_ld (hPw21.cell rfl)) ?_)))))
    refine wpF_run 2 [(3, (vI 0)), (2, (.slice (pA w2.heap.size 0) 137 137))] (wpF_end (then_code (wpC_ret (body_rets (.tuple #[(.slice (pA w2.heap.size 0) 137 137), (vI 0)]) ?_))))
    have hX2 : Ext w w21 := (Ext.ownS (Ext.own ((Ext.own (Ext.own (((Ext.own (Ext.own ((Ext.own (((hEw1.trans hEw2).trans hEw3).trans hEw4) hCw5 (by omega)).trans hEw6) hCw7 (by omega)) hCw8 (by omega)).trans hEw9).trans hEw16) hCw17 (by omega)) hCw18 (by omega)).trans hEw19) hCw20 (by omega)) hCw21 (fun k hs hk => by rcases hs with hs | hs <;> omega))
    have hfin := hQw21
    rw [show u8s ([] ++ ([UInt8.ofNat x.lv]) ++ (be x.ix 4) ++ catA entB (x.es.get) 4) ++ List.replicate (0) (vB 0) = u8s (nodB x) from by rw [List.replicate_zero, List.append_nil]; unfold nodB; rw [if_neg hp1]; simp [hedB]] at hfin
    exact ⟨_, rfl, by omega, hfin, by rw [nodB_len, if_neg hp1], by decide, hX2⟩

theorem c_NPut (x : Nod)  (w : World) (hp0 : chkN x = 0) (hg0 : Gl 0 [vI 45, vI 33] w) :
    Calls Tryd.prog 35 #[(vA (nodC x))] w (Ret fun r w' => ∃ a0, r = (.tuple #[(.slice (pA a0 0) (nodL x) (nodL x)), (vI 0)]) ∧ w.heap.size ≤ a0 ∧ Blk w' a0 (u8s (nodB x)) 5 ∧ nodL x = (nodB x).length ∧ nodL x ≤ 1099511627776 ∧ Ext w w') := by
  by_cases h : x.lv = 0
  · rw [show nodL x = 185 from if_pos h]; exact c_NPut0 x w hp0 h hg0
  · rw [show nodL x = 137 from if_neg h]; exact c_NPut1 x w hp0 h hg0

end Go.Proofs.YthjplefmfjkhfaaDoor
