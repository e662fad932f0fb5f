/- CsN4: what each function does, by its own code. No condition beyond those of each statement. -/
import Derived.Test.YthjplefmfjkhfaaDoorCsN3
namespace Go.Proofs.YthjplefmfjkhfaaDoor
open Go Go.RowKit Go.Cs
set_option maxRecDepth 100000
set_option linter.all false
set_option linter.unusedVariables false

theorem c_put1 {b6 bm n cp m : Nat} {L : List UInt8} {lo hi k : Nat} {a : Option Addr} {cl : Nat} {l : List UInt8} (e : Nat) (w : World) (hb6 : Blk w b6 [(.slice (pA bm 0) n cp)] 91) (hbm : Blk w bm (u8s L ++ List.replicate m (vB 0)) 5) (hL : L.length = n) (hcp : n + m = cp) (hmx : cp ≤ 1000) (hne : b6 ≠ bm) (hl : Bs lo hi w a k cl l) (hk : 0 < k) (hkm : k ≤ m) :
    Calls Tryd.prog 45 #[(.slice a k cl), (vI e), (vP b6 0)] w (Ret fun r w' => r = (vI e) ∧ Blk w' b6 [(.slice (pA bm 0) (n + k) cp)] 91 ∧ Blk w' bm (u8s (L ++ l) ++ List.replicate (m - k) (vB 0)) 5 ∧ Chg (fun j => j = b6 ∨ j = bm) w w') := by
  refine calls_of (n := 10) (σ := [(0, (.slice a k cl)), (1, (vI e)), (2, (vP b6 0))]) Tryd.func45 rfl ?_
  have hle := hl.le
  refine wpC_seq (wpC_region (wpF_run 1 [(5, (vI 0))] (wpF_end (then_code (wpC_seq (wpC_region (wpF_step (op_v (some 6) (Instr.loadAt 91 (vP b6 0)) (.slice (pA bm 0) n cp) (rn_ld (hb6.cell rfl)) ?_))))))))
  refine wpF_run 1 [(7, (.slice a k cl))] ?_
  obtain ⟨b1, o1, rfl⟩ := hl.addr (by omega)
  refine wpF_step (op_appendB (some 8) 91 91 5 1 bm n cp ⟨b1, o1, none⟩ k cl hbm hl.sla (by rw [u8s_length, ← hl.len_eq, Nat.mul_one]) (u8s_one _) (by rw [List.length_append, u8s_length, hL, List.length_replicate, Nat.mul_one]; omega) ?_ (by omega))
  intro w1 hBw1 hCw1
  have hzw1 := hCw1.size
  rw [app_u8 hL hl.len_eq.symm (by omega)] at hBw1
  have hLw1 : (L ++ l).length = n + k := by rw [List.length_append, hL, ← hl.len_eq]
  refine wpF_step (op_store1 91 b6 0 91 (.slice (pA bm 0) (n + k) cp) ([(.slice (pA bm 0) n cp)]) ((hb6).chg hCw1 (fun hs => by have h : _ = _ := hs; omega)) (by first | decide | (simp; done) | (simp; omega)) ?_)
  intro w2 hBw2 hCw2
  have hzw2 := hCw2.size
  replace hBw2 := hBw2.set1
  exact wpF_end (then_code (wpC_seq (wpC_region (wpF_run 2 [(5, (vI e)), (9, (vI e))] (wpF_end (then_code (wpC_ret (body_rets (vI e) (⟨rfl, hBw2, ((hBw1).chg hCw2 (fun hs => by have h : _ = _ := hs; omega)), (Chg.then (Chg.then (Chg.refl (fun j => j = b6 ∨ j = bm) w) hCw1 (fun k hk hs => by have h : k = _ := hs; first | exact hs | exact .inl h | exact .inr h | (exfalso; omega))) hCw2 (fun k hk hs => by have h : k = _ := hs; first | exact hs | exact .inl h | exact .inr h | (exfalso; omega)))⟩)))))))))

theorem c_putR {b6 bm n cp m : Nat} {L : List UInt8} {b7 : Nat} (q : Rec) (w : World) (hb6 : Blk w b6 [(.slice (pA bm 0) n cp)] 91) (hbm : Blk w bm (u8s L ++ List.replicate m (vB 0)) 5) (hL : L.length = n) (hcp : n + m = cp) (hmx : cp ≤ 1000) (hne : b6 ≠ bm) (hb7 : Blk w b7 [(.func (.func 45) #[] #[(vP b6 0)])] 103) (h76 : b7 ≠ b6) (h7m : b7 ≠ bm) (hq : chkR q = 0) (hm : 45 ≤ m) :
    Calls Tryd.prog 47 #[(vA (recC q)), (vP b7 0)] w (Ret fun r w' => r = (vI 0) ∧ Blk w' b7 [(.func (.func 45) #[] #[(vP b6 0)])] 103 ∧ Blk w' b6 [(.slice (pA bm 0) (n + 45) cp)] 91 ∧ Blk w' bm (u8s (L ++ recB q) ++ List.replicate (m - 45) (vB 0)) 5 ∧ Chg (fun j => j = b6 ∨ j = bm) w w') := by
  refine calls_of (n := 10) (σ := [(0, (vA (recC q))), (1, (vP b7 0))]) Tryd.func47 rfl ?_
  have h6l := hb6.lt; have hml := hbm.lt; have h7l := hb7.lt
  refine wpC_seq (wpC_region (wpF_step (op_new (some 2) (Instr.box 72 (vA (recC q))) (vP w.heap.size 0) (recC q) 72 ?_)))
  intro w1 hBw1 hEw1
  have hzw1 := hEw1.size; have hlw1 := hBw1.lt
  refine wpF_run 1 [(3, (vI 0))] (wpF_end (then_code (wpC_seq (wpC_drawM (Chg (fun j => j = b6 ∨ j = bm) w1.drew) 7 [(5, 2, 0), (6, 4, 0), (7, 32, 2), (8, 64, 4), (9, 64, 4), (10, 400, 29), (4, 512, 63)] (fun hT31 => ?_)))))
  have hEw2 : Ext w1 w1.drew := Ext.drew w1
  generalize w1.drew = w2 at hEw2 ⊢
  have hzw2 := hEw2.size
  refine anyM_take (hw := show Chg (fun j => j = b6 ∨ j = bm) w2 w2 from (Chg.refl (fun j => j = b6 ∨ j = bm) w2)) hT31 0 1 (some 4) (.func (.func 45) #[] #[(vP b6 0)]) (yld_val (Instr.loadAt 103 (vP b7 0)) (fun w' hC => rn_ld (((((hb7.ext hEw1)).ext hEw2).chg hC (fun hs => by rcases hs with hs | hs <;> omega)).cell rfl))) (anyM_take (hw := show Chg (fun j => j = b6 ∨ j = bm) w2 w2 from (Chg.refl (fun j => j = b6 ∨ j = bm) w2)) hT31 1 3 (some 5) (vA (recC q)) (yld_val (Instr.loadAt 72 (vP w.heap.size 0)) (fun w' hC => rn_lda (vs := recC q) (((hBw1.ext hEw2).chg hC (fun hs => by rcases hs with hs | hs <;> omega)).all) (by rw [recC_len]; kernel_rfl))) (anyM_one 2 7 (op_call (some 6) (c_PutRecord q _ (by assumption)) ?_)))
  rintro _ w3 ⟨a1, rfl, hFz1_0, hEw3⟩
  have hzw3 := hEw3.size
  refine ⟨.inr ((Chg.refl (fun j => j = b6 ∨ j = bm) w2).trans hEw3.chg), ?_⟩
  refine anyM_run (hw := show Chg (fun j => j = b6 ∨ j = bm) w2 w3 from ((Chg.refl (fun j => j = b6 ∨ j = bm) w2).trans hEw3.chg)) hT31 [(3, 7, (.slice a1 45 45)), (4, 8, (vI 0))] 2 31 ?_
  have hK1 := (((((hb6.ext hEw1)).ext hEw2)).ext hEw3)
  have hK2 := (((((hbm.ext hEw1)).ext hEw2)).ext hEw3)
  refine anyM_one 5 63 (op_call (some 9) (c_put1 0 _ hK1 hK2 hL hcp hmx hne hFz1_0 (by omega) (by omega)) ?_)
  rintro _ w4 ⟨rfl, hPw4, hQw4, hCw4⟩
  have hzw4 := hCw4.size
  refine ⟨.inr (Chg.then ((Chg.refl (fun j => j = b6 ∨ j = bm) w2).trans hEw3.chg) hCw4 (fun k hk hs => by first | exact hs | (rcases hs with hs | hs <;> first | (left; omega) | (right; omega) | (exfalso; omega)))), ?_⟩
  refine anyM_run (hw := show Chg (fun j => j = b6 ∨ j = bm) w2 w4 from (Chg.then ((Chg.refl (fun j => j = b6 ∨ j = bm) w2).trans hEw3.chg) hCw4 (fun k hk hs => by first | exact hs | (rcases hs with hs | hs <;> first | (left; omega) | (right; omega) | (exfalso; omega))))) hT31 [(6, 3, (vI 0))] 1 127 (anyM_done (then_code (wpC_ret (body_rets (vI 0) ?_))))
  have hK3 := (((((((hb7.ext hEw1)).ext hEw2)).ext hEw3)).chg hCw4 (fun hs => by rcases hs with hs | hs <;> omega))
  exact ⟨rfl, hK3, hPw4, hQw4, (Chg.then ((((Chg.refl (fun j => j = b6 ∨ j = bm) w).trans hEw1.chg).trans hEw2.chg).trans hEw3.chg) hCw4 (fun k hk hs => by first | exact hs | (rcases hs with hs | hs <;> first | (left; omega) | (right; omega) | (exfalso; omega))))⟩

theorem c_eachPR {b6 bm n cp m : Nat} {L : List UInt8} {b7 : Nat} (x : R4) (w : World) (hb6 : Blk w b6 [(.slice (pA bm 0) n cp)] 91) (hbm : Blk w bm (u8s L ++ List.replicate m (vB 0)) 5) (hL : L.length = n) (hcp : n + m = cp) (hmx : cp ≤ 1000) (hne : b6 ≠ bm) (hb7 : Blk w b7 [(.func (.func 45) #[] #[(vP b6 0)])] 103) (h76 : b7 ≠ b6) (h7m : b7 ≠ bm) (hq : chkRs x = 0) (hm : 180 ≤ m) :
    Calls Tryd.prog 46 #[(vA (r4C x)), (.func (.func 47) #[] #[(vP b7 0)])] w (Ret fun r w' => r = (vI 0) ∧ Blk w' b7 [(.func (.func 45) #[] #[(vP b6 0)])] 103 ∧ Blk w' b6 [(.slice (pA bm 0) (n + 45 * 4) cp)] 91 ∧ Blk w' bm (u8s (L ++ catA recB x.get 4) ++ List.replicate (m - 45 * 4) (vB 0)) 5 ∧ Chg (fun j => j = b6 ∨ j = bm) w w') := by
  refine calls_of (n := 19) (σ := [(0, (vA (r4C x))), (1, (.func (.func 47) #[] #[(vP b7 0)]))]) Tryd.func46 rfl ?_
  have h6l := hb6.lt; have hml := hbm.lt; have h7l := hb7.lt
  refine wpC_seq (wpC_region (wpF_step (op_new (some 2) (Instr.box 73 (vA (r4C x))) (vP w.heap.size 0) (r4C x) 73 ?_)))
  intro w1 hBw1 hEw1
  have hzw1 := hEw1.size; have hlw1 := hBw1.lt
  refine wpF_run 1 [(4, (vI 0))] (wpF_end (then_code (wpC_seq (wpC_seq (wpC_region (wpF_step (op_v (some 8) (Instr.loadAt 73 (vP w.heap.size 0)) (vA (r4C x)) (rn_lda (vs := r4C x) (hBw1.all) (by rw [r4C_len]; kernel_rfl)) ?_)))))))
  refine wpF_run 1 [(9, (vI 0))] (wpF_end (then_code (wpC_block (wpC_loop (X := Nat) (fun i => [(9, (vI i))]) [4, 6, 7, 10, 11, 12, 13, 14, 15, 16, 17, 18] (fun i w2 => i ≤ 4 ∧ Blk w2 b7 ([(.func (.func 45) #[] #[(vP b6 0)])]) 103 ∧ Blk w2 b6 ([(.slice (pA bm 0) (n + 45 * i) cp)]) 91 ∧ Blk w2 bm (u8s (L ++ catA recB x.get i) ++ List.replicate (m - 45 * i) (vB 0)) 5 ∧ Chg (fun j => j = b6 ∨ j = bm) w w2) (fun i => 4 - i) 0 (by kernel_rfl) ⟨by omega, (hb7.ext hEw1), (hb6.ext hEw1), by have hz := (hbm.ext hEw1); simpa [catA] using hz, ((Chg.refl (fun j => j = b6 ∨ j = bm) w).trans hEw1.chg)⟩ ?_))))
  rintro i dw2 w2 ⟨hi, hR, hP, hQ, hCl⟩
  have hzl := hCl.size
  refine wpC_seq (wpC_region (wpF_step (op_split (some 10) (decide (((i : Nat) : Int) < ((4 : Nat) : Int))) (fun hc10 => ?_) (fun hc10 => ?_))))
  · replace hc10 : i < 4 := by have := of_d_t hc10; omega
    refine wpF_end (then_code (wpC_seq (wpC_true (wpC_skip (then_code (wpC_seq (wpC_block (wpC_seq (wpC_region ?_)))))))))
    refine wpF_step (op_v (some 11) (Instr.index 73 (vA (r4C x)) (vI i)) (vA (recC (x.get i))) (rn_idx (E := 72) (m := 4) (sz := 35) (us := recC (x.get i)) (by omega) (r4_at (by omega))) ?_)
    refine wpF_step (op_new (some 6) (Instr.alloc 72 true (.tuple #[])) (vP w2.heap.size 0) (recC Rec.zero) 72 ?_)
    intro w3 hBw3 hEw3
    have hzw3 := hEw3.size; have hlw3 := hBw3.lt
    refine wpF_step (op_store 72 w2.heap.size 0 72 (vA (recC (x.get i))) (recC Rec.zero) (recC (x.get i)) hBw3 (by rw [recC_len]; kernel_rfl) (by first | (simp; done) | (simp; omega)) (recC_one _) ?_)
    intro w4 hBw4 hCw4
    have hzw4 := hCw4.size
    rw [setFrom_all _ _ (by simp)] at hBw4
    refine wpF_end (then_code (wpC_seq (wpC_region (wpF_run 1 [(12, (.func (.func 47) #[] #[(vP b7 0)]))] (wpF_step (op_v (some 13) (Instr.loadAt 72 (vP w2.heap.size 0)) (vA (recC (x.get i))) (rn_lda (vs := recC (x.get i)) (hBw4.all) (by rw [recC_len]; kernel_rfl)) ?_))))))
    refine wpF_step (op_call (some 14) (c_putR (x.get i) _ (((hP.ext hEw3)).chg hCw4 (fun hs => by have h : _ = _ := hs; omega)) (((hQ.ext hEw3)).chg hCw4 (fun hs => by have h : _ = _ := hs; omega)) (by rw [List.length_append, catA_len recB_len]; omega) (by omega) hmx hne (((hR.ext hEw3)).chg hCw4 (fun hs => by have h : _ = _ := hs; omega)) h76 h7m (chkA_zero.1 hq _ (by omega)) (by omega)) ?_)
    rintro _ w5 ⟨rfl, hRw5, hPw5, hQw5, hCw5⟩
    have hzw5 := hCw5.size
    refine wpF_run 1 [(7, (vI 0))] (wpF_end (then_code (wpC_seq (wpC_region (wpF_run 2 [(16, vF), (15, (vI 0))] (wpF_end (then_code (wpC_false (wpC_skip ?_)))))))))
    refine inBlock_normal (then_code (wpC_region (wpF_step (op_in (some 18) .i64 (IntKind.i64.wrap (((i : Nat) : Int) + ((1 : Nat) : Int))) (i + 1) (wrapS (by omega) (by omega) (by omega)) ?_))))
    refine wpF_run 1 [(9, (vI (i + 1)))] (wpF_end (then_normal (endR_mk (i + 1) ?_ ?_)))
    · exact ⟨by omega, hRw5, by have hz := hPw5; rwa [show n + 45 * i + 45 = n + 45 * (i + 1) from by omega] at hz, by have hz := hQw5; rw [List.append_assoc] at hz; exact (show m - 45 * i - 45 = m - 45 * (i + 1) from by omega) ▸ hz, (Chg.then (Chg.then ((Chg.then (Chg.refl (fun j => j = b6 ∨ j = bm) w) hCl (fun k hk hs => by first | exact hs | (rcases hs with hs | hs <;> first | (left; omega) | (right; omega) | (exfalso; omega)))).trans hEw3.chg) hCw4 (fun k hk hs => by have h : k = _ := hs; first | exact hs | exact .inl h | exact .inr h | (exfalso; omega))) hCw5 (fun k hk hs => by first | exact hs | (rcases hs with hs | hs <;> first | (left; omega) | (right; omega) | (exfalso; omega))))⟩
    · first | omega | (dsimp only; omega)
  · replace hc10 : ¬ (i < 4) := by have := of_d_f hc10; omega
    refine wpF_end (then_code (wpC_seq (wpC_false (wpC_exit (then_exit (then_exit (inBlock_exit (then_code (wpC_seq ?_)))))))))
    refine wpC_region (wpF_run 1 [(4, (vI 0))] (wpF_end (then_code (wpC_ret (body_rets (vI 0) ?_)))))
    obtain rfl : i = 4 := by omega
    exact ⟨rfl, hR, hP, hQ, (Chg.then (Chg.refl (fun j => j = b6 ∨ j = bm) w) hCl (fun k hk hs => by first | exact hs | (rcases hs with hs | hs <;> first | (left; omega) | (right; omega) | (exfalso; omega))))⟩

theorem c_putE {b6 bm n cp m : Nat} {L : List UInt8} {b7 : Nat} (q : Ent) (w : World) (hb6 : Blk w b6 [(.slice (pA bm 0) n cp)] 91) (hbm : Blk w bm (u8s L ++ List.replicate m (vB 0)) 5) (hL : L.length = n) (hcp : n + m = cp) (hmx : cp ≤ 1000) (hne : b6 ≠ bm) (hb7 : Blk w b7 [(.func (.func 45) #[] #[(vP b6 0)])] 103) (h76 : b7 ≠ b6) (h7m : b7 ≠ bm) (hq : chkE q = 0) (hm : 33 ≤ m) :
    Calls Tryd.prog 50 #[(vA (entC q)), (vP b7 0)] w (Ret fun r w' => r = (vI 0) ∧ Blk w' b7 [(.func (.func 45) #[] #[(vP b6 0)])] 103 ∧ Blk w' b6 [(.slice (pA bm 0) (n + 33) cp)] 91 ∧ Blk w' bm (u8s (L ++ entB q) ++ List.replicate (m - 33) (vB 0)) 5 ∧ Chg (fun j => j = b6 ∨ j = bm) w w') := by
  refine calls_of (n := 10) (σ := [(0, (vA (entC q))), (1, (vP b7 0))]) Tryd.func50 rfl ?_
  have h6l := hb6.lt; have hml := hbm.lt; have h7l := hb7.lt
  refine wpC_seq (wpC_region (wpF_step (op_new (some 2) (Instr.box 75 (vA (entC q))) (vP w.heap.size 0) (entC q) 75 ?_)))
  intro w1 hBw1 hEw1
  have hzw1 := hEw1.size; have hlw1 := hBw1.lt
  refine wpF_run 1 [(3, (vI 0))] (wpF_end (then_code (wpC_seq (wpC_drawM (Chg (fun j => j = b6 ∨ j = bm) w1.drew) 7 [(5, 2, 0), (6, 4, 0), (7, 32, 2), (8, 64, 4), (9, 64, 4), (10, 400, 29), (4, 512, 63)] (fun hT94 => ?_)))))
  have hEw2 : Ext w1 w1.drew := Ext.drew w1
  generalize w1.drew = w2 at hEw2 ⊢
  have hzw2 := hEw2.size
  refine anyM_take (hw := show Chg (fun j => j = b6 ∨ j = bm) w2 w2 from (Chg.refl (fun j => j = b6 ∨ j = bm) w2)) hT94 0 1 (some 4) (.func (.func 45) #[] #[(vP b6 0)]) (yld_val (Instr.loadAt 103 (vP b7 0)) (fun w' hC => rn_ld (((((hb7.ext hEw1)).ext hEw2).chg hC (fun hs => by rcases hs with hs | hs <;> omega)).cell rfl))) (anyM_take (hw := show Chg (fun j => j = b6 ∨ j = bm) w2 w2 from (Chg.refl (fun j => j = b6 ∨ j = bm) w2)) hT94 1 3 (some 5) (vA (entC q)) (yld_val (Instr.loadAt 75 (vP w.heap.size 0)) (fun w' hC => rn_lda (vs := entC q) (((hBw1.ext hEw2).chg hC (fun hs => by rcases hs with hs | hs <;> omega)).all) (by rw [entC_len]; kernel_rfl))) (anyM_one 2 7 (op_call (some 6) (c_PutEntry q _ (by assumption)) ?_)))
  rintro _ w3 ⟨a1, rfl, hFz1_0, hEw3⟩
  have hzw3 := hEw3.size
  refine ⟨.inr ((Chg.refl (fun j => j = b6 ∨ j = bm) w2).trans hEw3.chg), ?_⟩
  refine anyM_run (hw := show Chg (fun j => j = b6 ∨ j = bm) w2 w3 from ((Chg.refl (fun j => j = b6 ∨ j = bm) w2).trans hEw3.chg)) hT94 [(3, 7, (.slice a1 33 33)), (4, 8, (vI 0))] 2 31 ?_
  have hK1 := (((((hb6.ext hEw1)).ext hEw2)).ext hEw3)
  have hK2 := (((((hbm.ext hEw1)).ext hEw2)).ext hEw3)
  refine anyM_one 5 63 (op_call (some 9) (c_put1 0 _ hK1 hK2 hL hcp hmx hne hFz1_0 (by omega) (by omega)) ?_)
  rintro _ w4 ⟨rfl, hPw4, hQw4, hCw4⟩
  have hzw4 := hCw4.size
  refine ⟨.inr (Chg.then ((Chg.refl (fun j => j = b6 ∨ j = bm) w2).trans hEw3.chg) hCw4 (fun k hk hs => by first | exact hs | (rcases hs with hs | hs <;> first | (left; omega) | (right; omega) | (exfalso; omega)))), ?_⟩
  refine anyM_run (hw := show Chg (fun j => j = b6 ∨ j = bm) w2 w4 from (Chg.then ((Chg.refl (fun j => j = b6 ∨ j = bm) w2).trans hEw3.chg) hCw4 (fun k hk hs => by first | exact hs | (rcases hs with hs | hs <;> first | (left; omega) | (right; omega) | (exfalso; omega))))) hT94 [(6, 3, (vI 0))] 1 127 (anyM_done (then_code (wpC_ret (body_rets (vI 0) ?_))))
  have hK3 := (((((((hb7.ext hEw1)).ext hEw2)).ext hEw3)).chg hCw4 (fun hs => by rcases hs with hs | hs <;> omega))
  exact ⟨rfl, hK3, hPw4, hQw4, (Chg.then ((((Chg.refl (fun j => j = b6 ∨ j = bm) w).trans hEw1.chg).trans hEw2.chg).trans hEw3.chg) hCw4 (fun k hk hs => by first | exact hs | (rcases hs with hs | hs <;> first | (left; omega) | (right; omega) | (exfalso; omega))))⟩

theorem c_eachPE {b6 bm n cp m : Nat} {L : List UInt8} {b7 : Nat} (x : E4) (w : World) (hb6 : Blk w b6 [(.slice (pA bm 0) n cp)] 91) (hbm : Blk w bm (u8s L ++ List.replicate m (vB 0)) 5) (hL : L.length = n) (hcp : n + m = cp) (hmx : cp ≤ 1000) (hne : b6 ≠ bm) (hb7 : Blk w b7 [(.func (.func 45) #[] #[(vP b6 0)])] 103) (h76 : b7 ≠ b6) (h7m : b7 ≠ bm) (hq : chkEs x = 0) (hm : 132 ≤ m) :
    Calls Tryd.prog 49 #[(vA (e4C x)), (.func (.func 50) #[] #[(vP b7 0)])] w (Ret fun r w' => r = (vI 0) ∧ Blk w' b7 [(.func (.func 45) #[] #[(vP b6 0)])] 103 ∧ Blk w' b6 [(.slice (pA bm 0) (n + 33 * 4) cp)] 91 ∧ Blk w' bm (u8s (L ++ catA entB x.get 4) ++ List.replicate (m - 33 * 4) (vB 0)) 5 ∧ Chg (fun j => j = b6 ∨ j = bm) w w') := by
  refine calls_of (n := 19) (σ := [(0, (vA (e4C x))), (1, (.func (.func 50) #[] #[(vP b7 0)]))]) Tryd.func49 rfl ?_
  have h6l := hb6.lt; have hml := hbm.lt; have h7l := hb7.lt
  refine wpC_seq (wpC_region (wpF_step (op_new (some 2) (Instr.box 76 (vA (e4C x))) (vP w.heap.size 0) (e4C x) 76 ?_)))
  intro w1 hBw1 hEw1
  have hzw1 := hEw1.size; have hlw1 := hBw1.lt
  refine wpF_run 1 [(4, (vI 0))] (wpF_end (then_code (wpC_seq (wpC_seq (wpC_region (wpF_step (op_v (some 8) (Instr.loadAt 76 (vP w.heap.size 0)) (vA (e4C x)) (rn_lda (vs := e4C x) (hBw1.all) (by rw [e4C_len]; kernel_rfl)) ?_)))))))
  refine wpF_run 1 [(9, (vI 0))] (wpF_end (then_code (wpC_block (wpC_loop (X := Nat) (fun i => [(9, (vI i))]) [4, 6, 7, 10, 11, 12, 13, 14, 15, 16, 17, 18] (fun i w2 => i ≤ 4 ∧ Blk w2 b7 ([(.func (.func 45) #[] #[(vP b6 0)])]) 103 ∧ Blk w2 b6 ([(.slice (pA bm 0) (n + 33 * i) cp)]) 91 ∧ Blk w2 bm (u8s (L ++ catA entB x.get i) ++ List.replicate (m - 33 * i) (vB 0)) 5 ∧ Chg (fun j => j = b6 ∨ j = bm) w w2) (fun i => 4 - i) 0 (by kernel_rfl) ⟨by omega, (hb7.ext hEw1), (hb6.ext hEw1), by have hz := (hbm.ext hEw1); simpa [catA] using hz, ((Chg.refl (fun j => j = b6 ∨ j = bm) w).trans hEw1.chg)⟩ ?_))))
  rintro i dw2 w2 ⟨hi, hR, hP, hQ, hCl⟩
  have hzl := hCl.size
  refine wpC_seq (wpC_region (wpF_step (op_split (some 10) (decide (((i : Nat) : Int) < ((4 : Nat) : Int))) (fun hc10 => ?_) (fun hc10 => ?_))))
  · replace hc10 : i < 4 := by have := of_d_t hc10; omega
    refine wpF_end (then_code (wpC_seq (wpC_true (wpC_skip (then_code (wpC_seq (wpC_block (wpC_seq (wpC_region ?_)))))))))
    refine wpF_step (op_v (some 11) (Instr.index 76 (vA (e4C x)) (vI i)) (vA (entC (x.get i))) (rn_idx (E := 75) (m := 4) (sz := 33) (us := entC (x.get i)) (by omega) (e4_at (by omega))) ?_)
    refine wpF_step (op_new (some 6) (Instr.alloc 75 true (.tuple #[])) (vP w2.heap.size 0) (entC Ent.zero) 75 ?_)
    intro w3 hBw3 hEw3
    have hzw3 := hEw3.size; have hlw3 := hBw3.lt
    refine wpF_step (op_store 75 w2.heap.size 0 75 (vA (entC (x.get i))) (entC Ent.zero) (entC (x.get i)) hBw3 (by rw [entC_len]; kernel_rfl) (by first | (simp; done) | (simp; omega)) (entC_one _) ?_)
    intro w4 hBw4 hCw4
    have hzw4 := hCw4.size
    rw [setFrom_all _ _ (by simp)] at hBw4
    refine wpF_end (then_code (wpC_seq (wpC_region (wpF_run 1 [(12, (.func (.func 50) #[] #[(vP b7 0)]))] (wpF_step (op_v (some 13) (Instr.loadAt 75 (vP w2.heap.size 0)) (vA (entC (x.get i))) (rn_lda (vs := entC (x.get i)) (hBw4.all) (by rw [entC_len]; kernel_rfl)) ?_))))))
    refine wpF_step (op_call (some 14) (c_putE (x.get i) _ (((hP.ext hEw3)).chg hCw4 (fun hs => by have h : _ = _ := hs; omega)) (((hQ.ext hEw3)).chg hCw4 (fun hs => by have h : _ = _ := hs; omega)) (by rw [List.length_append, catA_len entB_len]; omega) (by omega) hmx hne (((hR.ext hEw3)).chg hCw4 (fun hs => by have h : _ = _ := hs; omega)) h76 h7m (chkA_zero.1 hq _ (by omega)) (by omega)) ?_)
    rintro _ w5 ⟨rfl, hRw5, hPw5, hQw5, hCw5⟩
    have hzw5 := hCw5.size
    refine wpF_run 1 [(7, (vI 0))] (wpF_end (then_code (wpC_seq (wpC_region (wpF_run 2 [(16, vF), (15, (vI 0))] (wpF_end (then_code (wpC_false (wpC_skip ?_)))))))))
    refine inBlock_normal (then_code (wpC_region (wpF_step (op_in (some 18) .i64 (IntKind.i64.wrap (((i : Nat) : Int) + ((1 : Nat) : Int))) (i + 1) (wrapS (by omega) (by omega) (by omega)) ?_))))
    refine wpF_run 1 [(9, (vI (i + 1)))] (wpF_end (then_normal (endR_mk (i + 1) ?_ ?_)))
    · exact ⟨by omega, hRw5, by have hz := hPw5; rwa [show n + 33 * i + 33 = n + 33 * (i + 1) from by omega] at hz, by have hz := hQw5; rw [List.append_assoc] at hz; exact (show m - 33 * i - 33 = m - 33 * (i + 1) from by omega) ▸ hz, (Chg.then (Chg.then ((Chg.then (Chg.refl (fun j => j = b6 ∨ j = bm) w) hCl (fun k hk hs => by first | exact hs | (rcases hs with hs | hs <;> first | (left; omega) | (right; omega) | (exfalso; omega)))).trans hEw3.chg) hCw4 (fun k hk hs => by have h : k = _ := hs; first | exact hs | exact .inl h | exact .inr h | (exfalso; omega))) hCw5 (fun k hk hs => by first | exact hs | (rcases hs with hs | hs <;> first | (left; omega) | (right; omega) | (exfalso; omega))))⟩
    · first | omega | (dsimp only; omega)
  · replace hc10 : ¬ (i < 4) := by have := of_d_f hc10; omega
    refine wpF_end (then_code (wpC_seq (wpC_false (wpC_exit (then_exit (then_exit (inBlock_exit (then_code (wpC_seq ?_)))))))))
    refine wpC_region (wpF_run 1 [(4, (vI 0))] (wpF_end (then_code (wpC_ret (body_rets (vI 0) ?_)))))
    obtain rfl : i = 4 := by omega
    exact ⟨rfl, hR, hP, hQ, (Chg.then (Chg.refl (fun j => j = b6 ∨ j = bm) w) hCl (fun k hk hs => by first | exact hs | (rcases hs with hs | hs <;> first | (left; omega) | (right; omega) | (exfalso; omega))))⟩

end Go.Proofs.YthjplefmfjkhfaaDoor
