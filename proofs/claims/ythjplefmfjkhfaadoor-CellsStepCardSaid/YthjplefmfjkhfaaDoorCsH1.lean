/- CsH1: what each function does, by its own code. No condition beyond those of each statement. -/
import Derived.Test.YthjplefmfjkhfaaDoorCsW3
import Derived.Test.YthjplefmfjkhfaaDoorCsSha2
namespace Go.Proofs.YthjplefmfjkhfaaDoor
open Go Go.RowKit Go.Cs
set_option maxRecDepth 100000
set_option linter.all false
set_option linter.unusedVariables false

theorem c_drotr (x : UInt32) (k : Nat)  (w : World) (hp0 : 1 ≤ k) (hp1 : k ≤ 31) :
    Calls Tryd.prog 74 #[(vW x.toNat), (vI k)] w (Ret fun r w' => r = (vW ((rr x k).toNat)) ∧ w = w') := by
  refine calls_of (n := 9) (σ := [(0, (vW x.toNat)), (1, (vI k))]) Tryd.func74 rfl ?_
  refine wpC_seq (wpC_region (wpF_run 1 [(4, (vW 0))] (wpF_end (then_code (wpC_seq (wpC_region (wpF_run 2 [(6, (vI k)), (5, (vW x.toNat))] (wpF_step (op_iz (some 7) .i64 (IntKind.i64.wrap (0 - ((k : Nat) : Int))) (-((k : Nat) : Int)) (wrapS (by omega) (by omega) (by omega)) ?_)))))))))
  refine wpF_step (op_call (some 8) (c_Rot x.toNat (-((k : Nat) : Int)) _ (x.toNat_lt)) ?_)
  rintro _ _ ⟨rfl, rfl⟩
  refine wpF_run 1 [(4, (vW (rot x.toNat (-((k : Nat) : Int)))))] (wpF_end (then_code (wpC_ret (body_rets (vW (rot x.toNat (-((k : Nat) : Int)))) ?_))))
  rw [rr_nat]; exact ⟨rfl, rfl⟩

theorem c_sched (b : B64)  (w : World)  :
    Calls Tryd.prog 73 #[(vA (b64C b))] w (Ret fun r w' => r = (vA (w64C (schd b.l 64))) ∧ Ext w w') := by
  refine calls_of (n := 72) (σ := [(0, (vA (b64C b)))]) Tryd.func73 rfl ?_
  refine wpC_seq (wpC_region (wpF_step (op_new (some 1) (Instr.box 112 (vA (b64C b))) (vP w.heap.size 0) (b64C b) 112 ?_)))
  intro w1 hBw1 hEw1
  have hzw1 := hEw1.size; have hlw1 := hBw1.lt
  refine wpF_step (op_new (some 2) (Instr.alloc 118 true (.tuple #[])) (vP w1.heap.size 0) (w64C (WA.zero 64)) 118 ?_)
  intro w2 hBw2 hEw2
  have hzw2 := hEw2.size; have hlw2 := hBw2.lt
  refine wpF_end (then_code (wpC_seq (wpC_seq (wpC_region (wpF_run 1 [(9, (vI 0))] (wpF_end (then_code (wpC_block (wpC_loop (X := Nat) (fun i => [(9, (vI i))]) [3, 10, 11, 12, 13, 14, 15, 16, 17, 18, 19, 20, 21, 22, 23, 24, 25, 26, 27] (fun i w3 => i ≤ 16 ∧ Blk w3 w.heap.size (b64C b) 112 ∧ Blk w3 w1.heap.size (w64C (schd b.l i)) 118 ∧ Ext w w3) (fun i => 16 - i) 0 (by kernel_rfl) ⟨by omega, (hBw1.ext hEw2), hBw2, (hEw1.trans hEw2)⟩ ?_)))))))))
  rintro i dw3 w3 ⟨hi, hA, hB, hEl⟩
  have hzhEl := hEl.size; have hlthA := hA.lt; have hlthB := hB.lt
  refine wpC_seq (wpC_region (wpF_step (op_split (some 10) (decide (((i : Nat) : Int) < ((16 : Nat) : Int))) (fun hc10 => ?_) (fun hc10 => ?_))))
  · replace hc10 : i < 16 := by have := of_d_t hc10; omega
    refine wpF_end (then_code (wpC_seq (wpC_true (wpC_skip (then_code (wpC_seq (wpC_block (wpC_seq (wpC_region ?_)))))))))
    refine wpF_run 2 [(3, (vI i)), (11, (vI i))] (wpF_end (then_code (wpC_region (wpF_run 2 [(14, (vI i)), (13, (vI i))] (wpF_step (op_in (some 15) .i64 (IntKind.i64.wrap (((4 : Nat) : Int) * ((i : Nat) : Int))) (4 * i) (wrapS (by omega) (by omega) (by omega)) ?_))))))
    refine wpF_run 1 [(16, (vI i))] (wpF_step (op_in (some 17) .i64 (IntKind.i64.wrap (((4 : Nat) : Int) * ((i : Nat) : Int))) (4 * i) (wrapS (by omega) (by omega) (by omega)) ?_))
    refine wpF_step (op_in (some 18) .i64 (IntKind.i64.wrap (((4 * i : Nat) : Int) + ((4 : Nat) : Int))) (4 * i + 4) (wrapS (by omega) (by omega) (by omega)) ?_)
    refine wpF_run 1 [(19, (vI i))] (wpF_step (op_in (some 20) .i64 (IntKind.i64.wrap (((4 : Nat) : Int) * ((i : Nat) : Int))) (4 * i) (wrapS (by omega) (by omega) (by omega)) ?_))
    refine wpF_step (op_in (some 21) .i64 (IntKind.i64.wrap (((4 * i : Nat) : Int) + ((4 : Nat) : Int))) (4 * i + 4) (wrapS (by omega) (by omega) (by omega)) ?_)
    refine wpF_step (op_v (some 22) (Instr.sliceAt 112 (vP w.heap.size 0) (some (vI (4 * i))) (some (vI (4 * i + 4))) (some (vI (4 * i + 4)))) (.slice (pA w.heap.size (0 + (4 * i) * 1)) (4 * i + 4 - (4 * i)) (4 * i + 4 - (4 * i))) (rn_slbN (len := 64) (E := 5) (sz := 1) (l := 4 * i) (r := 4 * i + 4) (m := 4 * i + 4) (.inr ⟨_, rfl⟩) (.inr ⟨_, rfl⟩) (.inr ⟨_, rfl⟩) (by simp) (by omega) (by omega) (by omega) (by omega)) ?_)
    have hSb : Bs w.heap.size (w.heap.size + 1) w3 (pA w.heap.size (0 + (4 * i) * 1)) (4 * i + 4 - (4 * i)) (4 * i + 4 - (4 * i)) ((b.l.drop (4 * i)).take 4) := by have hq := Bs.of_at (lo := w.heap.size) (hi := w.heap.size + 1) (len := 4) (hA.at (4 * i) (u8s ((b.l.drop (4 * i)).take 4)) (b64_part (by omega))) (hA).lt (by have := b.h; simp; omega) (by decide) (by omega) (by omega); rw [show 4 * i + 4 - 4 * i = 4 from by omega, Nat.zero_add, Nat.mul_one]; exact hq
    refine wpF_step (op_call (some 23) (c_Get32 _ hSb) ?_)
    rintro _ _ ⟨rfl, rfl⟩
    rw [show getV ((b.l.drop (4 * i)).take 4) 4 = (UInt32.ofNat (getV ((b.l.drop (4 * i)).take 4) 4)).toNat from by rw [UInt32.toNat_ofNat', Nat.mod_eq_of_lt (getV_lt _ 4)]]
    refine wpF_run 3 [(25, (vI (getE ((b.l.drop (4 * i)).take 4) 4))), (24, (vW ((UInt32.ofNat (getV ((b.l.drop (4 * i)).take 4) 4)).toNat))), (12, (.tuple #[(vW ((UInt32.ofNat (getV ((b.l.drop (4 * i)).take 4) 4)).toNat)), (vI (getE ((b.l.drop (4 * i)).take 4) 4))]))] (wpF_step (op_v (some 26) (Instr.indexAt 118 (vP w1.heap.size 0) (vI i)) (vP w1.heap.size (0 + i * 1)) (rn_ixa (E := 68) (sz := 1) (m := 64) (by omega)) ?_))
    refine wpF_step (op_store1 68 w1.heap.size (0 + i * 1) 118 (vW ((UInt32.ofNat (getV ((b.l.drop (4 * i)).take 4) 4)).toNat)) (w64C (schd b.l i)) hB (by first | decide | (simp; done) | (simp; omega)) ?_)
    intro w4 hBw4 hCw4
    have hzw4 := hCw4.size
    rw [show ((w64C (schd b.l i)).set (0 + i * 1) (vW ((UInt32.ofNat (getV ((b.l.drop (4 * i)).take 4) 4)).toNat)) : List Value) = w64C ((schd b.l i).set i (UInt32.ofNat (getV ((b.l.drop (4 * i)).take 4) 4))) from w64_set i (UInt32.ofNat (getV ((b.l.drop (4 * i)).take 4) 4))] at hBw4
    refine wpF_end (inBlock_normal (then_code (wpC_region (wpF_step (op_in (some 27) .i64 (IntKind.i64.wrap (((i : Nat) : Int) + ((1 : Nat) : Int))) (i + 1) (wrapS (by omega) (by omega) (by omega)) ?_)))))
    refine wpF_run 1 [(9, (vI (i + 1)))] (wpF_end (then_normal (endR_mk (i + 1) ?_ ?_)))
    · exact ⟨by omega, ((hA).chg hCw4 (fun hs => by have h : _ = _ := hs; omega)), by have hz := hBw4; rwa [show (schd b.l i).set i _ = schd b.l (i + 1) from nextW_lo (by omega) rfl] at hz, (Ext.own hEl hCw4 (by omega))⟩
    · first | omega | (dsimp only; omega)
  · replace hc10 : ¬ (i < 16) := by have := of_d_f hc10; omega
    refine wpF_end (then_code (wpC_seq (wpC_false (wpC_exit (then_exit (then_exit (inBlock_exit (then_code (wpC_seq ?_)))))))))
    refine wpC_seq (wpC_region (wpF_run 1 [(4, (vI 16))] (wpF_end (then_code (wpC_block ?_)))))
    obtain rfl : i = 16 := by omega
    refine wpC_loop (X := Nat) (fun t => [(4, (vI t))]) [5, 6, 7, 8, 28, 29, 30, 31, 32, 33, 34, 35, 36, 37, 38, 39, 40, 41, 42, 43, 44, 45, 46, 47, 48, 49, 50, 51, 52, 53, 54, 55, 56, 57, 58, 59, 60, 61, 62, 63, 64, 65, 66, 67, 68, 69, 70] (fun t w5 => 16 ≤ t ∧ t ≤ 64 ∧ Blk w5 w.heap.size (b64C b) 112 ∧ Blk w5 w1.heap.size (w64C (schd b.l t)) 118 ∧ Ext w w5) (fun t => 64 - t) 16 (by kernel_rfl) ⟨by omega, by omega, hA, hB, hEl⟩ ?_
    rintro t dw5 w5 ⟨hlt, ht, hC, hD, hEm⟩
    have hzhEm := hEm.size; have hlthC := hC.lt; have hlthD := hD.lt
    refine wpC_seq (wpC_seq (wpC_region (wpF_run 1 [(28, (vI t))] (wpF_step (op_split (some 29) (decide (((t : Nat) : Int) < ((64 : Nat) : Int))) (fun hc29 => ?_) (fun hc29 => ?_))))))
    · replace hc29 : t < 64 := by have := of_d_t hc29; omega
      refine wpF_end (then_code (wpC_true (wpC_skip (then_code (wpC_seq (wpC_block (wpC_seq (wpC_drawM (Ext w5.drew) 10 [(33, 16, 0), (34, 4294967296, 1), (35, 8589934596, 2), (36, 17179869184, 4), (37, 16, 0), (38, 68719476736, 16), (39, 137438953476, 32), (40, 274877906944, 64), (6, 34359738368, 15), (7, 549755813888, 511)] (fun hT125 => ?_)))))))))
      have hEw6 : Ext w5 w5.drew := Ext.drew w5
      generalize w5.drew = w6 at hEw6 ⊢
      have hzw6 := hEw6.size
      refine anyM_run hT125 [(0, 32, (vI t))] 1 1 (anyM_take hT125 1 3 (some 33) (vI (t - 15)) (yld_in .i64 (IntKind.i64.wrap (((t : Nat) : Int) - ((15 : Nat) : Int))) (wrapS (by omega) (by omega) (by omega))) (anyM_take hT125 2 7 (some 34) (vP w1.heap.size (0 + (t - 15) * 1)) (yld_val (Instr.indexAt 118 (vP w1.heap.size 0) (vI (t - 15))) (fun w' hC => rn_ixa (E := 68) (sz := 1) (m := 64) (by omega))) (anyM_take hT125 3 15 (some 35) (vW (((schd b.l t).get (t - 15)).toNat)) (yld_val (Instr.loadAt 68 (vP w1.heap.size (0 + (t - 15) * 1))) (fun w' hC => rn_ld (((hD.ext hEw6).ext hC).cell (w64_cell (t - 15) (by omega))))) (anyM_run hT125 [(4, 36, (vI t))] 1 31 (anyM_take hT125 5 63 (some 37) (vI (t - 2)) (yld_in .i64 (IntKind.i64.wrap (((t : Nat) : Int) - ((2 : Nat) : Int))) (wrapS (by omega) (by omega) (by omega))) (anyM_take hT125 6 127 (some 38) (vP w1.heap.size (0 + (t - 2) * 1)) (yld_val (Instr.indexAt 118 (vP w1.heap.size 0) (vI (t - 2))) (fun w' hC => rn_ixa (E := 68) (sz := 1) (m := 64) (by omega))) (anyM_take hT125 7 255 (some 39) (vW (((schd b.l t).get (t - 2)).toNat)) (yld_val (Instr.loadAt 68 (vP w1.heap.size (0 + (t - 2) * 1))) (fun w' hC => rn_ld (((hD.ext hEw6).ext hC).cell (w64_cell (t - 2) (by omega))))) (anyM_run hT125 [(8, 5, (vW (((schd b.l t).get (t - 15)).toNat))), (9, 6, (vW (((schd b.l t).get (t - 2)).toNat)))] 2 1023 (anyM_done ?_)))))))))
      refine then_code (wpC_seq (wpC_region (wpF_run 1 [(40, (vW (((schd b.l t).get (t - 15)).toNat)))] (wpF_step (op_call (some 41) (c_drotr ((schd b.l t).get (t - 15)) 7 _ (by decide) (by decide)) ?_)))))
      rintro _ _ ⟨rfl, rfl⟩
      refine wpF_run 1 [(42, (vW (((schd b.l t).get (t - 15)).toNat)))] (wpF_step (op_call (some 43) (c_drotr ((schd b.l t).get (t - 15)) 18 _ (by decide) (by decide)) ?_))
      rintro _ _ ⟨rfl, rfl⟩
      refine wpF_step (op_in (some 44) .u32 ((IntKind.u32.wrap ((BitVec.ofInt IntKind.u32.bits (((rr ((schd b.l t).get (t - 15)) 7).toNat : Nat) : Int) ^^^ BitVec.ofInt IntKind.u32.bits (((rr ((schd b.l t).get (t - 15)) 18).toNat : Nat) : Int)).toNat : Int))) (((rr ((schd b.l t).get (t - 15)) 7) ^^^ (rr ((schd b.l t).get (t - 15)) 18)).toNat) (wx_xor (rr ((schd b.l t).get (t - 15)) 7) (rr ((schd b.l t).get (t - 15)) 18)) ?_)
      refine wpF_run 1 [(45, (vW (((schd b.l t).get (t - 15)).toNat)))] (wpF_step (op_in (some 46) .u32 (((((schd b.l t).get (t - 15)).toNat : Nat) : Int).fdiv (2 ^ 3)) ((((schd b.l t).get (t - 15)) >>> UInt32.ofNat 3).toNat) (wx_shr ((schd b.l t).get (t - 15)) 3 (by decide)) ?_))
      refine wpF_step (op_in (some 47) .u32 ((IntKind.u32.wrap ((BitVec.ofInt IntKind.u32.bits ((((rr ((schd b.l t).get (t - 15)) 7) ^^^ (rr ((schd b.l t).get (t - 15)) 18)).toNat : Nat) : Int) ^^^ BitVec.ofInt IntKind.u32.bits (((((schd b.l t).get (t - 15)) >>> UInt32.ofNat 3).toNat : Nat) : Int)).toNat : Int))) ((((rr ((schd b.l t).get (t - 15)) 7) ^^^ (rr ((schd b.l t).get (t - 15)) 18)) ^^^ (((schd b.l t).get (t - 15)) >>> UInt32.ofNat 3)).toNat) (wx_xor ((rr ((schd b.l t).get (t - 15)) 7) ^^^ (rr ((schd b.l t).get (t - 15)) 18)) (((schd b.l t).get (t - 15)) >>> UInt32.ofNat 3)) ?_)
      refine wpF_run 1 [(7, (vW ((((rr ((schd b.l t).get (t - 15)) 7) ^^^ (rr ((schd b.l t).get (t - 15)) 18)) ^^^ (((schd b.l t).get (t - 15)) >>> UInt32.ofNat 3)).toNat)))] (wpF_end (then_code (wpC_seq (wpC_region (wpF_run 1 [(48, (vW (((schd b.l t).get (t - 2)).toNat)))] (wpF_step (op_call (some 49) (c_drotr ((schd b.l t).get (t - 2)) 17 _ (by decide) (by decide)) ?_)))))))
      rintro _ _ ⟨rfl, rfl⟩
      refine wpF_run 1 [(50, (vW (((schd b.l t).get (t - 2)).toNat)))] (wpF_step (op_call (some 51) (c_drotr ((schd b.l t).get (t - 2)) 19 _ (by decide) (by decide)) ?_))
      rintro _ _ ⟨rfl, rfl⟩
      refine wpF_step (op_in (some 52) .u32 ((IntKind.u32.wrap ((BitVec.ofInt IntKind.u32.bits (((rr ((schd b.l t).get (t - 2)) 17).toNat : Nat) : Int) ^^^ BitVec.ofInt IntKind.u32.bits (((rr ((schd b.l t).get (t - 2)) 19).toNat : Nat) : Int)).toNat : Int))) (((rr ((schd b.l t).get (t - 2)) 17) ^^^ (rr ((schd b.l t).get (t - 2)) 19)).toNat) (wx_xor (rr ((schd b.l t).get (t - 2)) 17) (rr ((schd b.l t).get (t - 2)) 19)) ?_)
      refine wpF_run 1 [(53, (vW (((schd b.l t).get (t - 2)).toNat)))] (wpF_step (op_in (some 54) .u32 (((((schd b.l t).get (t - 2)).toNat : Nat) : Int).fdiv (2 ^ 10)) ((((schd b.l t).get (t - 2)) >>> UInt32.ofNat 10).toNat) (wx_shr ((schd b.l t).get (t - 2)) 10 (by decide)) ?_))
      refine wpF_step (op_in (some 55) .u32 ((IntKind.u32.wrap ((BitVec.ofInt IntKind.u32.bits ((((rr ((schd b.l t).get (t - 2)) 17) ^^^ (rr ((schd b.l t).get (t - 2)) 19)).toNat : Nat) : Int) ^^^ BitVec.ofInt IntKind.u32.bits (((((schd b.l t).get (t - 2)) >>> UInt32.ofNat 10).toNat : Nat) : Int)).toNat : Int))) ((((rr ((schd b.l t).get (t - 2)) 17) ^^^ (rr ((schd b.l t).get (t - 2)) 19)) ^^^ (((schd b.l t).get (t - 2)) >>> UInt32.ofNat 10)).toNat) (wx_xor ((rr ((schd b.l t).get (t - 2)) 17) ^^^ (rr ((schd b.l t).get (t - 2)) 19)) (((schd b.l t).get (t - 2)) >>> UInt32.ofNat 10)) ?_)
      refine wpF_run 1 [(8, (vW ((((rr ((schd b.l t).get (t - 2)) 17) ^^^ (rr ((schd b.l t).get (t - 2)) 19)) ^^^ (((schd b.l t).get (t - 2)) >>> UInt32.ofNat 10)).toNat)))] (wpF_end (then_code (wpC_drawM (Ext w6.drew) 16 [(57, 16, 0), (58, 256, 0), (59, 16, 0), (60, 288230376151711744, 4), (61, 576460752303423492, 8), (62, 1152921504606846976, 16), (63, 2449958197289549824, 34), (64, 128, 0), (65, 13835058055282163712, 192), (66, 16, 0), (67, 36893488147419103232, 512), (68, 73786976294838206468, 1024), (69, 147573952589676412928, 2048), (70, 313594649253062377472, 4352), (71, 72057594037927940, 16383), (0, 1770887431076116955136, 32767)] (fun hT170 => ?_))))
      have hEw7 : Ext w6 w6.drew := Ext.drew w6
      generalize w6.drew = w7 at hEw7 ⊢
      have hzw7 := hEw7.size
      refine anyM_run hT170 [(0, 56, (vI t)), (1, 57, (vW ((((rr ((schd b.l t).get (t - 2)) 17) ^^^ (rr ((schd b.l t).get (t - 2)) 19)) ^^^ (((schd b.l t).get (t - 2)) >>> UInt32.ofNat 10)).toNat))), (2, 58, (vI t))] 3 7 (anyM_take hT170 3 15 (some 59) (vI (t - 7)) (yld_in .i64 (IntKind.i64.wrap (((t : Nat) : Int) - ((7 : Nat) : Int))) (wrapS (by omega) (by omega) (by omega))) (anyM_take hT170 4 31 (some 60) (vP w1.heap.size (0 + (t - 7) * 1)) (yld_val (Instr.indexAt 118 (vP w1.heap.size 0) (vI (t - 7))) (fun w' hC => rn_ixa (E := 68) (sz := 1) (m := 64) (by omega))) (anyM_take hT170 5 63 (some 61) (vW (((schd b.l t).get (t - 7)).toNat)) (yld_val (Instr.loadAt 68 (vP w1.heap.size (0 + (t - 7) * 1))) (fun w' hC => rn_ld (((((hD.ext hEw6)).ext hEw7).ext hC).cell (w64_cell (t - 7) (by omega))))) (anyM_take hT170 6 127 (some 62) (vW (((((rr ((schd b.l t).get (t - 2)) 17) ^^^ (rr ((schd b.l t).get (t - 2)) 19)) ^^^ (((schd b.l t).get (t - 2)) >>> UInt32.ofNat 10)) + ((schd b.l t).get (t - 7))).toNat)) (yld_in .u32 (IntKind.u32.wrap ((((((rr ((schd b.l t).get (t - 2)) 17) ^^^ (rr ((schd b.l t).get (t - 2)) 19)) ^^^ (((schd b.l t).get (t - 2)) >>> UInt32.ofNat 10)).toNat : Nat) : Int) + ((((schd b.l t).get (t - 7)).toNat : Nat) : Int))) (wx_add (((rr ((schd b.l t).get (t - 2)) 17) ^^^ (rr ((schd b.l t).get (t - 2)) 19)) ^^^ (((schd b.l t).get (t - 2)) >>> UInt32.ofNat 10)) ((schd b.l t).get (t - 7)))) (anyM_run hT170 [(7, 63, (vW ((((rr ((schd b.l t).get (t - 15)) 7) ^^^ (rr ((schd b.l t).get (t - 15)) 18)) ^^^ (((schd b.l t).get (t - 15)) >>> UInt32.ofNat 3)).toNat)))] 1 255 ?_)))))
      refine anyM_take hT170 8 511 (some 64) (vW ((((((rr ((schd b.l t).get (t - 2)) 17) ^^^ (rr ((schd b.l t).get (t - 2)) 19)) ^^^ (((schd b.l t).get (t - 2)) >>> UInt32.ofNat 10)) + ((schd b.l t).get (t - 7))) + (((rr ((schd b.l t).get (t - 15)) 7) ^^^ (rr ((schd b.l t).get (t - 15)) 18)) ^^^ (((schd b.l t).get (t - 15)) >>> UInt32.ofNat 3))).toNat)) (yld_in .u32 (IntKind.u32.wrap (((((((rr ((schd b.l t).get (t - 2)) 17) ^^^ (rr ((schd b.l t).get (t - 2)) 19)) ^^^ (((schd b.l t).get (t - 2)) >>> UInt32.ofNat 10)) + ((schd b.l t).get (t - 7))).toNat : Nat) : Int) + (((((rr ((schd b.l t).get (t - 15)) 7) ^^^ (rr ((schd b.l t).get (t - 15)) 18)) ^^^ (((schd b.l t).get (t - 15)) >>> UInt32.ofNat 3)).toNat : Nat) : Int))) (wx_add ((((rr ((schd b.l t).get (t - 2)) 17) ^^^ (rr ((schd b.l t).get (t - 2)) 19)) ^^^ (((schd b.l t).get (t - 2)) >>> UInt32.ofNat 10)) + ((schd b.l t).get (t - 7))) (((rr ((schd b.l t).get (t - 15)) 7) ^^^ (rr ((schd b.l t).get (t - 15)) 18)) ^^^ (((schd b.l t).get (t - 15)) >>> UInt32.ofNat 3)))) (anyM_run hT170 [(9, 65, (vI t))] 1 1023 (anyM_take hT170 10 2047 (some 66) (vI (t - 16)) (yld_in .i64 (IntKind.i64.wrap (((t : Nat) : Int) - ((16 : Nat) : Int))) (wrapS (by omega) (by omega) (by omega))) (anyM_take hT170 11 4095 (some 67) (vP w1.heap.size (0 + (t - 16) * 1)) (yld_val (Instr.indexAt 118 (vP w1.heap.size 0) (vI (t - 16))) (fun w' hC => rn_ixa (E := 68) (sz := 1) (m := 64) (by omega))) ?_)))
      refine anyM_take hT170 12 8191 (some 68) (vW (((schd b.l t).get (t - 16)).toNat)) (yld_val (Instr.loadAt 68 (vP w1.heap.size (0 + (t - 16) * 1))) (fun w' hC => rn_ld (((((hD.ext hEw6)).ext hEw7).ext hC).cell (w64_cell (t - 16) (by omega))))) (anyM_take hT170 13 16383 (some 69) (vW (((((((rr ((schd b.l t).get (t - 2)) 17) ^^^ (rr ((schd b.l t).get (t - 2)) 19)) ^^^ (((schd b.l t).get (t - 2)) >>> UInt32.ofNat 10)) + ((schd b.l t).get (t - 7))) + (((rr ((schd b.l t).get (t - 15)) 7) ^^^ (rr ((schd b.l t).get (t - 15)) 18)) ^^^ (((schd b.l t).get (t - 15)) >>> UInt32.ofNat 3))) + ((schd b.l t).get (t - 16))).toNat)) (yld_in .u32 (IntKind.u32.wrap ((((((((rr ((schd b.l t).get (t - 2)) 17) ^^^ (rr ((schd b.l t).get (t - 2)) 19)) ^^^ (((schd b.l t).get (t - 2)) >>> UInt32.ofNat 10)) + ((schd b.l t).get (t - 7))) + (((rr ((schd b.l t).get (t - 15)) 7) ^^^ (rr ((schd b.l t).get (t - 15)) 18)) ^^^ (((schd b.l t).get (t - 15)) >>> UInt32.ofNat 3))).toNat : Nat) : Int) + ((((schd b.l t).get (t - 16)).toNat : Nat) : Int))) (wx_add (((((rr ((schd b.l t).get (t - 2)) 17) ^^^ (rr ((schd b.l t).get (t - 2)) 19)) ^^^ (((schd b.l t).get (t - 2)) >>> UInt32.ofNat 10)) + ((schd b.l t).get (t - 7))) + (((rr ((schd b.l t).get (t - 15)) 7) ^^^ (rr ((schd b.l t).get (t - 15)) 18)) ^^^ (((schd b.l t).get (t - 15)) >>> UInt32.ofNat 3))) ((schd b.l t).get (t - 16)))) (anyM_take hT170 14 32767 (some 70) (vP w1.heap.size (0 + t * 1)) (yld_val (Instr.indexAt 118 (vP w1.heap.size 0) (vI t)) (fun w' hC => rn_ixa (E := 68) (sz := 1) (m := 64) (by omega))) ?_))
      refine anyM_one 15 65535 (op_store1 68 w1.heap.size (0 + t * 1) 118 (vW (((((((rr ((schd b.l t).get (t - 2)) 17) ^^^ (rr ((schd b.l t).get (t - 2)) 19)) ^^^ (((schd b.l t).get (t - 2)) >>> UInt32.ofNat 10)) + ((schd b.l t).get (t - 7))) + (((rr ((schd b.l t).get (t - 15)) 7) ^^^ (rr ((schd b.l t).get (t - 15)) 18)) ^^^ (((schd b.l t).get (t - 15)) >>> UInt32.ofNat 3))) + ((schd b.l t).get (t - 16))).toNat)) (w64C (schd b.l t)) (((hD.ext hEw6)).ext hEw7) (by first | decide | (simp; done) | (simp; omega)) ?_)
      intro w8 hBw8 hCw8
      have hzw8 := hCw8.size
      rw [show ((w64C (schd b.l t)).set (0 + t * 1) (vW (((((((rr ((schd b.l t).get (t - 2)) 17) ^^^ (rr ((schd b.l t).get (t - 2)) 19)) ^^^ (((schd b.l t).get (t - 2)) >>> UInt32.ofNat 10)) + ((schd b.l t).get (t - 7))) + (((rr ((schd b.l t).get (t - 15)) 7) ^^^ (rr ((schd b.l t).get (t - 15)) 18)) ^^^ (((schd b.l t).get (t - 15)) >>> UInt32.ofNat 3))) + ((schd b.l t).get (t - 16))).toNat)) : List Value) = w64C ((schd b.l t).set t ((((((rr ((schd b.l t).get (t - 2)) 17) ^^^ (rr ((schd b.l t).get (t - 2)) 19)) ^^^ (((schd b.l t).get (t - 2)) >>> UInt32.ofNat 10)) + ((schd b.l t).get (t - 7))) + (((rr ((schd b.l t).get (t - 15)) 7) ^^^ (rr ((schd b.l t).get (t - 15)) 18)) ^^^ (((schd b.l t).get (t - 15)) >>> UInt32.ofNat 3))) + ((schd b.l t).get (t - 16)))) from w64_set t ((((((rr ((schd b.l t).get (t - 2)) 17) ^^^ (rr ((schd b.l t).get (t - 2)) 19)) ^^^ (((schd b.l t).get (t - 2)) >>> UInt32.ofNat 10)) + ((schd b.l t).get (t - 7))) + (((rr ((schd b.l t).get (t - 15)) 7) ^^^ (rr ((schd b.l t).get (t - 15)) 18)) ^^^ (((schd b.l t).get (t - 15)) >>> UInt32.ofNat 3))) + ((schd b.l t).get (t - 16)))] at hBw8
      refine ⟨.inl (by kernel_rfl), ?_⟩
      refine anyM_done (inBlock_normal (then_code (wpC_region (wpF_run 1 [(30, (vI t))] (wpF_step (op_in (some 31) .i64 (IntKind.i64.wrap (((t : Nat) : Int) + ((1 : Nat) : Int))) (t + 1) (wrapS (by omega) (by omega) (by omega)) ?_))))))
      refine wpF_run 1 [(4, (vI (t + 1)))] (wpF_end (then_normal ?_))
      have hK1 := (((((hC.ext hEw6)).ext hEw7)).chg hCw8 (fun hs => by have h : _ = _ := hs; omega))
      have hX1 : Ext w w8 := (Ext.own ((hEm.trans hEw6).trans hEw7) hCw8 (by omega))
      refine endR_mk (t + 1) ?_ ?_
      · exact ⟨by omega, by omega, hK1, by have hz := hBw8; rwa [show (schd b.l t).set t _ = schd b.l (t + 1) from nextW_hi (by omega) (by unfold sig0 sig1; ac_rfl)] at hz, hX1⟩
      · first | omega | (dsimp only; omega)
    · replace hc29 : ¬ (t < 64) := by have := of_d_f hc29; omega
      refine wpF_end (then_code (wpC_false (wpC_exit (then_exit (then_exit (inBlock_exit (then_code (wpC_seq (wpC_region ?_)))))))))
      refine wpF_step (op_v (some 71) (Instr.loadAt 118 (vP w1.heap.size 0)) (vA (w64C (schd b.l t))) (rn_lda (vs := w64C (schd b.l t)) (hD.all) (by rw [w64C_len]; kernel_rfl)) ?_)
      refine wpF_step (op_store 118 w1.heap.size 0 118 (vA (w64C (schd b.l t))) (w64C (schd b.l t)) (w64C (schd b.l t)) hD (by rw [w64C_len]; kernel_rfl) (by first | (simp; done) | (simp; omega)) (w64C_one _) ?_)
      intro w9 hBw9 hCw9
      have hzw9 := hCw9.size
      rw [setFrom_all _ _ (by simp)] at hBw9
      refine wpF_end (then_code (wpC_ret (body_ret1 (show resVal Tryd.prog 72 _ _ (.cell 2 118) (vA (w64C (schd b.l t))) from ⟨⟨w1.heap.size, 0, none⟩, (by kernel_rfl), run_loadVar_agg (T := 118) (vs := w64C (schd b.l t)) (hBw9).all (by rw [w64C_len]; kernel_rfl)⟩) ?_)))
      obtain rfl : t = 64 := by omega
      exact ⟨rfl, (Ext.own hEm hCw9 (by omega))⟩

end Go.Proofs.YthjplefmfjkhfaaDoor
