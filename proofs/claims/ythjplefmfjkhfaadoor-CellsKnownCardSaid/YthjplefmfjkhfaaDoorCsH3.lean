/- CsH3: what each function does, by its own code. No condition beyond those of each statement. -/
import Derived.Test.YthjplefmfjkhfaaDoorCsH2b
namespace Go.Proofs.YthjplefmfjkhfaaDoor
open Go Go.RowKit Go.Cs
set_option maxRecDepth 100000
set_option linter.all false
set_option linter.unusedVariables false

theorem c_new   (w : World) (hg1 : Gl 1 (w8C iniA) w) :
    Calls Tryd.prog 52 #[] w (Ret fun r w' => r = (vA (stC Sta.new)) ∧ Ext w w') := by
  refine calls_of (n := 3) (σ := []) Tryd.func52 rfl ?_
  have hgl1 := hg1.lt
  refine wpC_seq (wpC_region (wpF_step (op_new (some 0) (Instr.alloc 114 true (.tuple #[])) (vP w.heap.size 0) (stC Sta.zero) 114 ?_)))
  intro w1 hBw1 hEw1
  have hzw1 := hEw1.size; have hlw1 := hBw1.lt
  refine wpF_end (then_code (wpC_seq (wpC_region (wpF_step (op_v (some 1) (Instr.loadAt 111 (vP 1 0)) (vA (w8C iniA)) (rn_lda (vs := w8C iniA) ((hg1.ext hEw1).all) (by rw [w8C_len]; kernel_rfl)) ?_)))))
  refine wpF_step (op_v (some 2) (Instr.build 114 #[(0, vT), (1, (vA (w8C iniA)))]) (vA (stC Sta.new)) ((run_build_st iniA).trans (congrArg (fun z : Sta => Result.ok (Value.agg (stC z).toArray) _) (show (⟨true, iniA, List.replicate 64 0, 0, by simp, by decide⟩ : Sta) = Sta.new from rfl))) ?_)
  refine wpF_step (op_store 114 w.heap.size 0 114 (vA (stC Sta.new)) (stC Sta.zero) (stC Sta.new) hBw1 (by rw [stC_len]; kernel_rfl) (by first | (simp; done) | (simp; omega)) (stC_one _) ?_)
  intro w2 hBw2 hCw2
  have hzw2 := hCw2.size
  rw [setFrom_all _ _ (by simp)] at hBw2
  exact wpF_end (then_code (wpC_ret (body_ret1 (show resVal Tryd.prog 3 _ _ (.cell 0 114) (vA (stC Sta.new)) from ⟨⟨w.heap.size, 0, none⟩, (by kernel_rfl), run_loadVar_agg (T := 114) (vs := stC Sta.new) (hBw2).all (by rw [stC_len]; kernel_rfl)⟩) (⟨rfl, (Ext.own hEw1 hCw2 (by omega))⟩))))

theorem c_write (s : Sta) {lo_b hi_b : Nat} {a_b : Option Addr} {n_b c_b : Nat} {b : List UInt8} (l : List UInt8) (w : World) (h_b : Bs lo_b hi_b w a_b n_b c_b b) (hp0 : Sm s l) (hp1 : l.length + n_b < 2305843009213693952) (hg2 : Gl 2 (w64C kA) w) :
    Calls Tryd.prog 53 #[(vA (stC s)), (.slice a_b n_b c_b)] w (Ret fun r w' => ∃ (a0 : Sta), r = (vA (stC a0)) ∧ Sm a0 (l ++ b) ∧ Ext w w') := by
  refine calls_of (n := 43) (σ := [(0, (vA (stC s))), (1, (.slice a_b n_b c_b))]) Tryd.func53 rfl ?_
  replace h_b := h_b.now; have hle_b := h_b.le
  have hgl2 := hg2.lt
  refine wpC_seq (wpC_region (wpF_step (op_new (some 2) (Instr.box 114 (vA (stC s))) (vP w.heap.size 0) (stC s) 114 ?_)))
  intro w1 hBw1 hEw1
  have hzw1 := hEw1.size; have hlw1 := hBw1.lt
  refine wpF_step (op_new (some 4) (Instr.alloc 114 true (.tuple #[])) (vP w1.heap.size 0) (stC Sta.zero) 114 ?_)
  intro w2 hBw2 hEw2
  have hzw2 := hEw2.size; have hlw2 := hBw2.lt
  refine wpF_end (then_code (wpC_seq (wpC_seq (wpC_region (wpF_run 1 [(7, (vP w.heap.size 0))] (wpF_step (op_v (some 8) (Instr.loadAt 4 (vP w.heap.size 0)) vT (rn_ld ((hBw1.ext hEw2).cell (show (stC s)[0]? = some vT from congrArg (fun z => some (Value.bool z)) hp0.bg))) ?_)))))))
  refine wpF_run 1 [(9, vF)] (wpF_end (then_code (wpC_false (wpC_skip (then_code (wpC_seq (wpC_block (wpC_loop (X := Nat × Sta × Option Addr) (fun ⟨p, y, ad⟩ => [(1, (.slice ad (n_b - p) (c_b - p)))]) [5, 6, 11, 12, 13, 14, 15, 16, 17, 18, 19, 20, 21, 22, 23, 24, 25, 26, 27, 28, 29, 30, 31, 32, 33, 34, 35, 36, 37, 38, 39, 40, 41] (fun ⟨p, y, ad⟩ w3 => p ≤ n_b ∧ Sm y (l ++ b.take p) ∧ Bs lo_b w.heap.size w3 ad (n_b - p) (c_b - p) (b.drop p) ∧ Blk w3 w.heap.size (stC y) 114 ∧ Blk w3 w1.heap.size (stC Sta.zero) 114 ∧ Ext w w3) (fun ⟨p, y, ad⟩ => n_b - p) (0, s, a_b) (by kernel_rfl) ⟨by omega, by rw [List.take_zero, List.append_nil]; exact hp0, by rw [List.drop_zero]; exact (((h_b.ext hEw1)).ext hEw2), (hBw1.ext hEw2), hBw2, (hEw1.trans hEw2)⟩ ?_))))))))
  rintro ⟨p, y, ad⟩ dw3 w3 ⟨hp, hsm, hBs, hB2, hB4, hEl⟩
  have hzl := hEl.size
  have hl2 := hB2.lt; have hl4 := hB4.lt
  have hlen := h_b.len_eq
  have hle1 := hBs.le
  have hll : (l ++ b.take p).length = l.length + p := by simp; omega
  have hmy : y.many = l.length + p := hsm.many.trans hll
  refine wpC_seq (wpC_seq (wpC_region (wpF_run 2 [(12, (vI (n_b - p))), (11, (.slice ad (n_b - p) (c_b - p)))] (wpF_step (op_split (some 13) (decide (((n_b - p : Nat) : Int) > ((0 : Nat) : Int))) (fun hc13 => ?_) (fun hc13 => ?_))))))
  · replace hc13 : n_b - p > 0 := by have := of_d_t hc13; omega
    refine wpF_end (then_code (wpC_true (wpC_skip (then_code (wpC_block (wpC_seq (wpC_region (wpF_run 1 [(14, (vP w.heap.size 73))] (wpF_step (op_v (some 15) (Instr.loadAt 28 (vP w.heap.size 73)) (vQ y.many) (rn_ld (hB2.cell (st_many _))) ?_))))))))))
    refine wpF_step (op_in (some 16) .u64 (((y.many : Nat) : Int).tmod ((64 : Nat) : Int)) (y.many % 64) (tmodN _ _) ?_)
    refine wpF_step (op_in (some 17) .i64 (IntKind.i64.wrap ((y.many % 64 : Nat) : Int)) (y.many % 64) (wrapS rfl (by omega) (by omega)) ?_)
    refine wpF_run 1 [(5, (vI (y.many % 64)))] (wpF_end (then_code (wpC_seq (wpC_region (wpF_run 2 [(19, (vI (y.many % 64))), (18, (vP w.heap.size 9))] (wpF_step (op_v (some 20) (Instr.sliceAt 112 (vP w.heap.size 9) (some (vI (y.many % 64))) none none) (.slice (pA w.heap.size (9 + (y.many % 64) * 1)) (64 - (y.many % 64)) (64 - (y.many % 64))) (rn_slbN (len := 64) (E := 5) (sz := 1) (l := y.many % 64) (r := 64) (m := 64) (.inr ⟨_, rfl⟩) (.inl ⟨rfl, rfl⟩) (.inl ⟨rfl, rfl⟩) (by simp) (by omega) (by omega) (by omega) (by omega)) ?_)))))))
    refine wpF_run 1 [(21, (.slice ad (n_b - p) (c_b - p)))] (wpF_step (op_copy (a := (pA w.heap.size (9 + (y.many % 64) * 1))) (dl := 64 - (y.many % 64)) (dc := 64 - (y.many % 64)) (some 22) 91 91 3 5 w.heap.size (9 + y.many % 64) hB2 (fun _ => by rw [Nat.mul_one]) (by simp; omega) hBs.es (fun _ => rfl) ?_))
    intro w4 hBw4 hCw4
    have hzw4 := hCw4.size
    rw [show setFrom (stC y) (9 + y.many % 64) (((b.drop p).take (min (n_b - p) (64 - (y.many % 64)))).map u8v) = stC (y.put (y.many % 64) ((b.drop p).take (min (n_b - p) (64 - (y.many % 64)))) (by simp; omega)) from st_put (by simp; omega)] at hBw4
    refine wpF_run 1 [(6, (vI (min (n_b - p) (64 - (y.many % 64)))))] (wpF_end (then_code (wpC_seq (wpC_region (wpF_run 1 [(23, (vP w.heap.size 73))] (wpF_step (op_v (some 24) (Instr.loadAt 28 (vP w.heap.size 73)) (vQ ((y.put (y.many % 64) ((b.drop p).take (min (n_b - p) (64 - (y.many % 64)))) (by simp; omega)).many)) (rn_ld (hBw4.cell (st_many _))) ?_)))))))
    refine wpF_run 1 [(25, (vI (min (n_b - p) (64 - (y.many % 64)))))] (wpF_step (op_in (some 26) .u64 (IntKind.u64.wrap ((min (n_b - p) (64 - (y.many % 64)) : Nat) : Int)) (min (n_b - p) (64 - (y.many % 64))) (wrapUx rfl rfl (by show _ < 2 ^ 64; omega)) ?_))
    refine wpF_step (op_in (some 27) .u64 (IntKind.u64.wrap ((((y.put (y.many % 64) ((b.drop p).take (min (n_b - p) (64 - (y.many % 64)))) (by simp; omega)).many : Nat) : Int) + ((min (n_b - p) (64 - (y.many % 64)) : Nat) : Int))) (y.many + min (n_b - p) (64 - (y.many % 64))) (wrapUx rfl (by push_cast; rfl) (by show _ < 2 ^ 64; omega)) ?_)
    refine wpF_run 1 [(28, (vP w.heap.size 73))] (wpF_step (op_store1 28 w.heap.size 73 114 (vQ (y.many + min (n_b - p) (64 - (y.many % 64)))) (stC (y.put (y.many % 64) ((b.drop p).take (min (n_b - p) (64 - (y.many % 64)))) (by simp; omega))) hBw4 (by first | decide | (simp; done) | (simp; omega)) ?_))
    intro w5 hBw5 hCw5
    have hzw5 := hCw5.size
    rw [show ((stC (y.put (y.many % 64) ((b.drop p).take (min (n_b - p) (64 - (y.many % 64)))) (by simp; omega))).set 73 (vQ (y.many + min (n_b - p) (64 - (y.many % 64)))) : List Value) = stC ((y.put (y.many % 64) ((b.drop p).take (min (n_b - p) (64 - (y.many % 64)))) (by simp; omega)).setMany (y.many + min (n_b - p) (64 - (y.many % 64))) (by omega)) from st_setMany (by omega)] at hBw5
    refine wpF_end (then_code (wpC_seq (wpC_region (wpF_run 2 [(30, (vI (min (n_b - p) (64 - (y.many % 64))))), (29, (.slice ad (n_b - p) (c_b - p)))] ?_))))
    obtain ⟨a1, hR1, hS1⟩ := ((((hBs).chg hCw4 (fun k h1 h2 hs => by have h : k = _ := hs; omega))).chg hCw5 (fun k h1 h2 hs => by have h : k = _ := hs; omega)).slice Tryd.prog 91 5 (min (n_b - p) (64 - (y.many % 64))) (n_b - p) (c_b - p) (some (vI (min (n_b - p) (64 - (y.many % 64))))) none none
    refine wpF_step (op_v (some 31) (Instr.sliceAt 91 (.slice ad (n_b - p) (c_b - p)) (some (vI (min (n_b - p) (64 - (y.many % 64))))) none none) (.slice a1 (n_b - p - (min (n_b - p) (64 - (y.many % 64)))) (c_b - p - (min (n_b - p) (64 - (y.many % 64))))) (hR1 _) ?_)
    refine wpF_run 1 [(1, (.slice a1 (n_b - p - (min (n_b - p) (64 - (y.many % 64)))) (c_b - p - (min (n_b - p) (64 - (y.many % 64))))))] (wpF_end (then_code (wpC_seq (wpC_region (wpF_run 2 [(33, (vI (min (n_b - p) (64 - (y.many % 64))))), (32, (vI (y.many % 64)))] (wpF_step (op_in (some 34) .i64 (IntKind.i64.wrap (((y.many % 64 : Nat) : Int) + ((min (n_b - p) (64 - (y.many % 64)) : Nat) : Int))) (y.many % 64 + (min (n_b - p) (64 - (y.many % 64)))) (wrapS (by omega) (by omega) (by omega)) ?_)))))))
    refine wpF_step (op_split (some 35) ((((y.many % 64 + (min (n_b - p) (64 - (y.many % 64))) : Nat) : Int) == ((64 : Nat) : Int))) (fun hc35 => ?_) (fun hc35 => ?_))
    · replace hc35 : y.many % 64 + (min (n_b - p) (64 - (y.many % 64))) = 64 := by have := of_eq_t hc35; omega
      refine wpF_end (then_code (wpC_true (wpC_region (wpF_run 1 [(36, (vP w.heap.size 1))] (wpF_step (op_v (some 37) (Instr.loadAt 111 (vP w.heap.size 1)) (vA (w8C ((y.put (y.many % 64) ((b.drop p).take (min (n_b - p) (64 - (y.many % 64)))) (by simp; omega)).setMany (y.many + min (n_b - p) (64 - (y.many % 64))) (by omega)).h)) (rn_lda (vs := w8C ((y.put (y.many % 64) ((b.drop p).take (min (n_b - p) (64 - (y.many % 64)))) (by simp; omega)).setMany (y.many + min (n_b - p) (64 - (y.many % 64))) (by omega)).h) (hBw5.at 1 (w8C ((y.put (y.many % 64) ((b.drop p).take (min (n_b - p) (64 - (y.many % 64)))) (by simp; omega)).setMany (y.many + min (n_b - p) (64 - (y.many % 64))) (by omega)).h) (st_h _)) (by rw [w8C_len]; kernel_rfl)) ?_))))))
      refine wpF_run 1 [(38, (vP w.heap.size 9))] (wpF_step (op_v (some 39) (Instr.loadAt 112 (vP w.heap.size 9)) (vA (b64C ((y.put (y.many % 64) ((b.drop p).take (min (n_b - p) (64 - (y.many % 64)))) (by simp; omega)).setMany (y.many + min (n_b - p) (64 - (y.many % 64))) (by omega)).rb)) (rn_lda (vs := b64C ((y.put (y.many % 64) ((b.drop p).take (min (n_b - p) (64 - (y.many % 64)))) (by simp; omega)).setMany (y.many + min (n_b - p) (64 - (y.many % 64))) (by omega)).rb) (hBw5.at 9 (b64C ((y.put (y.many % 64) ((b.drop p).take (min (n_b - p) (64 - (y.many % 64)))) (by simp; omega)).setMany (y.many + min (n_b - p) (64 - (y.many % 64))) (by omega)).rb) (st_rest _)) (by rw [b64C_len]; kernel_rfl)) ?_))
      have hK1 := (((((hg2.ext hEl)).chg hCw4 (fun hs => by have h : _ = _ := hs; omega))).chg hCw5 (fun hs => by have h : _ = _ := hs; omega))
      refine wpF_step (op_call (some 40) (c_dcmpr (((y.put (y.many % 64) ((b.drop p).take (min (n_b - p) (64 - (y.many % 64)))) (by simp; omega)).setMany (y.many + min (n_b - p) (64 - (y.many % 64))) (by omega)).h) (((y.put (y.many % 64) ((b.drop p).take (min (n_b - p) (64 - (y.many % 64)))) (by simp; omega)).setMany (y.many + min (n_b - p) (64 - (y.many % 64))) (by omega)).rb) _ hK1) ?_)
      rintro _ w6 ⟨rfl, hEw6⟩
      have hzw6 := hEw6.size
      refine wpF_run 1 [(41, (vP w.heap.size 1))] (wpF_step (op_store 111 w.heap.size 1 114 (vA (w8C (cmpr (((y.put (y.many % 64) ((b.drop p).take (min (n_b - p) (64 - (y.many % 64)))) (by simp; omega)).setMany (y.many + min (n_b - p) (64 - (y.many % 64))) (by omega)).h) (((y.put (y.many % 64) ((b.drop p).take (min (n_b - p) (64 - (y.many % 64)))) (by simp; omega)).setMany (y.many + min (n_b - p) (64 - (y.many % 64))) (by omega)).rb).l))) (stC ((y.put (y.many % 64) ((b.drop p).take (min (n_b - p) (64 - (y.many % 64)))) (by simp; omega)).setMany (y.many + min (n_b - p) (64 - (y.many % 64))) (by omega))) (w8C (cmpr (((y.put (y.many % 64) ((b.drop p).take (min (n_b - p) (64 - (y.many % 64)))) (by simp; omega)).setMany (y.many + min (n_b - p) (64 - (y.many % 64))) (by omega)).h) (((y.put (y.many % 64) ((b.drop p).take (min (n_b - p) (64 - (y.many % 64)))) (by simp; omega)).setMany (y.many + min (n_b - p) (64 - (y.many % 64))) (by omega)).rb).l)) (hBw5.ext hEw6) (by rw [w8C_len]; kernel_rfl) (by first | (simp; done) | (simp; omega)) (w8C_one _) ?_))
      intro w7 hBw7 hCw7
      have hzw7 := hCw7.size
      rw [show (setFrom (stC ((y.put (y.many % 64) ((b.drop p).take (min (n_b - p) (64 - (y.many % 64)))) (by simp; omega)).setMany (y.many + min (n_b - p) (64 - (y.many % 64))) (by omega))) 1 (w8C (cmpr (((y.put (y.many % 64) ((b.drop p).take (min (n_b - p) (64 - (y.many % 64)))) (by simp; omega)).setMany (y.many + min (n_b - p) (64 - (y.many % 64))) (by omega)).h) (((y.put (y.many % 64) ((b.drop p).take (min (n_b - p) (64 - (y.many % 64)))) (by simp; omega)).setMany (y.many + min (n_b - p) (64 - (y.many % 64))) (by omega)).rb).l)) : List Value) = stC (((y.put (y.many % 64) ((b.drop p).take (min (n_b - p) (64 - (y.many % 64)))) (by simp; omega)).setMany (y.many + min (n_b - p) (64 - (y.many % 64))) (by omega)).setH (cmpr (((y.put (y.many % 64) ((b.drop p).take (min (n_b - p) (64 - (y.many % 64)))) (by simp; omega)).setMany (y.many + min (n_b - p) (64 - (y.many % 64))) (by omega)).h) (((y.put (y.many % 64) ((b.drop p).take (min (n_b - p) (64 - (y.many % 64)))) (by simp; omega)).setMany (y.many + min (n_b - p) (64 - (y.many % 64))) (by omega)).rb).l)) from st_setH] at hBw7
      refine wpF_end (inBlock_normal (then_normal ?_))
      rw [show n_b - p - (min (n_b - p) (64 - (y.many % 64))) = n_b - (p + min (n_b - p) (64 - (y.many % 64))) from by omega, show c_b - p - (min (n_b - p) (64 - (y.many % 64))) = c_b - (p + min (n_b - p) (64 - (y.many % 64))) from by omega]
      have hK2 := ((((((((hB4).chg hCw4 (fun hs => by have h : _ = _ := hs; omega))).chg hCw5 (fun hs => by have h : _ = _ := hs; omega))).ext hEw6)).chg hCw7 (fun hs => by have h : _ = _ := hs; omega))
      have hX1 : Ext w w7 := (Ext.own ((Ext.own (Ext.own hEl hCw4 (by omega)) hCw5 (by omega)).trans hEw6) hCw7 (by omega))
      refine endR_mk (p + min (n_b - p) (64 - (y.many % 64)), (((y.put (y.many % 64) ((b.drop p).take (min (n_b - p) (64 - (y.many % 64)))) (by simp; omega)).setMany (y.many + min (n_b - p) (64 - (y.many % 64))) (by omega)).setH (cmpr (((y.put (y.many % 64) ((b.drop p).take (min (n_b - p) (64 - (y.many % 64)))) (by simp; omega)).setMany (y.many + min (n_b - p) (64 - (y.many % 64))) (by omega)).h) (((y.put (y.many % 64) ((b.drop p).take (min (n_b - p) (64 - (y.many % 64)))) (by simp; omega)).setMany (y.many + min (n_b - p) (64 - (y.many % 64))) (by omega)).rb).l)), a1) ?_ ?_
      · exact ⟨by omega, by rw [List.take_add, ← List.append_assoc]; exact hsm.full (a := y.many % 64) (n := min (n_b - p) (64 - (y.many % 64))) (by omega) (by simp; omega) (by omega) _ _, by have hz := (((hS1.ext hEw6)).chg hCw7 (fun k h1 h2 hs => by have h : k = _ := hs; omega)); rw [show n_b - p - (min (n_b - p) (64 - (y.many % 64))) = n_b - (p + min (n_b - p) (64 - (y.many % 64))) from by omega, show c_b - p - (min (n_b - p) (64 - (y.many % 64))) = c_b - (p + min (n_b - p) (64 - (y.many % 64))) from by omega, List.take_of_length_le (by simp; omega), List.drop_drop] at hz; exact hz, hBw7, hK2, hX1⟩
      · first | omega | (dsimp only; omega)
    · replace hc35 : ¬ (y.many % 64 + (min (n_b - p) (64 - (y.many % 64))) = 64) := by have := of_eq_f hc35; omega
      refine wpF_end (then_code (wpC_false (wpC_skip (inBlock_normal (then_normal ?_)))))
      rw [show n_b - p - (min (n_b - p) (64 - (y.many % 64))) = n_b - (p + min (n_b - p) (64 - (y.many % 64))) from by omega, show c_b - p - (min (n_b - p) (64 - (y.many % 64))) = c_b - (p + min (n_b - p) (64 - (y.many % 64))) from by omega]
      refine endR_mk (p + min (n_b - p) (64 - (y.many % 64)), ((y.put (y.many % 64) ((b.drop p).take (min (n_b - p) (64 - (y.many % 64)))) (by simp; omega)).setMany (y.many + min (n_b - p) (64 - (y.many % 64))) (by omega)), a1) ?_ ?_
      · exact ⟨by omega, by rw [List.take_add, ← List.append_assoc]; exact hsm.part (a := y.many % 64) (n := min (n_b - p) (64 - (y.many % 64))) (by omega) (by simp; omega) (by omega) _ _, by have hz := hS1; rw [show n_b - p - (min (n_b - p) (64 - (y.many % 64))) = n_b - (p + min (n_b - p) (64 - (y.many % 64))) from by omega, show c_b - p - (min (n_b - p) (64 - (y.many % 64))) = c_b - (p + min (n_b - p) (64 - (y.many % 64))) from by omega, List.take_of_length_le (by simp; omega), List.drop_drop] at hz; exact hz, hBw5, ((((hB4).chg hCw4 (fun hs => by have h : _ = _ := hs; omega))).chg hCw5 (fun hs => by have h : _ = _ := hs; omega)), (Ext.own (Ext.own hEl hCw4 (by omega)) hCw5 (by omega))⟩
      · first | omega | (dsimp only; omega)
  · replace hc13 : ¬ (n_b - p > 0) := by have := of_d_f hc13; omega
    refine wpF_end (then_code (wpC_false (wpC_exit (then_exit (then_exit (inBlock_exit (then_code (wpC_seq (wpC_region ?_)))))))))
    refine wpF_step (op_v (some 42) (Instr.loadAt 114 (vP w.heap.size 0)) (vA (stC y)) (rn_lda (vs := stC y) (hB2.all) (by rw [stC_len]; kernel_rfl)) ?_)
    refine wpF_step (op_store 114 w1.heap.size 0 114 (vA (stC y)) (stC Sta.zero) (stC y) hB4 (by rw [stC_len]; kernel_rfl) (by first | (simp; done) | (simp; omega)) (stC_one _) ?_)
    intro w8 hBw8 hCw8
    have hzw8 := hCw8.size
    rw [setFrom_all _ _ (by simp)] at hBw8
    refine wpF_end (then_code (wpC_ret (body_ret1 (show resVal Tryd.prog 43 _ _ (.cell 4 114) (vA (stC y)) from ⟨⟨w1.heap.size, 0, none⟩, (by kernel_rfl), run_loadVar_agg (T := 114) (vs := stC y) (hBw8).all (by rw [stC_len]; kernel_rfl)⟩) ?_)))
    obtain rfl : p = n_b := by omega
    rw [List.take_of_length_le (by omega)] at hsm
    exact ⟨y, rfl, hsm, (Ext.own hEl hCw8 (by omega))⟩

end Go.Proofs.YthjplefmfjkhfaaDoor
