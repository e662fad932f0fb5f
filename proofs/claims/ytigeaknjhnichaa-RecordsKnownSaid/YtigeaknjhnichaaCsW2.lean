/- CsW2: what each function does, by its own code. No condition beyond those of each statement. -/
import Derived.Test.YtigeaknjhnichaaCsW1
import Derived.Test.YtigeaknjhnichaaCsWords1
namespace Go.Proofs.Ytigeaknjhnichaa
open Go Go.RowKit Go.Cs
set_option maxRecDepth 100000
set_option linter.all false
set_option linter.unusedVariables false

theorem c_Rl (v : Nat) (k : Int)  (w : World) (hp0 : v < 2 ^ 32) :
    Calls Try.prog 51 #[(.int .u32 ((v : Nat) : Int)), (.int .i64 k)] w (Ret fun r w' => r = (.int .u32 ((rotl v (k % 32).toNat : Nat) : Int)) ∧ w = w') := by
  refine calls_of (n := 17) (σ := [(0, (.int .u32 ((v : Nat) : Int))), (1, (.int .i64 k))]) Try.func51 rfl (by kernel_rfl) ?_
  refine wpC_seq ?_
  refine wpC_region ?_
  refine wpF_run 1 [(4, (.int .u32 ((0 : Nat) : Int)))] (by kernel_rfl) ?_
  refine wpF_end (by kernel_rfl) ?_
  refine then_code ?_
  refine wpC_seq ?_
  refine wpC_region ?_
  refine wpF_run 1 [(6, (.int .i64 k))] (by kernel_rfl) ?_
  refine wpF_step (op_eqv (d := (some 7)) (.int .u64 (IntKind.u64.wrap k)) (.int .u64 (((k % 18446744073709551616).toNat : Nat) : Int)) (by kernel_rfl) (congrArg (Value.int .u64) (wrap_u64_int k)) ?_)
  refine wpF_step (op_eqv (d := (some 8)) (.int .u64 ((IntKind.u64.wrap ((BitVec.ofInt IntKind.u64.bits (((k % 18446744073709551616).toNat : Nat) : Int) &&& BitVec.ofInt IntKind.u64.bits ((31 : Nat) : Int)).toNat : Int)))) (.int .u64 (((k % 32).toNat : Nat) : Int)) (by kernel_rfl) (congrArg (Value.int .u64) ((andU .u64 rfl (by show _ < 2 ^ 64; omega) (by show _ < 2 ^ 64; omega)).trans (by rw [and31]))) ?_)
  refine wpF_run 1 [(5, (.int .u64 (((k % 32).toNat : Nat) : Int)))] (by kernel_rfl) ?_
  refine wpF_end (by kernel_rfl) ?_
  refine then_code ?_
  refine wpC_seq ?_
  refine wpC_region ?_
  refine wpF_run 2 [(10, (.int .u64 (((k % 32).toNat : Nat) : Int))), (9, (.int .u32 ((v : Nat) : Int)))] (by kernel_rfl) ?_
  refine wpF_step (op_v (d := (some 11)) (s := (do eqGuard .shl 28 (.tmp 9) (.tmp 10) (.int .u32 ((v : Nat) : Int)) (.int .u64 (((k % 32).toNat : Nat) : Int)); binOp .shl 28 (.int .u32 ((v : Nat) : Int)) (.int .u64 (((k % 32).toNat : Nat) : Int)))) (v := (.int .u32 ((v * 2 ^ ((k % 32).toNat) % 2 ^ 32 : Nat) : Int))) (by kernel_rfl) (run_shl rfl (by show _ ≤ 32; omega)) ?_)
  refine wpF_run 2 [(13, (.int .u64 (((k % 32).toNat : Nat) : Int))), (12, (.int .u32 ((v : Nat) : Int)))] (by kernel_rfl) ?_
  refine wpF_step (op_eqv (d := (some 14)) (.int .u64 (IntKind.u64.wrap (((32 : Nat) : Int) - (((k % 32).toNat : Nat) : Int)))) (.int .u64 ((32 - (k % 32).toNat : Nat) : Int)) (by kernel_rfl) (congrArg (Value.int .u64) (wrapUx rfl (by omega) (by show _ < 2 ^ 64; omega))) ?_)
  refine wpF_step (op_v (d := (some 15)) (s := (do eqGuard .shr 28 (.tmp 12) (.tmp 14) (.int .u32 ((v : Nat) : Int)) (.int .u64 ((32 - (k % 32).toNat : Nat) : Int)); binOp .shr 28 (.int .u32 ((v : Nat) : Int)) (.int .u64 ((32 - (k % 32).toNat : Nat) : Int)))) (v := (.int .u32 ((v / 2 ^ (32 - (k % 32).toNat) : Nat) : Int))) (by kernel_rfl) (run_shr (by show _ ≤ 32; omega)) ?_)
  refine wpF_step (op_eqv (d := (some 16)) (.int .u32 ((IntKind.u32.wrap ((BitVec.ofInt IntKind.u32.bits ((v * 2 ^ ((k % 32).toNat) % 2 ^ 32 : Nat) : Int) ||| BitVec.ofInt IntKind.u32.bits ((v / 2 ^ (32 - (k % 32).toNat) : Nat) : Int)).toNat : Int)))) (.int .u32 ((rotl v (k % 32).toNat : Nat) : Int)) (by kernel_rfl) (congrArg (Value.int .u32) (orU .u32 rfl (Nat.mod_lt _ (by decide)) (by show _ < 2 ^ 32; exact Nat.lt_of_le_of_lt (Nat.div_le_self _ _) hp0))) ?_)
  refine wpF_run 1 [(4, (.int .u32 ((rotl v (k % 32).toNat : Nat) : Int)))] (by kernel_rfl) ?_
  refine wpF_end (by kernel_rfl) ?_
  refine then_code ?_
  refine wpC_ret ?_
  refine body_ret1 (by kernel_rfl) (show resVal Try.prog 17 _ _ (.tmp 4) (.int .u32 ((rotl v (k % 32).toNat : Nat) : Int)) by (show _ = _; kernel_rfl)) ?_
  exact ⟨rfl, rfl⟩

theorem c_Rot (v : Nat) (n : Int)  (w : World) (hp0 : v < 2 ^ 32) :
    Calls Try.prog 25 #[(.int .u32 ((v : Nat) : Int)), (.int .i64 n)] w (Ret fun r w' => r = (.int .u32 ((rot v n : Nat) : Int)) ∧ w = w') := by
  refine calls_of (n := 9) (σ := [(0, (.int .u32 ((v : Nat) : Int))), (1, (.int .i64 n))]) Try.func25 rfl (by kernel_rfl) ?_
  refine wpC_seq ?_
  refine wpC_region ?_
  refine wpF_run 1 [(4, (.int .u32 ((0 : Nat) : Int)))] (by kernel_rfl) ?_
  refine wpF_end (by kernel_rfl) ?_
  refine then_code ?_
  refine wpC_seq ?_
  refine wpC_region ?_
  refine wpF_run 2 [(6, (.int .i64 n)), (5, (.int .u32 ((v : Nat) : Int)))] (by kernel_rfl) ?_
  refine wpF_step (op_eqv (d := (some 7)) (.int .i64 (n.tmod ((32 : Nat) : Int))) (.int .i64 (n.tmod 32)) (by kernel_rfl) (congrArg (Value.int .i64) (rfl)) ?_)
  refine wpF_step (op_callAt (d := (some 8)) (by kernel_rfl) (c_Rl v (n.tmod 32) _ (by omega)) ?_)
  rintro _ _ ⟨rfl, rfl⟩
  refine wpF_run 1 [(4, (.int .u32 ((rotl v ((n.tmod 32) % 32).toNat : Nat) : Int)))] (by kernel_rfl) ?_
  refine wpF_end (by kernel_rfl) ?_
  refine then_code ?_
  refine wpC_ret ?_
  refine body_ret1 (by kernel_rfl) (show resVal Try.prog 9 _ _ (.tmp 4) (.int .u32 ((rotl v ((n.tmod 32) % 32).toNat : Nat) : Int)) by (show _ = _; kernel_rfl)) ?_
  have h32 := (tmod32 n).2.2
  rw [h32]
  exact ⟨rfl, rfl⟩

theorem c_rBits (v : Nat)  (w : World)  :
    Calls Try.prog 52 #[(.int .u32 ((v : Nat) : Int))] w (Ret fun r w' => ∃ a0 ca0, r = (.slice a0 32 ca0) ∧ Es (nv .i64) w.heap.size w'.heap.size w' a0 32 ca0 (bitsTo v 32) ∧ Ext w w') := by
  refine calls_of (n := 18) (σ := [(0, (.int .u32 ((v : Nat) : Int)))]) Try.func52 rfl (by kernel_rfl) ?_
  refine wpC_seq ?_
  refine wpC_region ?_
  refine wpF_run 1 [(2, (.slice none 0 0))] (by kernel_rfl) ?_
  refine wpF_end (by kernel_rfl) ?_
  refine then_code ?_
  refine wpC_seq ?_
  refine wpC_region ?_
  refine wpF_run 1 [(3, (.slice none 0 0))] (by kernel_rfl) ?_
  refine wpF_end (by kernel_rfl) ?_
  refine then_code ?_
  refine wpC_seq ?_
  refine wpC_seq ?_
  refine wpC_region ?_
  refine wpF_run 1 [(4, (.int .i64 ((31 : Nat) : Int)))] (by kernel_rfl) ?_
  refine wpF_end (by kernel_rfl) ?_
  refine then_code ?_
  refine wpC_block ?_
  refine wpC_loop (X := Nat × Option Addr × Nat) (fun ⟨m, a, cp⟩ => [(3, (.slice a m cp)), (4, (.int .i64 (31 - (m : Int))))]) [5, 6, 7, 8, 9, 10, 11, 12, 13, 14, 15, 16] (fun ⟨m, a, cp⟩ w1 => m ≤ 32 ∧ Own (nv .i64) w.heap.size w1.heap.size w1 a m cp 3 (bitsTo v m) ∧ Ext w w1) (fun ⟨m, a, cp⟩ => 32 - m) (0, none, 0) (by kernel_rfl) ⟨by omega, Own.nil _ _ _ _ _, (Ext.refl _)⟩ ?_
  rintro ⟨m, a, cp⟩ dw1 w1 ⟨hm, hO, hEl⟩
  have hzl := hEl.size
  have hle := hO.es.le
  refine wpC_seq ?_
  refine wpC_seq ?_
  refine wpC_region ?_
  refine wpF_run 1 [(5, (.int .i64 (31 - (m : Int))))] (by kernel_rfl) ?_
  refine wpF_step (op_split (d := some 6) (decide (31 - (m : Int) ≥ ((0 : Nat) : Int))) (by kernel_rfl) (fun hc => ?_) (fun hc => ?_))
  · replace hc : m < 32 := by have := of_d_t hc; omega
    have hidx : 31 - (m : Int) = ((31 - m : Nat) : Int) := by omega
    refine wpF_end (by kernel_rfl) ?_
    refine then_code ?_
    refine wpC_true (by kernel_rfl) ?_
    refine wpC_skip ?_
    refine then_code ?_
    refine wpC_seq ?_
    refine wpC_block ?_
    refine wpC_region ?_
    refine wpF_run 3 [(11, (.int .i64 (31 - (m : Int)))), (10, (.int .u32 ((v : Nat) : Int))), (9, (.slice a m cp))] (by kernel_rfl) ?_
    refine wpF_step (op_v (d := (some 12)) (s := (do eqGuard .shr 28 (.tmp 10) (.tmp 11) (.int .u32 ((v : Nat) : Int)) (.int .i64 (31 - (m : Int))); binOp .shr 28 (.int .u32 ((v : Nat) : Int)) (.int .i64 (31 - (m : Int))))) (v := (.int .u32 ((v / 2 ^ (31 - m) : Nat) : Int))) (by kernel_rfl) (by rw [hidx]; exact run_shr (by show _ ≤ 32; omega)) ?_)
    refine wpF_step (op_eqv (d := (some 13)) (.int .u32 (((v / 2 ^ (31 - m) : Nat) : Int).tmod ((2 : Nat) : Int))) (.int .u32 (((v / 2 ^ (31 - m)) % 2 : Nat) : Int)) (by kernel_rfl) (congrArg (Value.int .u32) (tmodN _ _)) ?_)
    refine wpF_step (op_eqv (d := (some 14)) (.int .i64 (IntKind.i64.wrap (((v / 2 ^ (31 - m)) % 2 : Nat) : Int))) (.int .i64 (((v / 2 ^ (31 - m)) % 2 : Nat) : Int)) (by kernel_rfl) (congrArg (Value.int .i64) (wrapS rfl (by omega) (by omega))) ?_)
    refine wpF_step (op_new (d := (some 15)) (s := Instr.buildSlice 85 1 #[(0, (.int .i64 (((v / 2 ^ (31 - m)) % 2 : Nat) : Int)))]) (.slice (some ⟨w1.heap.size, 0, none⟩) 1 1) [(.int .i64 (((v / 2 ^ (31 - m)) % 2 : Nat) : Int))] 3 (by kernel_rfl) (by kernel_rfl) ?_)
    intro w2 hBw2 hEw2
    have hzw2 := hEw2.size; have hlw2 := hBw2.lt
    have hSw2 : Es (nv .i64) w1.heap.size (w1.heap.size + 1) w2 (some ⟨w1.heap.size, 0, none⟩) 1 1 ([(v / 2 ^ (31 - m)) % 2]) := Es.of_blk hBw2 rfl rfl (Nat.le_refl _) (by decide) (Nat.le_refl _) (Nat.lt_succ_self _)
    refine wpF_step (op_append (d := (some 16)) 85 85 3 8 (.int .i64 ((0 : Nat) : Int)) a m cp (some ⟨w1.heap.size, 0, none⟩) 1 1 (by kernel_rfl) (by kernel_rfl) (by kernel_rfl) (by kernel_rfl) (fun _ => rfl) (hO.ext hEw2) hSw2 (by simp only [maxLen]; omega) (by omega) (by omega) ?_)
    intro a1 c1 w3 hOw3 hCw3
    have hzw3 := hCw3.size
    have hSw3 := hOw3.es
    refine wpF_run 1 [(3, (.slice a1 (m + 1) c1))] (by kernel_rfl) ?_
    refine wpF_end (by kernel_rfl) ?_
    refine inBlock_normal ?_
    refine then_code ?_
    refine wpC_region ?_
    refine wpF_run 1 [(7, (.int .i64 (31 - (m : Int))))] (by kernel_rfl) ?_
    refine wpF_step (op_eqv (d := (some 8)) (.int .i64 (IntKind.i64.wrap (31 - (m : Int) - ((1 : Nat) : Int)))) (.int .i64 (31 - ((m + 1 : Nat) : Int))) (by kernel_rfl) (congrArg (Value.int .i64) (wrapS (by omega) (by omega) (by omega))) ?_)
    refine wpF_run 1 [(4, (.int .i64 (31 - ((m + 1 : Nat) : Int))))] (by kernel_rfl) ?_
    refine wpF_end (by kernel_rfl) ?_
    refine then_normal ?_
    refine endR_mk (m + 1, a1, c1) (by kernel_rfl) ?_ ?_
    · exact ⟨by omega, (bitsTo_succ v m) ▸ hOw3, (Ext.ownS (hEl.trans hEw2) hCw3 (fun k hs hk => by have hn := (hO.ext hEw2).ne hs; omega))⟩
    · first | omega | (dsimp only; omega)
  · replace hc : m = 32 := by have := of_d_f hc; omega
    subst hc
    refine wpF_end (by kernel_rfl) ?_
    refine then_code ?_
    refine wpC_false (by kernel_rfl) ?_
    refine wpC_exit ?_
    refine then_exit ?_
    refine then_exit ?_
    refine inBlock_exit ?_
    refine then_code ?_
    refine wpC_seq ?_
    refine wpC_region ?_
    refine wpF_run 2 [(2, (.slice a 32 cp)), (17, (.slice a 32 cp))] (by kernel_rfl) ?_
    refine wpF_end (by kernel_rfl) ?_
    refine then_code ?_
    refine wpC_ret ?_
    refine body_ret1 (by kernel_rfl) (show resVal Try.prog 18 _ _ (.tmp 2) (.slice a 32 cp) by (show _ = _; kernel_rfl)) ?_
    exact ⟨_, _, rfl, hO.es, hEl⟩

theorem c_rNumber {lo_l hi_l : Nat} {a_l : Option Addr} {n_l c_l : Nat} {l : List Nat}  (w : World) (h_l : Es (nv .i64) lo_l hi_l w a_l n_l c_l l) (hp0 : l.length ≤ 32) (hp1 : ∀ i, gt l i < 2) :
    Calls Try.prog 53 #[(.slice a_l n_l c_l)] w (Ret fun r w' => r = (.int .u32 ((bnum l : Nat) : Int)) ∧ w = w') := by
  refine calls_of (n := 20) (σ := [(0, (.slice a_l n_l c_l))]) Try.func53 rfl (by kernel_rfl) ?_
  replace h_l := h_l.now; have hle_l := h_l.le
  refine wpC_seq ?_
  refine wpC_region ?_
  refine wpF_run 1 [(2, (.int .u32 ((0 : Nat) : Int)))] (by kernel_rfl) ?_
  refine wpF_end (by kernel_rfl) ?_
  refine then_code ?_
  refine wpC_seq ?_
  refine wpC_region ?_
  refine wpF_run 1 [(3, (.int .u32 ((0 : Nat) : Int)))] (by kernel_rfl) ?_
  refine wpF_end (by kernel_rfl) ?_
  refine then_code ?_
  refine wpC_seq ?_
  refine wpC_seq ?_
  refine wpC_region ?_
  refine wpF_run 1 [(4, (.int .i64 ((0 : Nat) : Int)))] (by kernel_rfl) ?_
  refine wpF_end (by kernel_rfl) ?_
  refine then_code ?_
  refine wpC_block ?_
  refine wpC_loop (X := Nat) (fun i => [(3, (.int .u32 ((bnum (l.take i) : Nat) : Int))), (4, (.int .i64 ((i : Nat) : Int)))]) [5, 6, 7, 8, 9, 10, 11, 12, 13, 14, 15, 16, 17, 18] (fun i w1 => w = w1 ∧ i ≤ l.length) (fun i => l.length - i) 0 (by rw [List.take_zero]; kernel_rfl) ⟨rfl, by omega⟩ ?_
  rintro i dw1 w1 ⟨rfl, hi⟩
  have hlen := h_l.len_eq
  refine wpC_seq ?_
  refine wpC_seq ?_
  refine wpC_region ?_
  refine wpF_run 3 [(7, (.int .i64 ((n_l : Nat) : Int))), (6, (.slice a_l n_l c_l)), (5, (.int .i64 ((i : Nat) : Int)))] (by kernel_rfl) ?_
  refine wpF_step (op_split (d := (some 8)) (decide (((i : Nat) : Int) < ((n_l : Nat) : Int))) (by kernel_rfl) (fun hc8 => ?_) (fun hc8 => ?_))
  · replace hc8 : i < n_l := by have := of_d_t hc8; omega
    have hb := bnum_lt32 hp1 hp0 (i := i) (by omega)
    have hg := hp1 i
    refine wpF_end (by kernel_rfl) ?_
    refine then_code ?_
    refine wpC_true (by kernel_rfl) ?_
    refine wpC_skip ?_
    refine then_code ?_
    refine wpC_seq ?_
    refine wpC_block ?_
    refine wpC_region ?_
    refine wpF_run 1 [(11, (.int .u32 ((bnum (l.take i) : Nat) : Int)))] (by kernel_rfl) ?_
    refine wpF_step (op_eqv (d := (some 12)) (.int .u32 (IntKind.u32.wrap (((2 : Nat) : Int) * ((bnum (l.take i) : Nat) : Int)))) (.int .u32 ((2 * bnum (l.take i) : Nat) : Int)) (by kernel_rfl) (congrArg (Value.int .u32) (wrapUx rfl (by simp) (by show _ < 2 ^ 32; omega))) ?_)
    refine wpF_run 2 [(14, (.int .i64 ((i : Nat) : Int))), (13, (.slice a_l n_l c_l))] (by kernel_rfl) ?_
    obtain ⟨b1, o1, rfl⟩ := h_l.addr (by omega)
    refine wpF_step (op_v (d := (some 15)) (s := Instr.indexAt 85 (.slice (some ⟨b1, o1, none⟩) n_l c_l) (.int .i64 ((i : Nat) : Int))) (v := (.pointer (some ⟨b1, o1 + i * 1, none⟩))) (by kernel_rfl) (rn_ixs (E := 3) (sz := 1) (by kernel_rfl) (by kernel_rfl) (by omega)) ?_)
    refine wpF_step (op_v (d := (some 16)) (s := Instr.loadAt 3 (.pointer (some ⟨b1, o1 + i * 1, none⟩))) (v := (.int .i64 ((gt l i : Nat) : Int))) (by kernel_rfl) (rn_ld (by kernel_rfl) (h_l.celln (by omega))) ?_)
    refine wpF_step (op_eqv (d := (some 17)) (.int .u32 (IntKind.u32.wrap ((gt l i : Nat) : Int))) (.int .u32 (((gt l i) % 2 ^ 32 : Nat) : Int)) (by kernel_rfl) (congrArg (Value.int .u32) (wrapU rfl rfl)) ?_)
    refine wpF_step (op_eqv (d := (some 18)) (.int .u32 (IntKind.u32.wrap (((2 * bnum (l.take i) : Nat) : Int) + (((gt l i) % 2 ^ 32 : Nat) : Int)))) (.int .u32 ((bnum (l.take (i + 1)) : Nat) : Int)) (by kernel_rfl) (congrArg (Value.int .u32) (wrapUx rfl (by rw [bnum_take (by omega)]; omega) (by rw [bnum_take (by omega)]; exact hb))) ?_)
    refine wpF_run 1 [(3, (.int .u32 ((bnum (l.take (i + 1)) : Nat) : Int)))] (by kernel_rfl) ?_
    refine wpF_end (by kernel_rfl) ?_
    refine inBlock_normal ?_
    refine then_code ?_
    refine wpC_region ?_
    refine wpF_run 1 [(9, (.int .i64 ((i : Nat) : Int)))] (by kernel_rfl) ?_
    refine wpF_step (op_eqv (d := (some 10)) (.int .i64 (IntKind.i64.wrap (((i : Nat) : Int) + ((1 : Nat) : Int)))) (.int .i64 ((i + 1 : Nat) : Int)) (by kernel_rfl) (congrArg (Value.int .i64) (wrapS (by omega) (by omega) (by omega))) ?_)
    refine wpF_run 1 [(4, (.int .i64 ((i + 1 : Nat) : Int)))] (by kernel_rfl) ?_
    refine wpF_end (by kernel_rfl) ?_
    refine then_normal ?_
    refine endR_mk (i + 1) (by kernel_rfl) ?_ ?_
    · exact ⟨rfl, by omega⟩
    · first | omega | (dsimp only; omega)
  · replace hc8 : ¬ (i < n_l) := by have := of_d_f hc8; omega
    refine wpF_end (by kernel_rfl) ?_
    refine then_code ?_
    refine wpC_false (by kernel_rfl) ?_
    refine wpC_exit ?_
    refine then_exit ?_
    refine then_exit ?_
    refine inBlock_exit ?_
    refine then_code ?_
    refine wpC_seq ?_
    refine wpC_region ?_
    refine wpF_run 2 [(2, (.int .u32 ((bnum (l.take i) : Nat) : Int))), (19, (.int .u32 ((bnum (l.take i) : Nat) : Int)))] (by kernel_rfl) ?_
    refine wpF_end (by kernel_rfl) ?_
    refine then_code ?_
    refine wpC_ret ?_
    refine body_ret1 (by kernel_rfl) (show resVal Try.prog 20 _ _ (.tmp 2) (.int .u32 ((bnum (l.take i) : Nat) : Int)) by (show _ = _; kernel_rfl)) ?_
    exact ⟨by rw [List.take_of_length_le (by omega)], rfl⟩

theorem c_rRot (v : Nat) (n : Int)  (w : World) (hp0 : v < 2 ^ 32) :
    Calls Try.prog 26 #[(.int .u32 ((v : Nat) : Int)), (.int .i64 n)] w (Ret fun r w' => r = (.int .u32 ((bnum ((bitsTo v 32).drop (n % 32).toNat ++ (bitsTo v 32).take (n % 32).toNat) : Nat) : Int)) ∧ Ext w w') := by
  refine calls_of (n := 25) (σ := [(0, (.int .u32 ((v : Nat) : Int))), (1, (.int .i64 n))]) Try.func26 rfl (by kernel_rfl) ?_
  refine wpC_seq ?_
  refine wpC_region ?_
  refine wpF_run 1 [(4, (.int .u32 ((0 : Nat) : Int)))] (by kernel_rfl) ?_
  refine wpF_end (by kernel_rfl) ?_
  refine then_code ?_
  refine wpC_seq ?_
  refine wpC_region ?_
  refine wpF_run 1 [(7, (.int .i64 n))] (by kernel_rfl) ?_
  refine wpF_step (op_eqv (d := (some 8)) (.int .i64 (n.tmod ((32 : Nat) : Int))) (.int .i64 (n.tmod 32)) (by kernel_rfl) (congrArg (Value.int .i64) (rfl)) ?_)
  refine wpF_run 1 [(5, (.int .i64 (n.tmod 32)))] (by kernel_rfl) ?_
  refine wpF_end (by kernel_rfl) ?_
  refine then_code ?_
  refine wpC_seq ?_
  refine wpC_seq ?_
  refine wpC_region ?_
  refine wpF_run 1 [(9, (.int .i64 (n.tmod 32)))] (by kernel_rfl) ?_
  refine wpF_step (op_split (d := some 10) (decide (n.tmod 32 < ((0 : Nat) : Int))) (by kernel_rfl) (fun hc => ?_) (fun hc => ?_))
  · replace hc : n.tmod 32 < 0 := of_d_t hc
    refine wpF_end (by kernel_rfl) ?_
    refine then_code ?_
    refine wpC_true (by kernel_rfl) ?_
    refine wpC_region ?_
    refine wpF_run 1 [(11, (.int .i64 (n.tmod 32)))] (by kernel_rfl) ?_
    refine wpF_step (op_eqv (d := (some 12)) (.int .i64 (IntKind.i64.wrap (n.tmod 32 + ((32 : Nat) : Int)))) (.int .i64 (((n % 32).toNat : Nat) : Int)) (by kernel_rfl) (congrArg (Value.int .i64) (wrapS (by have := tmod32 n; omega) (by omega) (by omega))) ?_)
    refine wpF_run 1 [(5, (.int .i64 (((n % 32).toNat : Nat) : Int)))] (by kernel_rfl) ?_
    refine wpF_end (by kernel_rfl) ?_
    refine then_code ?_
    refine wpC_seq ?_
    refine wpC_region ?_
    refine wpF_run 1 [(13, (.int .u32 ((v : Nat) : Int)))] (by kernel_rfl) ?_
    refine wpF_step (op_callAt (d := (some 14)) (by kernel_rfl) (c_rBits v _) ?_)
    rintro _ w1 ⟨a1, ca1, rfl, hFz1_0, hEw1⟩
    have hzw1 := hEw1.size
    have hlea1 := hFz1_0.le
    refine wpF_run 1 [(6, (.slice a1 32 ca1))] (by kernel_rfl) ?_
    refine wpF_end (by kernel_rfl) ?_
    refine then_code ?_
    refine wpC_seq ?_
    refine wpC_drawM (Ext w1.drew) 11 [(16, 0, 0), (17, 64, 0), (18, 32, 0), (19, 196608, 6), (20, 294912, 9), (21, 64, 0), (22, 32, 0), (23, 3145728, 96), (24, 4718592, 144), (25, 8388608, 256), (5, 16777216, 1023)] (by kernel_rfl) ⟨by kernel_rfl, by kernel_rfl, by kernel_rfl⟩ (fun hT257 => ?_)
    have hEw2 : Ext w1 w1.drew := Ext.drew w1
    generalize w1.drew = w2 at hEw2 ⊢
    have hzw2 := hEw2.size
    refine anyM_run hT257 1 2 [(16, (.slice a1 32 ca1))] (QPan.then put_panic_bodyPost) (by kernel_rfl) (by kernel_rfl) (show Ext w2 w2 from (Ext.refl _)) (fun _ => by kernel_rfl) ?_
    refine anyM_run hT257 2 6 [(17, (.int .i64 (((n % 32).toNat : Nat) : Int)))] (QPan.then put_panic_bodyPost) (by kernel_rfl) (by kernel_rfl) (show Ext w2 w2 from (Ext.refl _)) (fun _ => by kernel_rfl) ?_
    obtain ⟨a2, hR1, hS1⟩ := (hFz1_0.ext hEw2).slice (P := Try.prog) (T := 85) (E := 3) (xl := (some (.int .i64 (((n % 32).toNat : Nat) : Int)))) (xh := none) (mx := none) (x := (n % 32).toNat) (r := 32) (m := ca1) (by kernel_rfl) (by kernel_rfl) (.inr ⟨_, rfl⟩) (.inl ⟨rfl, rfl⟩) (.inl ⟨rfl, rfl⟩) (by simp) (by omega) (by omega) (by omega) (by omega)
    refine anyM_take hT257 3 14 (some 18) (.slice a2 (32 - ((n % 32).toNat)) (ca1 - ((n % 32).toNat))) (QPan.then put_panic_bodyPost) (by kernel_rfl) (by kernel_rfl) (show Ext w2 w2 from (Ext.refl _)) (yld_val (s := Instr.sliceAt 85 (.slice a1 32 ca1) (some (.int .i64 (((n % 32).toNat : Nat) : Int))) none none) (by kernel_rfl) (fun w' hC => hR1 _)) ?_
    refine anyM_run hT257 5 46 [(20, (.slice a1 32 ca1))] (QPan.then put_panic_bodyPost) (by kernel_rfl) (by kernel_rfl) (show Ext w2 w2 from (Ext.refl _)) (fun _ => by kernel_rfl) ?_
    refine anyM_run hT257 6 110 [(21, (.int .i64 (((n % 32).toNat : Nat) : Int)))] (QPan.then put_panic_bodyPost) (by kernel_rfl) (by kernel_rfl) (show Ext w2 w2 from (Ext.refl _)) (fun _ => by kernel_rfl) ?_
    obtain ⟨a3, hR2, hS2⟩ := (hFz1_0.ext hEw2).slice (P := Try.prog) (T := 85) (E := 3) (xl := none) (xh := (some (.int .i64 (((n % 32).toNat : Nat) : Int)))) (mx := none) (x := 0) (r := (n % 32).toNat) (m := ca1) (by kernel_rfl) (by kernel_rfl) (.inl ⟨rfl, rfl⟩) (.inr ⟨_, rfl⟩) (.inl ⟨rfl, rfl⟩) (by simp) (by omega) (by omega) (by omega) (by omega)
    refine anyM_take hT257 7 238 (some 22) (.slice a3 ((n % 32).toNat - 0) (ca1 - 0)) (QPan.then put_panic_bodyPost) (by kernel_rfl) (by kernel_rfl) (show Ext w2 w2 from (Ext.refl _)) (yld_val (s := Instr.sliceAt 85 (.slice a1 32 ca1) none (some (.int .i64 (((n % 32).toNat : Nat) : Int))) none) (by kernel_rfl) (fun w' hC => hR2 _)) ?_
    refine anyM_one 0 239 (by kernel_rfl) (by kernel_rfl) (op_new (d := (some 15)) (s := Instr.buildSlice 85 0 #[]) (.slice (some ⟨w2.heap.size, 0, none⟩) 0 0) [] 3 (by kernel_rfl) (by kernel_rfl) ?_)
    intro w3 hBw3 hEw3
    have hzw3 := hEw3.size; have hlw3 := hBw3.lt
    have hSw3 : Es (nv .i64) w2.heap.size (w2.heap.size + 1) w3 (some ⟨w2.heap.size, 0, none⟩) 0 0 [] := Es.of_blk hBw3 rfl rfl (Nat.le_refl _) (by decide) (Nat.le_refl _) (Nat.lt_succ_self _)
    refine ⟨.inr hEw3, ?_⟩
    have hO1 : Own (nv .i64) w2.heap.size (w2.heap.size + 1) w3 (some ⟨w2.heap.size, 0, none⟩) 0 0 3 ([]) := Own.of_blk hBw3 (by simp) (by rfl) hSw3.len_eq (Nat.le_refl _) (by simp only [maxLen]; omega) (Nat.le_refl _) (Nat.lt_succ_self _)
    refine anyM_one 4 255 (by kernel_rfl) (by kernel_rfl) (op_append (d := (some 19)) 85 85 3 8 (.int .i64 ((0 : Nat) : Int)) (some ⟨w2.heap.size, 0, none⟩) 0 0 a2 (32 - ((n % 32).toNat)) (ca1 - ((n % 32).toNat)) (by kernel_rfl) (by kernel_rfl) (by kernel_rfl) (by kernel_rfl) (fun _ => rfl) hO1 (hS1.ext hEw3) (by simp only [maxLen]; omega) (by omega) (by omega) ?_)
    intro a4 c1 w4 hOw4 hCw4
    have hzw4 := hCw4.size
    have hSw4 := hOw4.es
    refine ⟨.inr (Ext.ownS hEw3 hCw4 (fun k hs hk => by have hn := hO1.ne hs; omega)), ?_⟩
    refine anyM_one 8 511 (by kernel_rfl) (by kernel_rfl) (op_append (d := (some 23)) 85 85 3 8 (.int .i64 ((0 : Nat) : Int)) a4 (0 + (32 - ((n % 32).toNat))) c1 a3 ((n % 32).toNat - 0) (ca1 - 0) (by kernel_rfl) (by kernel_rfl) (by kernel_rfl) (by kernel_rfl) (fun _ => rfl) hOw4 (((hS2.ext hEw3)).chg hCw4 (fun k h1 h2 hs => by have hn := hO1.ne hs; omega)) (by simp only [maxLen]; omega) (by omega) (by omega) ?_)
    intro a5 c2 w5 hOw5 hCw5
    have hzw5 := hCw5.size
    have hSw5 := hOw5.es
    refine ⟨.inr (Ext.ownS (Ext.ownS hEw3 hCw4 (fun k hs hk => by have hn := hO1.ne hs; omega)) hCw5 (fun k hs hk => by have hn := hOw4.ne hs; omega)), ?_⟩
    refine anyM_class (C := Ext w2) (C' := Ext w5) (fun w' h => ((Ext.ownS (Ext.ownS hEw3 hCw4 (fun k hs hk => by have hn := hO1.ne hs; omega)) hCw5 (fun k hs hk => by have hn := hOw4.ne hs; omega))).trans h) ?_
    refine anyM_take hT257 9 1023 (some 24) (.int .u32 ((bnum ([] ++ (((bitsTo v 32).drop ((n % 32).toNat)).take (32 - ((n % 32).toNat))) ++ (((bitsTo v 32).drop 0).take ((n % 32).toNat - 0))) : Nat) : Int)) (QPan.then put_panic_bodyPost) (by kernel_rfl) (by kernel_rfl) (show Ext w5 w5 from (Ext.refl _)) (yld_call (f := 53) (args := #[(.slice a5 (0 + (32 - ((n % 32).toNat)) + ((n % 32).toNat - 0)) c2)]) (fun _ => by kernel_rfl) ⟨_, (show Ext w5 w5 from (Ext.refl _))⟩ (fun w' hC => c_rNumber _ (hSw5.ext hC) (by simp; omega) (rot_bits v _ _))) ?_
    refine anyM_run hT257 10 2047 [(4, (.int .u32 ((bnum ([] ++ (((bitsTo v 32).drop ((n % 32).toNat)).take (32 - ((n % 32).toNat))) ++ (((bitsTo v 32).drop 0).take ((n % 32).toNat - 0))) : Nat) : Int)))] (QPan.then put_panic_bodyPost) (by kernel_rfl) (by kernel_rfl) (show Ext w5 w5 from (Ext.refl _)) (fun _ => by kernel_rfl) ?_
    refine anyM_done (by kernel_rfl) ?_
    refine then_code ?_
    refine wpC_ret ?_
    refine body_ret1 (by kernel_rfl) (show resVal Try.prog 25 _ _ (.tmp 4) (.int .u32 ((bnum ([] ++ (((bitsTo v 32).drop ((n % 32).toNat)).take (32 - ((n % 32).toNat))) ++ (((bitsTo v 32).drop 0).take ((n % 32).toNat - 0))) : Nat) : Int)) by (show _ = _; kernel_rfl)) ?_
    exact ⟨by simp [List.take_of_length_le], (Ext.ownS (Ext.ownS ((hEw1.trans hEw2).trans hEw3) hCw4 (fun k hs hk => by have hn := hO1.ne hs; omega)) hCw5 (fun k hs hk => by have hn := hOw4.ne hs; omega))⟩
  · replace hc : ¬ n.tmod 32 < 0 := of_d_f hc
    have hk : n.tmod 32 = (((n % 32).toNat : Nat) : Int) := by have := tmod32 n; omega
    rw [hk]
    refine wpF_end (by kernel_rfl) ?_
    refine then_code ?_
    refine wpC_false (by kernel_rfl) ?_
    refine wpC_skip ?_
    refine then_code ?_
    refine wpC_seq ?_
    refine wpC_region ?_
    refine wpF_run 1 [(13, (.int .u32 ((v : Nat) : Int)))] (by kernel_rfl) ?_
    refine wpF_step (op_callAt (d := (some 14)) (by kernel_rfl) (c_rBits v _) ?_)
    rintro _ w6 ⟨a6, ca6, rfl, hFz2_0, hEw6⟩
    have hzw6 := hEw6.size
    have hlea6 := hFz2_0.le
    refine wpF_run 1 [(6, (.slice a6 32 ca6))] (by kernel_rfl) ?_
    refine wpF_end (by kernel_rfl) ?_
    refine then_code ?_
    refine wpC_seq ?_
    refine wpC_drawM (Ext w6.drew) 11 [(16, 0, 0), (17, 64, 0), (18, 32, 0), (19, 196608, 6), (20, 294912, 9), (21, 64, 0), (22, 32, 0), (23, 3145728, 96), (24, 4718592, 144), (25, 8388608, 256), (5, 16777216, 1023)] (by kernel_rfl) ⟨by kernel_rfl, by kernel_rfl, by kernel_rfl⟩ (fun hT312 => ?_)
    have hEw7 : Ext w6 w6.drew := Ext.drew w6
    generalize w6.drew = w7 at hEw7 ⊢
    have hzw7 := hEw7.size
    refine anyM_run hT312 1 2 [(16, (.slice a6 32 ca6))] (QPan.then put_panic_bodyPost) (by kernel_rfl) (by kernel_rfl) (show Ext w7 w7 from (Ext.refl _)) (fun _ => by kernel_rfl) ?_
    refine anyM_run hT312 2 6 [(17, (.int .i64 (((n % 32).toNat : Nat) : Int)))] (QPan.then put_panic_bodyPost) (by kernel_rfl) (by kernel_rfl) (show Ext w7 w7 from (Ext.refl _)) (fun _ => by kernel_rfl) ?_
    obtain ⟨a7, hR3, hS3⟩ := (hFz2_0.ext hEw7).slice (P := Try.prog) (T := 85) (E := 3) (xl := (some (.int .i64 (((n % 32).toNat : Nat) : Int)))) (xh := none) (mx := none) (x := (n % 32).toNat) (r := 32) (m := ca6) (by kernel_rfl) (by kernel_rfl) (.inr ⟨_, rfl⟩) (.inl ⟨rfl, rfl⟩) (.inl ⟨rfl, rfl⟩) (by simp) (by omega) (by omega) (by omega) (by omega)
    refine anyM_take hT312 3 14 (some 18) (.slice a7 (32 - ((n % 32).toNat)) (ca6 - ((n % 32).toNat))) (QPan.then put_panic_bodyPost) (by kernel_rfl) (by kernel_rfl) (show Ext w7 w7 from (Ext.refl _)) (yld_val (s := Instr.sliceAt 85 (.slice a6 32 ca6) (some (.int .i64 (((n % 32).toNat : Nat) : Int))) none none) (by kernel_rfl) (fun w' hC => hR3 _)) ?_
    refine anyM_run hT312 5 46 [(20, (.slice a6 32 ca6))] (QPan.then put_panic_bodyPost) (by kernel_rfl) (by kernel_rfl) (show Ext w7 w7 from (Ext.refl _)) (fun _ => by kernel_rfl) ?_
    refine anyM_run hT312 6 110 [(21, (.int .i64 (((n % 32).toNat : Nat) : Int)))] (QPan.then put_panic_bodyPost) (by kernel_rfl) (by kernel_rfl) (show Ext w7 w7 from (Ext.refl _)) (fun _ => by kernel_rfl) ?_
    obtain ⟨a8, hR4, hS4⟩ := (hFz2_0.ext hEw7).slice (P := Try.prog) (T := 85) (E := 3) (xl := none) (xh := (some (.int .i64 (((n % 32).toNat : Nat) : Int)))) (mx := none) (x := 0) (r := (n % 32).toNat) (m := ca6) (by kernel_rfl) (by kernel_rfl) (.inl ⟨rfl, rfl⟩) (.inr ⟨_, rfl⟩) (.inl ⟨rfl, rfl⟩) (by simp) (by omega) (by omega) (by omega) (by omega)
    refine anyM_take hT312 7 238 (some 22) (.slice a8 ((n % 32).toNat - 0) (ca6 - 0)) (QPan.then put_panic_bodyPost) (by kernel_rfl) (by kernel_rfl) (show Ext w7 w7 from (Ext.refl _)) (yld_val (s := Instr.sliceAt 85 (.slice a6 32 ca6) none (some (.int .i64 (((n % 32).toNat : Nat) : Int))) none) (by kernel_rfl) (fun w' hC => hR4 _)) ?_
    refine anyM_one 0 239 (by kernel_rfl) (by kernel_rfl) (op_new (d := (some 15)) (s := Instr.buildSlice 85 0 #[]) (.slice (some ⟨w7.heap.size, 0, none⟩) 0 0) [] 3 (by kernel_rfl) (by kernel_rfl) ?_)
    intro w8 hBw8 hEw8
    have hzw8 := hEw8.size; have hlw8 := hBw8.lt
    have hSw8 : Es (nv .i64) w7.heap.size (w7.heap.size + 1) w8 (some ⟨w7.heap.size, 0, none⟩) 0 0 [] := Es.of_blk hBw8 rfl rfl (Nat.le_refl _) (by decide) (Nat.le_refl _) (Nat.lt_succ_self _)
    refine ⟨.inr hEw8, ?_⟩
    have hO2 : Own (nv .i64) w7.heap.size (w7.heap.size + 1) w8 (some ⟨w7.heap.size, 0, none⟩) 0 0 3 ([]) := Own.of_blk hBw8 (by simp) (by rfl) hSw8.len_eq (Nat.le_refl _) (by simp only [maxLen]; omega) (Nat.le_refl _) (Nat.lt_succ_self _)
    refine anyM_one 4 255 (by kernel_rfl) (by kernel_rfl) (op_append (d := (some 19)) 85 85 3 8 (.int .i64 ((0 : Nat) : Int)) (some ⟨w7.heap.size, 0, none⟩) 0 0 a7 (32 - ((n % 32).toNat)) (ca6 - ((n % 32).toNat)) (by kernel_rfl) (by kernel_rfl) (by kernel_rfl) (by kernel_rfl) (fun _ => rfl) hO2 (hS3.ext hEw8) (by simp only [maxLen]; omega) (by omega) (by omega) ?_)
    intro a9 c3 w9 hOw9 hCw9
    have hzw9 := hCw9.size
    have hSw9 := hOw9.es
    refine ⟨.inr (Ext.ownS hEw8 hCw9 (fun k hs hk => by have hn := hO2.ne hs; omega)), ?_⟩
    refine anyM_one 8 511 (by kernel_rfl) (by kernel_rfl) (op_append (d := (some 23)) 85 85 3 8 (.int .i64 ((0 : Nat) : Int)) a9 (0 + (32 - ((n % 32).toNat))) c3 a8 ((n % 32).toNat - 0) (ca6 - 0) (by kernel_rfl) (by kernel_rfl) (by kernel_rfl) (by kernel_rfl) (fun _ => rfl) hOw9 (((hS4.ext hEw8)).chg hCw9 (fun k h1 h2 hs => by have hn := hO2.ne hs; omega)) (by simp only [maxLen]; omega) (by omega) (by omega) ?_)
    intro a10 c4 w10 hOw10 hCw10
    have hzw10 := hCw10.size
    have hSw10 := hOw10.es
    refine ⟨.inr (Ext.ownS (Ext.ownS hEw8 hCw9 (fun k hs hk => by have hn := hO2.ne hs; omega)) hCw10 (fun k hs hk => by have hn := hOw9.ne hs; omega)), ?_⟩
    refine anyM_class (C := Ext w7) (C' := Ext w10) (fun w' h => ((Ext.ownS (Ext.ownS hEw8 hCw9 (fun k hs hk => by have hn := hO2.ne hs; omega)) hCw10 (fun k hs hk => by have hn := hOw9.ne hs; omega))).trans h) ?_
    refine anyM_take hT312 9 1023 (some 24) (.int .u32 ((bnum ([] ++ (((bitsTo v 32).drop ((n % 32).toNat)).take (32 - ((n % 32).toNat))) ++ (((bitsTo v 32).drop 0).take ((n % 32).toNat - 0))) : Nat) : Int)) (QPan.then put_panic_bodyPost) (by kernel_rfl) (by kernel_rfl) (show Ext w10 w10 from (Ext.refl _)) (yld_call (f := 53) (args := #[(.slice a10 (0 + (32 - ((n % 32).toNat)) + ((n % 32).toNat - 0)) c4)]) (fun _ => by kernel_rfl) ⟨_, (show Ext w10 w10 from (Ext.refl _))⟩ (fun w' hC => c_rNumber _ (hSw10.ext hC) (by simp; omega) (rot_bits v _ _))) ?_
    refine anyM_run hT312 10 2047 [(4, (.int .u32 ((bnum ([] ++ (((bitsTo v 32).drop ((n % 32).toNat)).take (32 - ((n % 32).toNat))) ++ (((bitsTo v 32).drop 0).take ((n % 32).toNat - 0))) : Nat) : Int)))] (QPan.then put_panic_bodyPost) (by kernel_rfl) (by kernel_rfl) (show Ext w10 w10 from (Ext.refl _)) (fun _ => by kernel_rfl) ?_
    refine anyM_done (by kernel_rfl) ?_
    refine then_code ?_
    refine wpC_ret ?_
    refine body_ret1 (by kernel_rfl) (show resVal Try.prog 25 _ _ (.tmp 4) (.int .u32 ((bnum ([] ++ (((bitsTo v 32).drop ((n % 32).toNat)).take (32 - ((n % 32).toNat))) ++ (((bitsTo v 32).drop 0).take ((n % 32).toNat - 0))) : Nat) : Int)) by (show _ = _; kernel_rfl)) ?_
    exact ⟨by simp [List.take_of_length_le], (Ext.ownS (Ext.ownS ((hEw6.trans hEw7).trans hEw8) hCw9 (fun k hs hk => by have hn := hO2.ne hs; omega)) hCw10 (fun k hs hk => by have hn := hOw9.ne hs; omega))⟩

end Go.Proofs.Ytigeaknjhnichaa
