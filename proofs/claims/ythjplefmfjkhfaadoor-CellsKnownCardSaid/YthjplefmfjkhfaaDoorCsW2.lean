/- CsW2: what each function does, by its own code. No condition beyond those of each statement. -/
import Derived.Test.YthjplefmfjkhfaaDoorCsW1
import Derived.Test.YthjplefmfjkhfaaDoorCsWords1
namespace Go.Proofs.YthjplefmfjkhfaaDoor
open Go Go.RowKit Go.Cs
set_option maxRecDepth 100000
set_option linter.all false
set_option linter.unusedVariables false

theorem c_Rl (v : Nat) (k : Int)  (w : World) (hp0 : v < 2 ^ 32) :
    Calls Tryd.prog 78 #[(vW v), (.int .i64 k)] w (Ret fun r w' => r = (vW (rotl v (k % 32).toNat)) ∧ w = w') := by
  refine calls_of (n := 17) (σ := [(0, (vW v)), (1, (.int .i64 k))]) Tryd.func78 rfl ?_
  refine wpC_seq (wpC_region (wpF_run 1 [(4, (vW 0))] (wpF_end (then_code (wpC_seq (wpC_region (wpF_run 1 [(6, (.int .i64 k))] (wpF_step (op_in (some 7) .u64 (IntKind.u64.wrap k) ((k % 18446744073709551616).toNat) (wrap_u64_int k) ?_)))))))))
  refine wpF_step (op_in (some 8) .u64 ((IntKind.u64.wrap ((BitVec.ofInt IntKind.u64.bits (((k % 18446744073709551616).toNat : Nat) : Int) &&& BitVec.ofInt IntKind.u64.bits ((31 : Nat) : Int)).toNat : Int))) ((k % 32).toNat) ((andU .u64 rfl (by show _ < 2 ^ 64; omega) (by show _ < 2 ^ 64; omega)).trans (by rw [and31])) ?_)
  refine wpF_run 1 [(5, (vQ ((k % 32).toNat)))] (wpF_end (then_code (wpC_seq (wpC_region (wpF_run 2 [(10, (vQ ((k % 32).toNat))), (9, (vW v))] (wpF_step (op_v (some 11) (do eqGuard .shl 68 (.tmp 9) (.tmp 10) (.int .u32 ((v : Nat) : Int)) (.int .u64 (((k % 32).toNat : Nat) : Int)); binOp .shl 68 (.int .u32 ((v : Nat) : Int)) (.int .u64 (((k % 32).toNat : Nat) : Int))) (vW (v * 2 ^ ((k % 32).toNat) % 2 ^ 32)) (run_shl rfl (by show _ ≤ 32; omega)) ?_)))))))
  refine wpF_run 2 [(13, (vQ ((k % 32).toNat))), (12, (vW v))] (wpF_step (op_in (some 14) .u64 (IntKind.u64.wrap (((32 : Nat) : Int) - (((k % 32).toNat : Nat) : Int))) (32 - (k % 32).toNat) (wrapUx rfl (by omega) (by show _ < 2 ^ 64; omega)) ?_))
  refine wpF_step (op_v (some 15) (do eqGuard .shr 68 (.tmp 12) (.tmp 14) (.int .u32 ((v : Nat) : Int)) (.int .u64 ((32 - (k % 32).toNat : Nat) : Int)); binOp .shr 68 (.int .u32 ((v : Nat) : Int)) (.int .u64 ((32 - (k % 32).toNat : Nat) : Int))) (vW (v / 2 ^ (32 - (k % 32).toNat))) (run_shr (by show _ ≤ 32; omega)) ?_)
  refine wpF_step (op_in (some 16) .u32 ((IntKind.u32.wrap ((BitVec.ofInt IntKind.u32.bits ((v * 2 ^ ((k % 32).toNat) % 2 ^ 32 : Nat) : Int) ||| BitVec.ofInt IntKind.u32.bits ((v / 2 ^ (32 - (k % 32).toNat) : Nat) : Int)).toNat : Int))) (rotl v (k % 32).toNat) (orU .u32 rfl (Nat.mod_lt _ (by decide)) (by show _ < 2 ^ 32; exact Nat.lt_of_le_of_lt (Nat.div_le_self _ _) hp0)) ?_)
  exact wpF_run 1 [(4, (vW (rotl v (k % 32).toNat)))] (wpF_end (then_code (wpC_ret (body_rets (vW (rotl v (k % 32).toNat)) (⟨rfl, rfl⟩)))))

theorem c_Rot (v : Nat) (n : Int)  (w : World) (hp0 : v < 2 ^ 32) :
    Calls Tryd.prog 76 #[(vW v), (.int .i64 n)] w (Ret fun r w' => r = (vW (rot v n)) ∧ w = w') := by
  refine calls_of (n := 9) (σ := [(0, (vW v)), (1, (.int .i64 n))]) Tryd.func76 rfl ?_
  refine wpC_seq (wpC_region (wpF_run 1 [(4, (vW 0))] (wpF_end (then_code (wpC_seq (wpC_region (wpF_run 2 [(6, (.int .i64 n)), (5, (vW v))] (wpF_step (op_iz (some 7) .i64 (n.tmod ((32 : Nat) : Int)) (n.tmod 32) (rfl) ?_)))))))))
  refine wpF_step (op_call (some 8) (c_Rl v (n.tmod 32) _ (by omega)) ?_)
  rintro _ _ ⟨rfl, rfl⟩
  refine wpF_run 1 [(4, (vW (rotl v ((n.tmod 32) % 32).toNat)))] (wpF_end (then_code (wpC_ret (body_rets (vW (rotl v ((n.tmod 32) % 32).toNat)) ?_))))
  have h32 := (tmod32 n).2.2
  rw [h32]
  exact ⟨rfl, rfl⟩

end Go.Proofs.YthjplefmfjkhfaaDoor
