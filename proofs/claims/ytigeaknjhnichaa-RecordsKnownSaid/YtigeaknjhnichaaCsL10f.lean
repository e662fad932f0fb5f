/- CsL10f: what each function does, by its own code. No condition beyond those of each statement. -/
import Derived.Test.YtigeaknjhnichaaCsL10b
namespace Go.Proofs.Ytigeaknjhnichaa
open Go Go.RowKit Go.Cs
set_option maxRecDepth 100000
set_option linter.all false
set_option linter.unusedVariables false

theorem c_RGc {lo_l hi_l : Nat} {a_l : Option Addr} {n_l c_l : Nat} {l : List UInt8}  (w : World) (h_l : Bs lo_l hi_l w a_l n_l c_l l) (hp0 : 45 < n_l) (hp1 : n_l < 48) :
    Calls Try.prog 13 #[(.slice a_l n_l c_l)] w (Ret fun r w' => r = (.bool true) ∧ Ext w w') := by
  refine calls_of (n := 146) (σ := [(0, (.slice a_l n_l c_l))]) Try.func13 rfl (by kernel_rfl) ?_
  replace h_l := h_l.now; have hle_l := h_l.le
  have hlen0 := h_l.len_eq
  refine wpC_seq ?_
  refine wpC_region ?_
  refine wpF_run 1 [(2, (.bool false))] (by kernel_rfl) ?_
  refine wpF_end (by kernel_rfl) ?_
  refine then_code ?_
  refine wpC_seq ?_
  refine wpC_seq ?_
  refine wpC_region ?_
  refine wpF_run 2 [(13, (.int .i64 ((n_l : Nat) : Int))), (12, (.slice a_l n_l c_l))] (by kernel_rfl) ?_
  refine wpF_step (op_eqv (d := (some 14)) (.bool (decide (((n_l : Nat) : Int) > ((60 : Nat) : Int)))) (.bool false) (by kernel_rfl) (congrArg Value.bool (cmpDF (by omega))) ?_)
  refine wpF_end (by kernel_rfl) ?_
  refine then_code ?_
  refine wpC_false (by kernel_rfl) ?_
  refine wpC_skip ?_
  refine then_code ?_
  refine wpC_seq ?_
  refine wpC_region ?_
  refine wpF_run 1 [(17, (.slice a_l n_l c_l))] (by kernel_rfl) ?_
  refine wpF_step (op_callAt (d := (some 18)) (by kernel_rfl) (c_GetRecordLong _ h_l (by omega)) ?_)
  rintro _ w1 ⟨rfl, hEw1⟩
  have hzw1 := hEw1.size
  refine wpF_run 3 [(20, (.int .i64 ((5 : Nat) : Int))), (19, (.agg (recC Rec.zero).toArray)), (16, (.tuple #[(.agg (recC Rec.zero).toArray), (.int .i64 ((5 : Nat) : Int))]))] (by kernel_rfl) ?_
  refine wpF_step (op_new (d := (some 3)) (s := Instr.alloc 52 true (.tuple #[])) (.pointer (some ⟨w1.heap.size, 0, none⟩)) (recC Rec.zero) 52 (by kernel_rfl) (by kernel_rfl) ?_)
  intro w2 hBw2 hEw2
  have hzw2 := hEw2.size; have hlw2 := hBw2.lt
  refine wpF_step (op_store (d := none) 52 w1.heap.size 0 52 (.agg (recC Rec.zero).toArray) (recC Rec.zero) (recC Rec.zero) (by kernel_rfl) hBw2 rfl (by rw [recC_len]; kernel_rfl) (by simp) (recC_one _) ?_)
  intro w3 hBw3 hCw3
  have hzw3 := hCw3.size
  rw [setFrom_all _ _ (by simp)] at hBw3
  refine wpF_run 1 [(4, (.int .i64 ((5 : Nat) : Int)))] (by kernel_rfl) ?_
  refine wpF_end (by kernel_rfl) ?_
  refine then_code ?_
  refine wpC_seq ?_
  refine wpC_region ?_
  refine wpF_run 1 [(22, (.slice a_l n_l c_l))] (by kernel_rfl) ?_
  refine wpF_step (op_callAt (d := (some 23)) (by kernel_rfl) (c_GetEntryLong _ (((((h_l.ext hEw1)).ext hEw2)).chg hCw3 (fun k h1 h2 hs => by have h : k = _ := hs; omega)) (by omega)) ?_)
  rintro _ w4 ⟨rfl, hEw4⟩
  have hzw4 := hEw4.size
  refine wpF_run 3 [(25, (.int .i64 ((5 : Nat) : Int))), (24, (.agg (entC Ent.zero).toArray)), (21, (.tuple #[(.agg (entC Ent.zero).toArray), (.int .i64 ((5 : Nat) : Int))]))] (by kernel_rfl) ?_
  refine wpF_step (op_new (d := (some 5)) (s := Instr.alloc 61 true (.tuple #[])) (.pointer (some ⟨w4.heap.size, 0, none⟩)) (entC Ent.zero) 61 (by kernel_rfl) (by kernel_rfl) ?_)
  intro w5 hBw5 hEw5
  have hzw5 := hEw5.size; have hlw5 := hBw5.lt
  refine wpF_step (op_store (d := none) 61 w4.heap.size 0 61 (.agg (entC Ent.zero).toArray) (entC Ent.zero) (entC Ent.zero) (by kernel_rfl) hBw5 rfl (by rw [entC_len]; kernel_rfl) (by simp) (entC_one _) ?_)
  intro w6 hBw6 hCw6
  have hzw6 := hCw6.size
  rw [setFrom_all _ _ (by simp)] at hBw6
  refine wpF_run 1 [(6, (.int .i64 ((5 : Nat) : Int)))] (by kernel_rfl) ?_
  refine wpF_end (by kernel_rfl) ?_
  refine then_code ?_
  refine wpC_seq ?_
  refine wpC_region ?_
  refine wpF_run 1 [(27, (.slice a_l n_l c_l))] (by kernel_rfl) ?_
  refine wpF_step (op_callAt (d := (some 28)) (by kernel_rfl) (c_GetCellShort _ (((((((((((h_l.ext hEw1)).ext hEw2)).chg hCw3 (fun k h1 h2 hs => by have h : k = _ := hs; omega))).ext hEw4)).ext hEw5)).chg hCw6 (fun k h1 h2 hs => by have h : k = _ := hs; omega)) (by omega)) ?_)
  rintro _ w7 ⟨rfl, hEw7⟩
  have hzw7 := hEw7.size
  refine wpF_run 3 [(30, (.int .i64 ((6 : Nat) : Int))), (29, (.agg (celC Cel.zero).toArray)), (26, (.tuple #[(.agg (celC Cel.zero).toArray), (.int .i64 ((6 : Nat) : Int))]))] (by kernel_rfl) ?_
  refine wpF_step (op_new (d := (some 7)) (s := Instr.alloc 75 true (.tuple #[])) (.pointer (some ⟨w7.heap.size, 0, none⟩)) (celC Cel.zero) 75 (by kernel_rfl) (by kernel_rfl) ?_)
  intro w8 hBw8 hEw8
  have hzw8 := hEw8.size; have hlw8 := hBw8.lt
  refine wpF_step (op_store (d := none) 75 w7.heap.size 0 75 (.agg (celC Cel.zero).toArray) (celC Cel.zero) (celC Cel.zero) (by kernel_rfl) hBw8 rfl (by rw [celC_len]; kernel_rfl) (by simp) (celC_one _) ?_)
  intro w9 hBw9 hCw9
  have hzw9 := hCw9.size
  rw [setFrom_all _ _ (by simp)] at hBw9
  refine wpF_run 1 [(8, (.int .i64 ((6 : Nat) : Int)))] (by kernel_rfl) ?_
  refine wpF_end (by kernel_rfl) ?_
  refine then_code ?_
  refine wpC_seq ?_
  refine wpC_seq ?_
  refine wpC_drawM (Ext w9.drew) 34 [(32, 16, 0), (33, 2147483648, 1), (34, 4294967296, 2), (35, 8589934600, 4), (36, 25769803776, 12), (37, 42949672960, 20), (38, 8589934593, 4), (39, 146028888064, 68), (40, 352187318272, 164), (41, 558345748480, 260), (42, 1099511627776, 528), (43, 2199023255616, 1024), (44, 6597069766656, 3072), (45, 10995116277760, 5120), (46, 17592186044448, 8192), (47, 52776558133248, 24576), (48, 87960930222080, 40960), (49, 17592186044417, 8192), (50, 299067162755072, 139264), (51, 721279627821056, 335872), (52, 1145691116142592, 533504), (53, 2253998836940800, 1049600), (54, 4503599627370496, 2129920), (55, 9007199254741248, 4194304), (56, 27021597764222976, 12582912), (57, 45035996273704960, 20971520), (58, 72057594037928064, 33554432), (59, 216172782113783808, 100663296), (60, 360287970189639680, 167772160), (61, 72057594037927937, 33554432), (62, 1224979098644774912, 570425344), (63, 2954361355555045376, 1375731712), (64, 4692750811720056832, 2185232384), (65, 9232379236109516800, 4299161600)] (by kernel_rfl) ⟨by kernel_rfl, by kernel_rfl, by kernel_rfl⟩ (fun hT73 => ?_)
  have hEw10 : Ext w9 w9.drew := Ext.drew w9
  generalize w9.drew = w10 at hEw10 ⊢
  have hzw10 := hEw10.size
  refine anyM_run hT73 0 1 [(31, (.int .i64 ((5 : Nat) : Int)))] (QPan.then (QPan.then put_panic_bodyPost)) (by kernel_rfl) (by kernel_rfl) (show Ext w10 w10 from (Ext.refl _)) (fun _ => by kernel_rfl) ?_
  refine anyM_run hT73 1 3 [(32, (.bool false))] (QPan.then (QPan.then put_panic_bodyPost)) (by kernel_rfl) (by kernel_rfl) (show Ext w10 w10 from (Ext.refl _)) (fun _ => by kernel_rfl) ?_
  refine anyM_run hT73 2 7 [(33, (.bool false))] (QPan.then (QPan.then put_panic_bodyPost)) (by kernel_rfl) (by kernel_rfl) (show Ext w10 w10 from (Ext.refl _)) (fun _ => by kernel_rfl) ?_
  refine anyM_run hT73 3 15 [(34, undef)] (QPan.then (QPan.then put_panic_bodyPost)) (by kernel_rfl) (by kernel_rfl) (show Ext w10 w10 from (Ext.refl _)) (fun _ => by kernel_rfl) ?_
  refine anyM_run hT73 4 31 [(35, undef)] (QPan.then (QPan.then put_panic_bodyPost)) (by kernel_rfl) (by kernel_rfl) (show Ext w10 w10 from (Ext.refl _)) (fun _ => by kernel_rfl) ?_
  refine anyM_run hT73 5 63 [(36, undef)] (QPan.then (QPan.then put_panic_bodyPost)) (by kernel_rfl) (by kernel_rfl) (show Ext w10 w10 from (Ext.refl _)) (fun _ => by kernel_rfl) ?_
  refine anyM_run hT73 6 127 [(37, undef)] (QPan.then (QPan.then put_panic_bodyPost)) (by kernel_rfl) (by kernel_rfl) (show Ext w10 w10 from (Ext.refl _)) (fun _ => by kernel_rfl) ?_
  refine anyM_run hT73 7 255 [(38, undef)] (QPan.then (QPan.then put_panic_bodyPost)) (by kernel_rfl) (by kernel_rfl) (show Ext w10 w10 from (Ext.refl _)) (fun _ => by kernel_rfl) ?_
  refine anyM_run hT73 8 511 [(39, undef)] (QPan.then (QPan.then put_panic_bodyPost)) (by kernel_rfl) (by kernel_rfl) (show Ext w10 w10 from (Ext.refl _)) (fun _ => by kernel_rfl) ?_
  refine anyM_run hT73 9 1023 [(40, (.bool false))] (QPan.then (QPan.then put_panic_bodyPost)) (by kernel_rfl) (by kernel_rfl) (show Ext w10 w10 from (Ext.refl _)) (fun _ => by kernel_rfl) ?_
  refine anyM_run hT73 10 2047 [(41, (.bool false))] (QPan.then (QPan.then put_panic_bodyPost)) (by kernel_rfl) (by kernel_rfl) (show Ext w10 w10 from (Ext.refl _)) (fun _ => by kernel_rfl) ?_
  refine anyM_run hT73 11 4095 [(42, (.int .i64 ((5 : Nat) : Int)))] (QPan.then (QPan.then put_panic_bodyPost)) (by kernel_rfl) (by kernel_rfl) (show Ext w10 w10 from (Ext.refl _)) (fun _ => by kernel_rfl) ?_
  refine anyM_run hT73 12 8191 [(43, (.bool false))] (QPan.then (QPan.then put_panic_bodyPost)) (by kernel_rfl) (by kernel_rfl) (show Ext w10 w10 from (Ext.refl _)) (fun _ => by kernel_rfl) ?_
  refine anyM_run hT73 13 16383 [(44, (.bool false))] (QPan.then (QPan.then put_panic_bodyPost)) (by kernel_rfl) (by kernel_rfl) (show Ext w10 w10 from (Ext.refl _)) (fun _ => by kernel_rfl) ?_
  refine anyM_run hT73 14 32767 [(45, undef)] (QPan.then (QPan.then put_panic_bodyPost)) (by kernel_rfl) (by kernel_rfl) (show Ext w10 w10 from (Ext.refl _)) (fun _ => by kernel_rfl) ?_
  refine anyM_run hT73 15 65535 [(46, undef)] (QPan.then (QPan.then put_panic_bodyPost)) (by kernel_rfl) (by kernel_rfl) (show Ext w10 w10 from (Ext.refl _)) (fun _ => by kernel_rfl) ?_
  refine anyM_run hT73 16 131071 [(47, undef)] (QPan.then (QPan.then put_panic_bodyPost)) (by kernel_rfl) (by kernel_rfl) (show Ext w10 w10 from (Ext.refl _)) (fun _ => by kernel_rfl) ?_
  refine anyM_run hT73 17 262143 [(48, undef)] (QPan.then (QPan.then put_panic_bodyPost)) (by kernel_rfl) (by kernel_rfl) (show Ext w10 w10 from (Ext.refl _)) (fun _ => by kernel_rfl) ?_
  refine anyM_run hT73 18 524287 [(49, undef)] (QPan.then (QPan.then put_panic_bodyPost)) (by kernel_rfl) (by kernel_rfl) (show Ext w10 w10 from (Ext.refl _)) (fun _ => by kernel_rfl) ?_
  refine anyM_run hT73 19 1048575 [(50, undef)] (QPan.then (QPan.then put_panic_bodyPost)) (by kernel_rfl) (by kernel_rfl) (show Ext w10 w10 from (Ext.refl _)) (fun _ => by kernel_rfl) ?_
  refine anyM_run hT73 20 2097151 [(51, (.bool false))] (QPan.then (QPan.then put_panic_bodyPost)) (by kernel_rfl) (by kernel_rfl) (show Ext w10 w10 from (Ext.refl _)) (fun _ => by kernel_rfl) ?_
  refine anyM_run hT73 21 4194303 [(52, (.bool false))] (QPan.then (QPan.then put_panic_bodyPost)) (by kernel_rfl) (by kernel_rfl) (show Ext w10 w10 from (Ext.refl _)) (fun _ => by kernel_rfl) ?_
  refine anyM_run hT73 22 8388607 [(53, (.bool false))] (QPan.then (QPan.then put_panic_bodyPost)) (by kernel_rfl) (by kernel_rfl) (show Ext w10 w10 from (Ext.refl _)) (fun _ => by kernel_rfl) ?_
  refine anyM_run hT73 23 16777215 [(54, (.int .i64 ((6 : Nat) : Int)))] (QPan.then (QPan.then put_panic_bodyPost)) (by kernel_rfl) (by kernel_rfl) (show Ext w10 w10 from (Ext.refl _)) (fun _ => by kernel_rfl) ?_
  refine anyM_run hT73 24 33554431 [(55, (.bool false))] (QPan.then (QPan.then put_panic_bodyPost)) (by kernel_rfl) (by kernel_rfl) (show Ext w10 w10 from (Ext.refl _)) (fun _ => by kernel_rfl) ?_
  refine anyM_run hT73 25 67108863 [(56, (.bool false))] (QPan.then (QPan.then put_panic_bodyPost)) (by kernel_rfl) (by kernel_rfl) (show Ext w10 w10 from (Ext.refl _)) (fun _ => by kernel_rfl) ?_
  refine anyM_run hT73 26 134217727 [(57, undef)] (QPan.then (QPan.then put_panic_bodyPost)) (by kernel_rfl) (by kernel_rfl) (show Ext w10 w10 from (Ext.refl _)) (fun _ => by kernel_rfl) ?_
  refine anyM_run hT73 27 268435455 [(58, undef)] (QPan.then (QPan.then put_panic_bodyPost)) (by kernel_rfl) (by kernel_rfl) (show Ext w10 w10 from (Ext.refl _)) (fun _ => by kernel_rfl) ?_
  refine anyM_run hT73 28 536870911 [(59, undef)] (QPan.then (QPan.then put_panic_bodyPost)) (by kernel_rfl) (by kernel_rfl) (show Ext w10 w10 from (Ext.refl _)) (fun _ => by kernel_rfl) ?_
  refine anyM_run hT73 29 1073741823 [(60, undef)] (QPan.then (QPan.then put_panic_bodyPost)) (by kernel_rfl) (by kernel_rfl) (show Ext w10 w10 from (Ext.refl _)) (fun _ => by kernel_rfl) ?_
  refine anyM_run hT73 30 2147483647 [(61, undef)] (QPan.then (QPan.then put_panic_bodyPost)) (by kernel_rfl) (by kernel_rfl) (show Ext w10 w10 from (Ext.refl _)) (fun _ => by kernel_rfl) ?_
  refine anyM_run hT73 31 4294967295 [(62, undef)] (QPan.then (QPan.then put_panic_bodyPost)) (by kernel_rfl) (by kernel_rfl) (show Ext w10 w10 from (Ext.refl _)) (fun _ => by kernel_rfl) ?_
  refine anyM_run hT73 32 8589934591 [(63, (.bool false))] (QPan.then (QPan.then put_panic_bodyPost)) (by kernel_rfl) (by kernel_rfl) (show Ext w10 w10 from (Ext.refl _)) (fun _ => by kernel_rfl) ?_
  refine anyM_run hT73 33 17179869183 [(64, (.bool false))] (QPan.then (QPan.then put_panic_bodyPost)) (by kernel_rfl) (by kernel_rfl) (show Ext w10 w10 from (Ext.refl _)) (fun _ => by kernel_rfl) ?_
  refine anyM_done (by kernel_rfl) ?_
  refine then_code ?_
  refine wpC_false (by kernel_rfl) ?_
  refine wpC_skip ?_
  refine then_code ?_
  refine wpC_seq ?_
  refine wpC_seq ?_
  refine wpC_region ?_
  refine wpF_run 3 [(67, (.bool true)), (66, (.bool true)), (65, (.int .i64 ((5 : Nat) : Int)))] (by kernel_rfl) ?_
  refine wpF_step (op_v (d := (some 68)) (s := Instr.loadAt 52 (.pointer (some ⟨w1.heap.size, 0, none⟩))) (v := (.agg (recC Rec.zero).toArray)) (by kernel_rfl) (rn_lda (vs := recC Rec.zero) (by kernel_rfl) (by rw [recC_len]; kernel_rfl) ((((((((((((((hBw3.ext hEw4)).ext hEw5)).chg hCw6 (fun hs => by have h : _ = _ := hs; omega))).ext hEw7)).ext hEw8)).chg hCw9 (fun hs => by have h : _ = _ := hs; omega))).ext hEw10).all)) ?_)
  refine wpF_run 1 [(69, (.agg (recC Rec.zero).toArray))] (by kernel_rfl) ?_
  refine wpF_step (op_v (d := (some 70)) (s := (do eqGuard .neq 52 (.tmp 68) (.tmp 69) (.agg (recC Rec.zero).toArray) (.agg (recC Rec.zero).toArray); binOp .neq 52 (.agg (recC Rec.zero).toArray) (.agg (recC Rec.zero).toArray) : Sem Value)) (v := (.bool false)) (by kernel_rfl) (run_neqAgg (r := true) (T := 52) (by kernel_rfl) ((run_eq_rec (dd := 9997) (t := 52) (t8 := 5) (tn := 48) (td := 50) (e := 5) (t32 := 28) (t64 := 22) Rec.zero Rec.zero (by kernel_rfl) (by kernel_rfl) (by kernel_rfl) (by kernel_rfl) (by kernel_rfl) (by kernel_rfl) (by kernel_rfl) (by kernel_rfl) (by kernel_rfl) (by kernel_rfl) (by kernel_rfl) (by kernel_rfl)).trans (congrArg (fun b => Result.ok b _) (show (Rec.zero.eqb Rec.zero) = true from by decide)))) ?_)
  refine wpF_run 5 [(75, (.bool true)), (74, (.bool true)), (73, (.int .i64 ((5 : Nat) : Int))), (72, (.bool false)), (71, (.bool false))] (by kernel_rfl) ?_
  refine wpF_step (op_v (d := (some 76)) (s := Instr.loadAt 61 (.pointer (some ⟨w4.heap.size, 0, none⟩))) (v := (.agg (entC Ent.zero).toArray)) (by kernel_rfl) (rn_lda (vs := entC Ent.zero) (by kernel_rfl) (by rw [entC_len]; kernel_rfl) ((((((((hBw6.ext hEw7)).ext hEw8)).chg hCw9 (fun hs => by have h : _ = _ := hs; omega))).ext hEw10).all)) ?_)
  refine wpF_run 1 [(77, (.agg (entC Ent.zero).toArray))] (by kernel_rfl) ?_
  refine wpF_step (op_v (d := (some 78)) (s := (do eqGuard .neq 61 (.tmp 76) (.tmp 77) (.agg (entC Ent.zero).toArray) (.agg (entC Ent.zero).toArray); binOp .neq 61 (.agg (entC Ent.zero).toArray) (.agg (entC Ent.zero).toArray) : Sem Value)) (v := (.bool false)) (by kernel_rfl) (run_neqAgg (r := true) (T := 61) (by kernel_rfl) ((run_eq_ent (dd := 9997) (t := 61) (t8 := 5) (td := 50) (e := 5) Ent.zero Ent.zero (by kernel_rfl) (by kernel_rfl) (by kernel_rfl) (by kernel_rfl) (by kernel_rfl) (by kernel_rfl) (by kernel_rfl)).trans (congrArg (fun b => Result.ok b _) (show (Ent.zero.eqb Ent.zero) = true from by decide)))) ?_)
  refine wpF_run 6 [(84, (.bool true)), (83, (.bool true)), (82, (.int .i64 ((6 : Nat) : Int))), (81, (.bool false)), (80, (.bool false)), (79, (.bool false))] (by kernel_rfl) ?_
  refine wpF_step (op_v (d := (some 85)) (s := Instr.loadAt 75 (.pointer (some ⟨w7.heap.size, 0, none⟩))) (v := (.agg (celC Cel.zero).toArray)) (by kernel_rfl) (rn_lda (vs := celC Cel.zero) (by kernel_rfl) (by rw [celC_len]; kernel_rfl) ((hBw9.ext hEw10).all)) ?_)
  refine wpF_run 1 [(86, (.agg (celC Cel.zero).toArray))] (by kernel_rfl) ?_
  refine wpF_step (op_v (d := (some 87)) (s := (do eqGuard .neq 75 (.tmp 85) (.tmp 86) (.agg (celC Cel.zero).toArray) (.agg (celC Cel.zero).toArray); binOp .neq 75 (.agg (celC Cel.zero).toArray) (.agg (celC Cel.zero).toArray) : Sem Value)) (v := (.bool false)) (by kernel_rfl) (run_neqAgg (r := true) (T := 75) (by kernel_rfl) ((run_eq_cel (dd := 9997) (t := 75) (td := 50) (e := 5) (t64 := 22) Cel.zero Cel.zero (by kernel_rfl) (by kernel_rfl) (by kernel_rfl) (by kernel_rfl) (by kernel_rfl) (by kernel_rfl) (by kernel_rfl)).trans (congrArg (fun b => Result.ok b _) (show (Cel.zero.eqb Cel.zero) = true from by decide)))) ?_)
  refine wpF_run 6 [(93, (.int .i64 ((n_l : Nat) : Int))), (92, (.slice a_l n_l c_l)), (91, (.int .i64 ((6 : Nat) : Int))), (90, (.bool false)), (89, (.bool false)), (88, (.bool false))] (by kernel_rfl) ?_
  refine wpF_step (op_callAt (d := (some 94)) (by kernel_rfl) (c_length n_l 48 _) ?_)
  rintro _ _ ⟨rfl, rfl⟩
  rw [show lenE n_l 48 = 6 from lenE_lt (by omega)]
  refine wpF_run 2 [(96, (.bool false)), (95, (.bool false))] (by kernel_rfl) ?_
  refine wpF_end (by kernel_rfl) ?_
  refine then_code ?_
  refine wpC_false (by kernel_rfl) ?_
  refine wpC_skip ?_
  refine then_code ?_
  refine wpC_seq ?_
  refine wpC_region ?_
  refine wpF_run 1 [(9, (.int .i64 ((0 : Nat) : Int)))] (by kernel_rfl) ?_
  refine wpF_end (by kernel_rfl) ?_
  refine then_code ?_
  refine wpC_seq ?_
  refine wpC_seq ?_
  refine wpC_region ?_
  refine wpF_run 1 [(10, (.int .i64 ((1 : Nat) : Int)))] (by kernel_rfl) ?_
  refine wpF_end (by kernel_rfl) ?_
  refine then_code ?_
  refine wpC_block ?_
  refine wpC_loop (X := Nat) (fun t => [(9, (.int .i64 ((sumB l t : Nat) : Int))), (10, (.int .i64 ((t + 1 : Nat) : Int)))]) [97, 98, 99, 100, 101, 102, 103, 104, 105, 106, 107, 108, 109] (fun t w11 => w10 = w11 ∧ t ≤ n_l - 1) (fun t => n_l - t) 0 (by kernel_rfl) ⟨rfl, by omega⟩ ?_
  rintro t dw11 w11 ⟨rfl, ht⟩
  have hlen := h_l.len_eq
  have hsb := sumB_le l t
  refine wpC_seq ?_
  refine wpC_seq ?_
  refine wpC_region ?_
  refine wpF_run 3 [(99, (.int .i64 ((n_l : Nat) : Int))), (98, (.slice a_l n_l c_l)), (97, (.int .i64 ((t + 1 : Nat) : Int)))] (by kernel_rfl) ?_
  refine wpF_step (op_split (d := (some 100)) (decide (((t + 1 : Nat) : Int) < ((n_l : Nat) : Int))) (by kernel_rfl) (fun hc100 => ?_) (fun hc100 => ?_))
  · replace hc100 : t + 1 < n_l := by have := of_d_t hc100; omega
    have hst := sumB_step (l := l) (t := t) (by omega)
    have hsb2 := sumB_le l (t + 1)
    refine wpF_end (by kernel_rfl) ?_
    refine then_code ?_
    refine wpC_true (by kernel_rfl) ?_
    refine wpC_skip ?_
    refine then_code ?_
    refine wpC_seq ?_
    refine wpC_block ?_
    refine wpC_region ?_
    refine wpF_run 3 [(105, (.int .i64 ((t + 1 : Nat) : Int))), (104, (.slice a_l n_l c_l)), (103, (.int .i64 ((sumB l t : Nat) : Int)))] (by kernel_rfl) ?_
    obtain ⟨b1, o1, rfl⟩ := h_l.addr (by omega)
    refine wpF_step (op_v (d := (some 106)) (s := Instr.indexAt 23 (.slice (some ⟨b1, o1, none⟩) n_l c_l) (.int .i64 ((t + 1 : Nat) : Int))) (v := (.pointer (some ⟨b1, o1 + (t + 1) * 1, none⟩))) (by kernel_rfl) (rn_ixs (E := 5) (sz := 1) (by kernel_rfl) (by kernel_rfl) (by omega)) ?_)
    refine wpF_step (op_v (d := (some 107)) (s := Instr.loadAt 5 (.pointer (some ⟨b1, o1 + (t + 1) * 1, none⟩))) (v := (.int .u8 ((byt l (t + 1) : Nat) : Int))) (by kernel_rfl) (rn_ld (by kernel_rfl) ((((((((((((((((((((h_l.ext hEw1)).ext hEw2)).chg hCw3 (fun k h1 h2 hs => by have h : k = _ := hs; omega))).ext hEw4)).ext hEw5)).chg hCw6 (fun k h1 h2 hs => by have h : k = _ := hs; omega))).ext hEw7)).ext hEw8)).chg hCw9 (fun k h1 h2 hs => by have h : k = _ := hs; omega))).ext hEw10).cell1 (by omega))) ?_)
    refine wpF_step (op_eqv (d := (some 108)) (.int .i64 (IntKind.i64.wrap ((byt l (t + 1) : Nat) : Int))) (.int .i64 ((byt l (t + 1) : Nat) : Int)) (by kernel_rfl) (congrArg (Value.int .i64) (wrapS rfl (by omega) (by omega))) ?_)
    refine wpF_step (op_eqv (d := (some 109)) (.int .i64 (IntKind.i64.wrap (((sumB l t : Nat) : Int) + ((byt l (t + 1) : Nat) : Int)))) (.int .i64 ((sumB l (t + 1) : Nat) : Int)) (by kernel_rfl) (congrArg (Value.int .i64) (wrapS (by omega) (by omega) (by omega))) ?_)
    refine wpF_run 1 [(9, (.int .i64 ((sumB l (t + 1) : Nat) : Int)))] (by kernel_rfl) ?_
    refine wpF_end (by kernel_rfl) ?_
    refine inBlock_normal ?_
    refine then_code ?_
    refine wpC_region ?_
    refine wpF_run 1 [(101, (.int .i64 ((t + 1 : Nat) : Int)))] (by kernel_rfl) ?_
    refine wpF_step (op_eqv (d := (some 102)) (.int .i64 (IntKind.i64.wrap (((t + 1 : Nat) : Int) + ((1 : Nat) : Int)))) (.int .i64 ((t + 1 + 1 : Nat) : Int)) (by kernel_rfl) (congrArg (Value.int .i64) (wrapS (by omega) (by omega) (by omega))) ?_)
    refine wpF_run 1 [(10, (.int .i64 ((t + 1 + 1 : Nat) : Int)))] (by kernel_rfl) ?_
    refine wpF_end (by kernel_rfl) ?_
    refine then_normal ?_
    refine endR_mk (t + 1) (by kernel_rfl) ?_ ?_
    · exact ⟨rfl, by omega⟩
    · first | omega | (dsimp only; omega)
  · replace hc100 : ¬ (t + 1 < n_l) := by have := of_d_f hc100; omega
    have htn : t = n_l - 1 := by omega
    refine wpF_end (by kernel_rfl) ?_
    refine then_code ?_
    refine wpC_false (by kernel_rfl) ?_
    refine wpC_exit ?_
    refine then_exit ?_
    refine then_exit ?_
    refine inBlock_exit ?_
    refine then_code ?_
    refine wpC_seq ?_
    refine wpC_region ?_
    refine wpF_run 2 [(111, (.int .i64 ((n_l : Nat) : Int))), (110, (.slice a_l n_l c_l))] (by kernel_rfl) ?_
    refine wpF_step (op_eqv (d := (some 112)) (.bool (decide (((n_l : Nat) : Int) > ((0 : Nat) : Int)))) (.bool true) (by kernel_rfl) (congrArg Value.bool (cmpDT (by omega))) ?_)
    refine wpF_run 2 [(114, (.slice a_l n_l c_l)), (113, (.bool true))] (by kernel_rfl) ?_
    obtain ⟨b2, o2, rfl⟩ := h_l.addr (by omega)
    refine wpF_step (op_v (d := (some 115)) (s := Instr.indexAt 23 (.slice (some ⟨b2, o2, none⟩) n_l c_l) (.int .i64 ((0 : Nat) : Int))) (v := (.pointer (some ⟨b2, o2 + 0 * 1, none⟩))) (by kernel_rfl) (rn_ixs (E := 5) (sz := 1) (by kernel_rfl) (by kernel_rfl) (by omega)) ?_)
    refine wpF_step (op_v (d := (some 116)) (s := Instr.loadAt 5 (.pointer (some ⟨b2, o2 + 0 * 1, none⟩))) (v := (.int .u8 ((byt l 0 : Nat) : Int))) (by kernel_rfl) (rn_ld (by kernel_rfl) ((((((((((((((((((((h_l.ext hEw1)).ext hEw2)).chg hCw3 (fun k h1 h2 hs => by have h : k = _ := hs; omega))).ext hEw4)).ext hEw5)).chg hCw6 (fun k h1 h2 hs => by have h : k = _ := hs; omega))).ext hEw7)).ext hEw8)).chg hCw9 (fun k h1 h2 hs => by have h : k = _ := hs; omega))).ext hEw10).cell1 (by omega))) ?_)
    refine wpF_step (op_split (d := (some 117)) (decide (((byt l 0 : Nat) : Int) > ((2 : Nat) : Int))) (by kernel_rfl) (fun hc117 => ?_) (fun hc117 => ?_))
    · replace hc117 : byt l 0 > 2 := by have := of_d_t hc117; omega
      refine wpF_run 12 [(11, (.bool true)), (128, (.bool true)), (127, (.bool true)), (126, undef), (125, undef), (124, undef), (123, undef), (122, undef), (121, undef), (120, undef), (119, undef), (118, (.bool true))] (by kernel_rfl) ?_
      refine wpF_end (by kernel_rfl) ?_
      refine then_code ?_
      refine wpC_seq ?_
      refine wpC_region ?_
      refine wpF_run 3 [(131, (.int .i64 ((n_l : Nat) : Int))), (130, (.slice (some ⟨b2, o2, none⟩) n_l c_l)), (129, (.int .i64 ((5 : Nat) : Int)))] (by kernel_rfl) ?_
      refine wpF_step (op_callAt (d := (some 132)) (by kernel_rfl) (c_length n_l 45 _) ?_)
      rintro _ _ ⟨rfl, rfl⟩
      rw [show lenE n_l 45 = 5 from lenE_gt (by omega)]
      refine wpF_run 1 [(133, (.bool true))] (by kernel_rfl) ?_
      refine wpF_step (op_callAt (d := (some 134)) (by kernel_rfl) (c_wantedLen 5 5 true _ (by decide) (rfl)) ?_)
      rintro _ _ ⟨rfl, rfl⟩
      refine wpF_run 4 [(138, (.int .i64 ((n_l : Nat) : Int))), (137, (.slice (some ⟨b2, o2, none⟩) n_l c_l)), (136, (.int .i64 ((5 : Nat) : Int))), (135, (.bool true))] (by kernel_rfl) ?_
      refine wpF_step (op_callAt (d := (some 139)) (by kernel_rfl) (c_length n_l 33 _) ?_)
      rintro _ _ ⟨rfl, rfl⟩
      rw [show lenE n_l 33 = 5 from lenE_gt (by omega)]
      refine wpF_run 1 [(140, (.bool true))] (by kernel_rfl) ?_
      refine wpF_step (op_callAt (d := (some 141)) (by kernel_rfl) (c_wantedLen 5 5 true _ (by decide) (rfl)) ?_)
      rintro _ _ ⟨rfl, rfl⟩
      refine wpF_run 2 [(143, (.bool true)), (142, (.bool true))] (by kernel_rfl) ?_
      refine wpF_step (op_callAt (d := (some 144)) (by kernel_rfl) (c_lives10 _) ?_)
      rintro _ w12 ⟨rfl, hEw12⟩
      have hzw12 := hEw12.size
      refine wpF_run 2 [(2, (.bool true)), (145, (.bool true))] (by kernel_rfl) ?_
      refine wpF_end (by kernel_rfl) ?_
      refine then_code ?_
      refine wpC_ret ?_
      refine body_ret1 (by kernel_rfl) (show resVal Try.prog 146 _ _ (.tmp 2) (.bool true) by (show _ = _; kernel_rfl)) ?_
      exact ⟨rfl, (((Ext.own (((Ext.own (((Ext.own (hEw1.trans hEw2) hCw3 (by omega)).trans hEw4).trans hEw5) hCw6 (by omega)).trans hEw7).trans hEw8) hCw9 (by omega)).trans hEw10).trans hEw12)⟩
    · replace hc117 : ¬ (byt l 0 > 2) := by have := of_d_f hc117; omega
      refine wpF_run 2 [(119, (.slice (some ⟨b2, o2, none⟩) n_l c_l)), (118, (.bool false))] (by kernel_rfl) ?_
      refine wpF_step (op_v (d := (some 120)) (s := Instr.indexAt 23 (.slice (some ⟨b2, o2, none⟩) n_l c_l) (.int .i64 ((0 : Nat) : Int))) (v := (.pointer (some ⟨b2, o2 + 0 * 1, none⟩))) (by kernel_rfl) (rn_ixs (E := 5) (sz := 1) (by kernel_rfl) (by kernel_rfl) (by omega)) ?_)
      refine wpF_step (op_v (d := (some 121)) (s := Instr.loadAt 5 (.pointer (some ⟨b2, o2 + 0 * 1, none⟩))) (v := (.int .u8 ((byt l 0 : Nat) : Int))) (by kernel_rfl) (rn_ld (by kernel_rfl) ((((((((((((((((((((h_l.ext hEw1)).ext hEw2)).chg hCw3 (fun k h1 h2 hs => by have h : k = _ := hs; omega))).ext hEw4)).ext hEw5)).chg hCw6 (fun k h1 h2 hs => by have h : k = _ := hs; omega))).ext hEw7)).ext hEw8)).chg hCw9 (fun k h1 h2 hs => by have h : k = _ := hs; omega))).ext hEw10).cell1 (by omega))) ?_)
      refine wpF_step (op_split (d := (some 122)) ((((byt l 0 : Nat) : Int) == ((0 : Nat) : Int))) (by kernel_rfl) (fun hc122 => ?_) (fun hc122 => ?_))
      · replace hc122 : byt l 0 = 0 := by have := of_eq_t hc122; omega
        refine wpF_run 2 [(124, (.int .i64 ((sumB l t : Nat) : Int))), (123, (.bool true))] (by kernel_rfl) ?_
        refine wpF_step (op_split (d := (some 125)) (decide (((sumB l t : Nat) : Int) > ((0 : Nat) : Int))) (by kernel_rfl) (fun hc125 => ?_) (fun hc125 => ?_))
        · replace hc125 : sumB l t > 0 := by have := of_d_t hc125; omega
          refine wpF_run 4 [(11, (.bool true)), (128, (.bool true)), (127, (.bool true)), (126, (.bool true))] (by kernel_rfl) ?_
          refine wpF_end (by kernel_rfl) ?_
          refine then_code ?_
          refine wpC_seq ?_
          refine wpC_region ?_
          refine wpF_run 3 [(131, (.int .i64 ((n_l : Nat) : Int))), (130, (.slice (some ⟨b2, o2, none⟩) n_l c_l)), (129, (.int .i64 ((5 : Nat) : Int)))] (by kernel_rfl) ?_
          refine wpF_step (op_callAt (d := (some 132)) (by kernel_rfl) (c_length n_l 45 _) ?_)
          rintro _ _ ⟨rfl, rfl⟩
          rw [show lenE n_l 45 = 5 from lenE_gt (by omega)]
          refine wpF_run 1 [(133, (.bool true))] (by kernel_rfl) ?_
          refine wpF_step (op_callAt (d := (some 134)) (by kernel_rfl) (c_wantedLen 5 5 true _ (by decide) (rfl)) ?_)
          rintro _ _ ⟨rfl, rfl⟩
          refine wpF_run 4 [(138, (.int .i64 ((n_l : Nat) : Int))), (137, (.slice (some ⟨b2, o2, none⟩) n_l c_l)), (136, (.int .i64 ((5 : Nat) : Int))), (135, (.bool true))] (by kernel_rfl) ?_
          refine wpF_step (op_callAt (d := (some 139)) (by kernel_rfl) (c_length n_l 33 _) ?_)
          rintro _ _ ⟨rfl, rfl⟩
          rw [show lenE n_l 33 = 5 from lenE_gt (by omega)]
          refine wpF_run 1 [(140, (.bool true))] (by kernel_rfl) ?_
          refine wpF_step (op_callAt (d := (some 141)) (by kernel_rfl) (c_wantedLen 5 5 true _ (by decide) (rfl)) ?_)
          rintro _ _ ⟨rfl, rfl⟩
          refine wpF_run 2 [(143, (.bool true)), (142, (.bool true))] (by kernel_rfl) ?_
          refine wpF_step (op_callAt (d := (some 144)) (by kernel_rfl) (c_lives10 _) ?_)
          rintro _ w13 ⟨rfl, hEw13⟩
          have hzw13 := hEw13.size
          refine wpF_run 2 [(2, (.bool true)), (145, (.bool true))] (by kernel_rfl) ?_
          refine wpF_end (by kernel_rfl) ?_
          refine then_code ?_
          refine wpC_ret ?_
          refine body_ret1 (by kernel_rfl) (show resVal Try.prog 146 _ _ (.tmp 2) (.bool true) by (show _ = _; kernel_rfl)) ?_
          exact ⟨rfl, (((Ext.own (((Ext.own (((Ext.own (hEw1.trans hEw2) hCw3 (by omega)).trans hEw4).trans hEw5) hCw6 (by omega)).trans hEw7).trans hEw8) hCw9 (by omega)).trans hEw10).trans hEw13)⟩
        · replace hc125 : ¬ (sumB l t > 0) := by have := of_d_f hc125; omega
          refine wpF_run 4 [(11, (.bool false)), (128, (.bool false)), (127, (.bool false)), (126, (.bool false))] (by kernel_rfl) ?_
          refine wpF_end (by kernel_rfl) ?_
          refine then_code ?_
          refine wpC_seq ?_
          refine wpC_region ?_
          refine wpF_run 3 [(131, (.int .i64 ((n_l : Nat) : Int))), (130, (.slice (some ⟨b2, o2, none⟩) n_l c_l)), (129, (.int .i64 ((5 : Nat) : Int)))] (by kernel_rfl) ?_
          refine wpF_step (op_callAt (d := (some 132)) (by kernel_rfl) (c_length n_l 45 _) ?_)
          rintro _ _ ⟨rfl, rfl⟩
          rw [show lenE n_l 45 = 5 from lenE_gt (by omega)]
          refine wpF_run 1 [(133, (.bool false))] (by kernel_rfl) ?_
          refine wpF_step (op_callAt (d := (some 134)) (by kernel_rfl) (c_wantedLen 5 5 false _ (by decide) (rfl)) ?_)
          rintro _ _ ⟨rfl, rfl⟩
          refine wpF_run 4 [(138, (.int .i64 ((n_l : Nat) : Int))), (137, (.slice (some ⟨b2, o2, none⟩) n_l c_l)), (136, (.int .i64 ((5 : Nat) : Int))), (135, (.bool true))] (by kernel_rfl) ?_
          refine wpF_step (op_callAt (d := (some 139)) (by kernel_rfl) (c_length n_l 33 _) ?_)
          rintro _ _ ⟨rfl, rfl⟩
          rw [show lenE n_l 33 = 5 from lenE_gt (by omega)]
          refine wpF_run 1 [(140, (.bool false))] (by kernel_rfl) ?_
          refine wpF_step (op_callAt (d := (some 141)) (by kernel_rfl) (c_wantedLen 5 5 false _ (by decide) (rfl)) ?_)
          rintro _ _ ⟨rfl, rfl⟩
          refine wpF_run 2 [(143, (.bool true)), (142, (.bool true))] (by kernel_rfl) ?_
          refine wpF_step (op_callAt (d := (some 144)) (by kernel_rfl) (c_lives10 _) ?_)
          rintro _ w14 ⟨rfl, hEw14⟩
          have hzw14 := hEw14.size
          refine wpF_run 2 [(2, (.bool true)), (145, (.bool true))] (by kernel_rfl) ?_
          refine wpF_end (by kernel_rfl) ?_
          refine then_code ?_
          refine wpC_ret ?_
          refine body_ret1 (by kernel_rfl) (show resVal Try.prog 146 _ _ (.tmp 2) (.bool true) by (show _ = _; kernel_rfl)) ?_
          exact ⟨rfl, (((Ext.own (((Ext.own (((Ext.own (hEw1.trans hEw2) hCw3 (by omega)).trans hEw4).trans hEw5) hCw6 (by omega)).trans hEw7).trans hEw8) hCw9 (by omega)).trans hEw10).trans hEw14)⟩
      · replace hc122 : ¬ (byt l 0 = 0) := by have := of_eq_f hc122; omega
        refine wpF_run 7 [(11, (.bool false)), (128, (.bool false)), (127, (.bool false)), (126, (.bool false)), (125, undef), (124, undef), (123, (.bool false))] (by kernel_rfl) ?_
        refine wpF_end (by kernel_rfl) ?_
        refine then_code ?_
        refine wpC_seq ?_
        refine wpC_region ?_
        refine wpF_run 3 [(131, (.int .i64 ((n_l : Nat) : Int))), (130, (.slice (some ⟨b2, o2, none⟩) n_l c_l)), (129, (.int .i64 ((5 : Nat) : Int)))] (by kernel_rfl) ?_
        refine wpF_step (op_callAt (d := (some 132)) (by kernel_rfl) (c_length n_l 45 _) ?_)
        rintro _ _ ⟨rfl, rfl⟩
        rw [show lenE n_l 45 = 5 from lenE_gt (by omega)]
        refine wpF_run 1 [(133, (.bool false))] (by kernel_rfl) ?_
        refine wpF_step (op_callAt (d := (some 134)) (by kernel_rfl) (c_wantedLen 5 5 false _ (by decide) (rfl)) ?_)
        rintro _ _ ⟨rfl, rfl⟩
        refine wpF_run 4 [(138, (.int .i64 ((n_l : Nat) : Int))), (137, (.slice (some ⟨b2, o2, none⟩) n_l c_l)), (136, (.int .i64 ((5 : Nat) : Int))), (135, (.bool true))] (by kernel_rfl) ?_
        refine wpF_step (op_callAt (d := (some 139)) (by kernel_rfl) (c_length n_l 33 _) ?_)
        rintro _ _ ⟨rfl, rfl⟩
        rw [show lenE n_l 33 = 5 from lenE_gt (by omega)]
        refine wpF_run 1 [(140, (.bool false))] (by kernel_rfl) ?_
        refine wpF_step (op_callAt (d := (some 141)) (by kernel_rfl) (c_wantedLen 5 5 false _ (by decide) (rfl)) ?_)
        rintro _ _ ⟨rfl, rfl⟩
        refine wpF_run 2 [(143, (.bool true)), (142, (.bool true))] (by kernel_rfl) ?_
        refine wpF_step (op_callAt (d := (some 144)) (by kernel_rfl) (c_lives10 _) ?_)
        rintro _ w15 ⟨rfl, hEw15⟩
        have hzw15 := hEw15.size
        refine wpF_run 2 [(2, (.bool true)), (145, (.bool true))] (by kernel_rfl) ?_
        refine wpF_end (by kernel_rfl) ?_
        refine then_code ?_
        refine wpC_ret ?_
        refine body_ret1 (by kernel_rfl) (show resVal Try.prog 146 _ _ (.tmp 2) (.bool true) by (show _ = _; kernel_rfl)) ?_
        exact ⟨rfl, (((Ext.own (((Ext.own (((Ext.own (hEw1.trans hEw2) hCw3 (by omega)).trans hEw4).trans hEw5) hCw6 (by omega)).trans hEw7).trans hEw8) hCw9 (by omega)).trans hEw10).trans hEw15)⟩

theorem c_RGd {lo_l hi_l : Nat} {a_l : Option Addr} {n_l c_l : Nat} {l : List UInt8}  (w : World) (h_l : Bs lo_l hi_l w a_l n_l c_l l) (hp0 : 48 < n_l) (hp1 : n_l ≤ 60) :
    Calls Try.prog 13 #[(.slice a_l n_l c_l)] w (Ret fun r w' => r = (.bool true) ∧ Ext w w') := by
  refine calls_of (n := 146) (σ := [(0, (.slice a_l n_l c_l))]) Try.func13 rfl (by kernel_rfl) ?_
  replace h_l := h_l.now; have hle_l := h_l.le
  have hlen0 := h_l.len_eq
  refine wpC_seq ?_
  refine wpC_region ?_
  refine wpF_run 1 [(2, (.bool false))] (by kernel_rfl) ?_
  refine wpF_end (by kernel_rfl) ?_
  refine then_code ?_
  refine wpC_seq ?_
  refine wpC_seq ?_
  refine wpC_region ?_
  refine wpF_run 2 [(13, (.int .i64 ((n_l : Nat) : Int))), (12, (.slice a_l n_l c_l))] (by kernel_rfl) ?_
  refine wpF_step (op_eqv (d := (some 14)) (.bool (decide (((n_l : Nat) : Int) > ((60 : Nat) : Int)))) (.bool false) (by kernel_rfl) (congrArg Value.bool (cmpDF (by omega))) ?_)
  refine wpF_end (by kernel_rfl) ?_
  refine then_code ?_
  refine wpC_false (by kernel_rfl) ?_
  refine wpC_skip ?_
  refine then_code ?_
  refine wpC_seq ?_
  refine wpC_region ?_
  refine wpF_run 1 [(17, (.slice a_l n_l c_l))] (by kernel_rfl) ?_
  refine wpF_step (op_callAt (d := (some 18)) (by kernel_rfl) (c_GetRecordLong _ h_l (by omega)) ?_)
  rintro _ w1 ⟨rfl, hEw1⟩
  have hzw1 := hEw1.size
  refine wpF_run 3 [(20, (.int .i64 ((5 : Nat) : Int))), (19, (.agg (recC Rec.zero).toArray)), (16, (.tuple #[(.agg (recC Rec.zero).toArray), (.int .i64 ((5 : Nat) : Int))]))] (by kernel_rfl) ?_
  refine wpF_step (op_new (d := (some 3)) (s := Instr.alloc 52 true (.tuple #[])) (.pointer (some ⟨w1.heap.size, 0, none⟩)) (recC Rec.zero) 52 (by kernel_rfl) (by kernel_rfl) ?_)
  intro w2 hBw2 hEw2
  have hzw2 := hEw2.size; have hlw2 := hBw2.lt
  refine wpF_step (op_store (d := none) 52 w1.heap.size 0 52 (.agg (recC Rec.zero).toArray) (recC Rec.zero) (recC Rec.zero) (by kernel_rfl) hBw2 rfl (by rw [recC_len]; kernel_rfl) (by simp) (recC_one _) ?_)
  intro w3 hBw3 hCw3
  have hzw3 := hCw3.size
  rw [setFrom_all _ _ (by simp)] at hBw3
  refine wpF_run 1 [(4, (.int .i64 ((5 : Nat) : Int)))] (by kernel_rfl) ?_
  refine wpF_end (by kernel_rfl) ?_
  refine then_code ?_
  refine wpC_seq ?_
  refine wpC_region ?_
  refine wpF_run 1 [(22, (.slice a_l n_l c_l))] (by kernel_rfl) ?_
  refine wpF_step (op_callAt (d := (some 23)) (by kernel_rfl) (c_GetEntryLong _ (((((h_l.ext hEw1)).ext hEw2)).chg hCw3 (fun k h1 h2 hs => by have h : k = _ := hs; omega)) (by omega)) ?_)
  rintro _ w4 ⟨rfl, hEw4⟩
  have hzw4 := hEw4.size
  refine wpF_run 3 [(25, (.int .i64 ((5 : Nat) : Int))), (24, (.agg (entC Ent.zero).toArray)), (21, (.tuple #[(.agg (entC Ent.zero).toArray), (.int .i64 ((5 : Nat) : Int))]))] (by kernel_rfl) ?_
  refine wpF_step (op_new (d := (some 5)) (s := Instr.alloc 61 true (.tuple #[])) (.pointer (some ⟨w4.heap.size, 0, none⟩)) (entC Ent.zero) 61 (by kernel_rfl) (by kernel_rfl) ?_)
  intro w5 hBw5 hEw5
  have hzw5 := hEw5.size; have hlw5 := hBw5.lt
  refine wpF_step (op_store (d := none) 61 w4.heap.size 0 61 (.agg (entC Ent.zero).toArray) (entC Ent.zero) (entC Ent.zero) (by kernel_rfl) hBw5 rfl (by rw [entC_len]; kernel_rfl) (by simp) (entC_one _) ?_)
  intro w6 hBw6 hCw6
  have hzw6 := hCw6.size
  rw [setFrom_all _ _ (by simp)] at hBw6
  refine wpF_run 1 [(6, (.int .i64 ((5 : Nat) : Int)))] (by kernel_rfl) ?_
  refine wpF_end (by kernel_rfl) ?_
  refine then_code ?_
  refine wpC_seq ?_
  refine wpC_region ?_
  refine wpF_run 1 [(27, (.slice a_l n_l c_l))] (by kernel_rfl) ?_
  refine wpF_step (op_callAt (d := (some 28)) (by kernel_rfl) (c_GetCellLong _ (((((((((((h_l.ext hEw1)).ext hEw2)).chg hCw3 (fun k h1 h2 hs => by have h : k = _ := hs; omega))).ext hEw4)).ext hEw5)).chg hCw6 (fun k h1 h2 hs => by have h : k = _ := hs; omega)) (by omega)) ?_)
  rintro _ w7 ⟨rfl, hEw7⟩
  have hzw7 := hEw7.size
  refine wpF_run 3 [(30, (.int .i64 ((5 : Nat) : Int))), (29, (.agg (celC Cel.zero).toArray)), (26, (.tuple #[(.agg (celC Cel.zero).toArray), (.int .i64 ((5 : Nat) : Int))]))] (by kernel_rfl) ?_
  refine wpF_step (op_new (d := (some 7)) (s := Instr.alloc 75 true (.tuple #[])) (.pointer (some ⟨w7.heap.size, 0, none⟩)) (celC Cel.zero) 75 (by kernel_rfl) (by kernel_rfl) ?_)
  intro w8 hBw8 hEw8
  have hzw8 := hEw8.size; have hlw8 := hBw8.lt
  refine wpF_step (op_store (d := none) 75 w7.heap.size 0 75 (.agg (celC Cel.zero).toArray) (celC Cel.zero) (celC Cel.zero) (by kernel_rfl) hBw8 rfl (by rw [celC_len]; kernel_rfl) (by simp) (celC_one _) ?_)
  intro w9 hBw9 hCw9
  have hzw9 := hCw9.size
  rw [setFrom_all _ _ (by simp)] at hBw9
  refine wpF_run 1 [(8, (.int .i64 ((5 : Nat) : Int)))] (by kernel_rfl) ?_
  refine wpF_end (by kernel_rfl) ?_
  refine then_code ?_
  refine wpC_seq ?_
  refine wpC_seq ?_
  refine wpC_drawM (Ext w9.drew) 34 [(32, 16, 0), (33, 2147483648, 1), (34, 4294967296, 2), (35, 8589934600, 4), (36, 25769803776, 12), (37, 42949672960, 20), (38, 8589934593, 4), (39, 146028888064, 68), (40, 352187318272, 164), (41, 558345748480, 260), (42, 1099511627776, 528), (43, 2199023255616, 1024), (44, 6597069766656, 3072), (45, 10995116277760, 5120), (46, 17592186044448, 8192), (47, 52776558133248, 24576), (48, 87960930222080, 40960), (49, 17592186044417, 8192), (50, 299067162755072, 139264), (51, 721279627821056, 335872), (52, 1145691116142592, 533504), (53, 2253998836940800, 1049600), (54, 4503599627370496, 2129920), (55, 9007199254741248, 4194304), (56, 27021597764222976, 12582912), (57, 45035996273704960, 20971520), (58, 72057594037928064, 33554432), (59, 216172782113783808, 100663296), (60, 360287970189639680, 167772160), (61, 72057594037927937, 33554432), (62, 1224979098644774912, 570425344), (63, 2954361355555045376, 1375731712), (64, 4692750811720056832, 2185232384), (65, 9232379236109516800, 4299161600)] (by kernel_rfl) ⟨by kernel_rfl, by kernel_rfl, by kernel_rfl⟩ (fun hT413 => ?_)
  have hEw10 : Ext w9 w9.drew := Ext.drew w9
  generalize w9.drew = w10 at hEw10 ⊢
  have hzw10 := hEw10.size
  refine anyM_run hT413 0 1 [(31, (.int .i64 ((5 : Nat) : Int)))] (QPan.then (QPan.then put_panic_bodyPost)) (by kernel_rfl) (by kernel_rfl) (show Ext w10 w10 from (Ext.refl _)) (fun _ => by kernel_rfl) ?_
  refine anyM_run hT413 1 3 [(32, (.bool false))] (QPan.then (QPan.then put_panic_bodyPost)) (by kernel_rfl) (by kernel_rfl) (show Ext w10 w10 from (Ext.refl _)) (fun _ => by kernel_rfl) ?_
  refine anyM_run hT413 2 7 [(33, (.bool false))] (QPan.then (QPan.then put_panic_bodyPost)) (by kernel_rfl) (by kernel_rfl) (show Ext w10 w10 from (Ext.refl _)) (fun _ => by kernel_rfl) ?_
  refine anyM_run hT413 3 15 [(34, undef)] (QPan.then (QPan.then put_panic_bodyPost)) (by kernel_rfl) (by kernel_rfl) (show Ext w10 w10 from (Ext.refl _)) (fun _ => by kernel_rfl) ?_
  refine anyM_run hT413 4 31 [(35, undef)] (QPan.then (QPan.then put_panic_bodyPost)) (by kernel_rfl) (by kernel_rfl) (show Ext w10 w10 from (Ext.refl _)) (fun _ => by kernel_rfl) ?_
  refine anyM_run hT413 5 63 [(36, undef)] (QPan.then (QPan.then put_panic_bodyPost)) (by kernel_rfl) (by kernel_rfl) (show Ext w10 w10 from (Ext.refl _)) (fun _ => by kernel_rfl) ?_
  refine anyM_run hT413 6 127 [(37, undef)] (QPan.then (QPan.then put_panic_bodyPost)) (by kernel_rfl) (by kernel_rfl) (show Ext w10 w10 from (Ext.refl _)) (fun _ => by kernel_rfl) ?_
  refine anyM_run hT413 7 255 [(38, undef)] (QPan.then (QPan.then put_panic_bodyPost)) (by kernel_rfl) (by kernel_rfl) (show Ext w10 w10 from (Ext.refl _)) (fun _ => by kernel_rfl) ?_
  refine anyM_run hT413 8 511 [(39, undef)] (QPan.then (QPan.then put_panic_bodyPost)) (by kernel_rfl) (by kernel_rfl) (show Ext w10 w10 from (Ext.refl _)) (fun _ => by kernel_rfl) ?_
  refine anyM_run hT413 9 1023 [(40, (.bool false))] (QPan.then (QPan.then put_panic_bodyPost)) (by kernel_rfl) (by kernel_rfl) (show Ext w10 w10 from (Ext.refl _)) (fun _ => by kernel_rfl) ?_
  refine anyM_run hT413 10 2047 [(41, (.bool false))] (QPan.then (QPan.then put_panic_bodyPost)) (by kernel_rfl) (by kernel_rfl) (show Ext w10 w10 from (Ext.refl _)) (fun _ => by kernel_rfl) ?_
  refine anyM_run hT413 11 4095 [(42, (.int .i64 ((5 : Nat) : Int)))] (QPan.then (QPan.then put_panic_bodyPost)) (by kernel_rfl) (by kernel_rfl) (show Ext w10 w10 from (Ext.refl _)) (fun _ => by kernel_rfl) ?_
  refine anyM_run hT413 12 8191 [(43, (.bool false))] (QPan.then (QPan.then put_panic_bodyPost)) (by kernel_rfl) (by kernel_rfl) (show Ext w10 w10 from (Ext.refl _)) (fun _ => by kernel_rfl) ?_
  refine anyM_run hT413 13 16383 [(44, (.bool false))] (QPan.then (QPan.then put_panic_bodyPost)) (by kernel_rfl) (by kernel_rfl) (show Ext w10 w10 from (Ext.refl _)) (fun _ => by kernel_rfl) ?_
  refine anyM_run hT413 14 32767 [(45, undef)] (QPan.then (QPan.then put_panic_bodyPost)) (by kernel_rfl) (by kernel_rfl) (show Ext w10 w10 from (Ext.refl _)) (fun _ => by kernel_rfl) ?_
  refine anyM_run hT413 15 65535 [(46, undef)] (QPan.then (QPan.then put_panic_bodyPost)) (by kernel_rfl) (by kernel_rfl) (show Ext w10 w10 from (Ext.refl _)) (fun _ => by kernel_rfl) ?_
  refine anyM_run hT413 16 131071 [(47, undef)] (QPan.then (QPan.then put_panic_bodyPost)) (by kernel_rfl) (by kernel_rfl) (show Ext w10 w10 from (Ext.refl _)) (fun _ => by kernel_rfl) ?_
  refine anyM_run hT413 17 262143 [(48, undef)] (QPan.then (QPan.then put_panic_bodyPost)) (by kernel_rfl) (by kernel_rfl) (show Ext w10 w10 from (Ext.refl _)) (fun _ => by kernel_rfl) ?_
  refine anyM_run hT413 18 524287 [(49, undef)] (QPan.then (QPan.then put_panic_bodyPost)) (by kernel_rfl) (by kernel_rfl) (show Ext w10 w10 from (Ext.refl _)) (fun _ => by kernel_rfl) ?_
  refine anyM_run hT413 19 1048575 [(50, undef)] (QPan.then (QPan.then put_panic_bodyPost)) (by kernel_rfl) (by kernel_rfl) (show Ext w10 w10 from (Ext.refl _)) (fun _ => by kernel_rfl) ?_
  refine anyM_run hT413 20 2097151 [(51, (.bool false))] (QPan.then (QPan.then put_panic_bodyPost)) (by kernel_rfl) (by kernel_rfl) (show Ext w10 w10 from (Ext.refl _)) (fun _ => by kernel_rfl) ?_
  refine anyM_run hT413 21 4194303 [(52, (.bool false))] (QPan.then (QPan.then put_panic_bodyPost)) (by kernel_rfl) (by kernel_rfl) (show Ext w10 w10 from (Ext.refl _)) (fun _ => by kernel_rfl) ?_
  refine anyM_run hT413 22 8388607 [(53, (.bool false))] (QPan.then (QPan.then put_panic_bodyPost)) (by kernel_rfl) (by kernel_rfl) (show Ext w10 w10 from (Ext.refl _)) (fun _ => by kernel_rfl) ?_
  refine anyM_run hT413 23 16777215 [(54, (.int .i64 ((5 : Nat) : Int)))] (QPan.then (QPan.then put_panic_bodyPost)) (by kernel_rfl) (by kernel_rfl) (show Ext w10 w10 from (Ext.refl _)) (fun _ => by kernel_rfl) ?_
  refine anyM_run hT413 24 33554431 [(55, (.bool false))] (QPan.then (QPan.then put_panic_bodyPost)) (by kernel_rfl) (by kernel_rfl) (show Ext w10 w10 from (Ext.refl _)) (fun _ => by kernel_rfl) ?_
  refine anyM_run hT413 25 67108863 [(56, (.bool false))] (QPan.then (QPan.then put_panic_bodyPost)) (by kernel_rfl) (by kernel_rfl) (show Ext w10 w10 from (Ext.refl _)) (fun _ => by kernel_rfl) ?_
  refine anyM_run hT413 26 134217727 [(57, undef)] (QPan.then (QPan.then put_panic_bodyPost)) (by kernel_rfl) (by kernel_rfl) (show Ext w10 w10 from (Ext.refl _)) (fun _ => by kernel_rfl) ?_
  refine anyM_run hT413 27 268435455 [(58, undef)] (QPan.then (QPan.then put_panic_bodyPost)) (by kernel_rfl) (by kernel_rfl) (show Ext w10 w10 from (Ext.refl _)) (fun _ => by kernel_rfl) ?_
  refine anyM_run hT413 28 536870911 [(59, undef)] (QPan.then (QPan.then put_panic_bodyPost)) (by kernel_rfl) (by kernel_rfl) (show Ext w10 w10 from (Ext.refl _)) (fun _ => by kernel_rfl) ?_
  refine anyM_run hT413 29 1073741823 [(60, undef)] (QPan.then (QPan.then put_panic_bodyPost)) (by kernel_rfl) (by kernel_rfl) (show Ext w10 w10 from (Ext.refl _)) (fun _ => by kernel_rfl) ?_
  refine anyM_run hT413 30 2147483647 [(61, undef)] (QPan.then (QPan.then put_panic_bodyPost)) (by kernel_rfl) (by kernel_rfl) (show Ext w10 w10 from (Ext.refl _)) (fun _ => by kernel_rfl) ?_
  refine anyM_run hT413 31 4294967295 [(62, undef)] (QPan.then (QPan.then put_panic_bodyPost)) (by kernel_rfl) (by kernel_rfl) (show Ext w10 w10 from (Ext.refl _)) (fun _ => by kernel_rfl) ?_
  refine anyM_run hT413 32 8589934591 [(63, (.bool false))] (QPan.then (QPan.then put_panic_bodyPost)) (by kernel_rfl) (by kernel_rfl) (show Ext w10 w10 from (Ext.refl _)) (fun _ => by kernel_rfl) ?_
  refine anyM_run hT413 33 17179869183 [(64, (.bool false))] (QPan.then (QPan.then put_panic_bodyPost)) (by kernel_rfl) (by kernel_rfl) (show Ext w10 w10 from (Ext.refl _)) (fun _ => by kernel_rfl) ?_
  refine anyM_done (by kernel_rfl) ?_
  refine then_code ?_
  refine wpC_false (by kernel_rfl) ?_
  refine wpC_skip ?_
  refine then_code ?_
  refine wpC_seq ?_
  refine wpC_seq ?_
  refine wpC_region ?_
  refine wpF_run 3 [(67, (.bool true)), (66, (.bool true)), (65, (.int .i64 ((5 : Nat) : Int)))] (by kernel_rfl) ?_
  refine wpF_step (op_v (d := (some 68)) (s := Instr.loadAt 52 (.pointer (some ⟨w1.heap.size, 0, none⟩))) (v := (.agg (recC Rec.zero).toArray)) (by kernel_rfl) (rn_lda (vs := recC Rec.zero) (by kernel_rfl) (by rw [recC_len]; kernel_rfl) ((((((((((((((hBw3.ext hEw4)).ext hEw5)).chg hCw6 (fun hs => by have h : _ = _ := hs; omega))).ext hEw7)).ext hEw8)).chg hCw9 (fun hs => by have h : _ = _ := hs; omega))).ext hEw10).all)) ?_)
  refine wpF_run 1 [(69, (.agg (recC Rec.zero).toArray))] (by kernel_rfl) ?_
  refine wpF_step (op_v (d := (some 70)) (s := (do eqGuard .neq 52 (.tmp 68) (.tmp 69) (.agg (recC Rec.zero).toArray) (.agg (recC Rec.zero).toArray); binOp .neq 52 (.agg (recC Rec.zero).toArray) (.agg (recC Rec.zero).toArray) : Sem Value)) (v := (.bool false)) (by kernel_rfl) (run_neqAgg (r := true) (T := 52) (by kernel_rfl) ((run_eq_rec (dd := 9997) (t := 52) (t8 := 5) (tn := 48) (td := 50) (e := 5) (t32 := 28) (t64 := 22) Rec.zero Rec.zero (by kernel_rfl) (by kernel_rfl) (by kernel_rfl) (by kernel_rfl) (by kernel_rfl) (by kernel_rfl) (by kernel_rfl) (by kernel_rfl) (by kernel_rfl) (by kernel_rfl) (by kernel_rfl) (by kernel_rfl)).trans (congrArg (fun b => Result.ok b _) (show (Rec.zero.eqb Rec.zero) = true from by decide)))) ?_)
  refine wpF_run 5 [(75, (.bool true)), (74, (.bool true)), (73, (.int .i64 ((5 : Nat) : Int))), (72, (.bool false)), (71, (.bool false))] (by kernel_rfl) ?_
  refine wpF_step (op_v (d := (some 76)) (s := Instr.loadAt 61 (.pointer (some ⟨w4.heap.size, 0, none⟩))) (v := (.agg (entC Ent.zero).toArray)) (by kernel_rfl) (rn_lda (vs := entC Ent.zero) (by kernel_rfl) (by rw [entC_len]; kernel_rfl) ((((((((hBw6.ext hEw7)).ext hEw8)).chg hCw9 (fun hs => by have h : _ = _ := hs; omega))).ext hEw10).all)) ?_)
  refine wpF_run 1 [(77, (.agg (entC Ent.zero).toArray))] (by kernel_rfl) ?_
  refine wpF_step (op_v (d := (some 78)) (s := (do eqGuard .neq 61 (.tmp 76) (.tmp 77) (.agg (entC Ent.zero).toArray) (.agg (entC Ent.zero).toArray); binOp .neq 61 (.agg (entC Ent.zero).toArray) (.agg (entC Ent.zero).toArray) : Sem Value)) (v := (.bool false)) (by kernel_rfl) (run_neqAgg (r := true) (T := 61) (by kernel_rfl) ((run_eq_ent (dd := 9997) (t := 61) (t8 := 5) (td := 50) (e := 5) Ent.zero Ent.zero (by kernel_rfl) (by kernel_rfl) (by kernel_rfl) (by kernel_rfl) (by kernel_rfl) (by kernel_rfl) (by kernel_rfl)).trans (congrArg (fun b => Result.ok b _) (show (Ent.zero.eqb Ent.zero) = true from by decide)))) ?_)
  refine wpF_run 6 [(84, (.bool true)), (83, (.bool true)), (82, (.int .i64 ((5 : Nat) : Int))), (81, (.bool false)), (80, (.bool false)), (79, (.bool false))] (by kernel_rfl) ?_
  refine wpF_step (op_v (d := (some 85)) (s := Instr.loadAt 75 (.pointer (some ⟨w7.heap.size, 0, none⟩))) (v := (.agg (celC Cel.zero).toArray)) (by kernel_rfl) (rn_lda (vs := celC Cel.zero) (by kernel_rfl) (by rw [celC_len]; kernel_rfl) ((hBw9.ext hEw10).all)) ?_)
  refine wpF_run 1 [(86, (.agg (celC Cel.zero).toArray))] (by kernel_rfl) ?_
  refine wpF_step (op_v (d := (some 87)) (s := (do eqGuard .neq 75 (.tmp 85) (.tmp 86) (.agg (celC Cel.zero).toArray) (.agg (celC Cel.zero).toArray); binOp .neq 75 (.agg (celC Cel.zero).toArray) (.agg (celC Cel.zero).toArray) : Sem Value)) (v := (.bool false)) (by kernel_rfl) (run_neqAgg (r := true) (T := 75) (by kernel_rfl) ((run_eq_cel (dd := 9997) (t := 75) (td := 50) (e := 5) (t64 := 22) Cel.zero Cel.zero (by kernel_rfl) (by kernel_rfl) (by kernel_rfl) (by kernel_rfl) (by kernel_rfl) (by kernel_rfl) (by kernel_rfl)).trans (congrArg (fun b => Result.ok b _) (show (Cel.zero.eqb Cel.zero) = true from by decide)))) ?_)
  refine wpF_run 6 [(93, (.int .i64 ((n_l : Nat) : Int))), (92, (.slice a_l n_l c_l)), (91, (.int .i64 ((5 : Nat) : Int))), (90, (.bool false)), (89, (.bool false)), (88, (.bool false))] (by kernel_rfl) ?_
  refine wpF_step (op_callAt (d := (some 94)) (by kernel_rfl) (c_length n_l 48 _) ?_)
  rintro _ _ ⟨rfl, rfl⟩
  rw [show lenE n_l 48 = 5 from lenE_gt (by omega)]
  refine wpF_run 2 [(96, (.bool false)), (95, (.bool false))] (by kernel_rfl) ?_
  refine wpF_end (by kernel_rfl) ?_
  refine then_code ?_
  refine wpC_false (by kernel_rfl) ?_
  refine wpC_skip ?_
  refine then_code ?_
  refine wpC_seq ?_
  refine wpC_region ?_
  refine wpF_run 1 [(9, (.int .i64 ((0 : Nat) : Int)))] (by kernel_rfl) ?_
  refine wpF_end (by kernel_rfl) ?_
  refine then_code ?_
  refine wpC_seq ?_
  refine wpC_seq ?_
  refine wpC_region ?_
  refine wpF_run 1 [(10, (.int .i64 ((1 : Nat) : Int)))] (by kernel_rfl) ?_
  refine wpF_end (by kernel_rfl) ?_
  refine then_code ?_
  refine wpC_block ?_
  refine wpC_loop (X := Nat) (fun t => [(9, (.int .i64 ((sumB l t : Nat) : Int))), (10, (.int .i64 ((t + 1 : Nat) : Int)))]) [97, 98, 99, 100, 101, 102, 103, 104, 105, 106, 107, 108, 109] (fun t w11 => w10 = w11 ∧ t ≤ n_l - 1) (fun t => n_l - t) 0 (by kernel_rfl) ⟨rfl, by omega⟩ ?_
  rintro t dw11 w11 ⟨rfl, ht⟩
  have hlen := h_l.len_eq
  have hsb := sumB_le l t
  refine wpC_seq ?_
  refine wpC_seq ?_
  refine wpC_region ?_
  refine wpF_run 3 [(99, (.int .i64 ((n_l : Nat) : Int))), (98, (.slice a_l n_l c_l)), (97, (.int .i64 ((t + 1 : Nat) : Int)))] (by kernel_rfl) ?_
  refine wpF_step (op_split (d := (some 100)) (decide (((t + 1 : Nat) : Int) < ((n_l : Nat) : Int))) (by kernel_rfl) (fun hc100 => ?_) (fun hc100 => ?_))
  · replace hc100 : t + 1 < n_l := by have := of_d_t hc100; omega
    have hst := sumB_step (l := l) (t := t) (by omega)
    have hsb2 := sumB_le l (t + 1)
    refine wpF_end (by kernel_rfl) ?_
    refine then_code ?_
    refine wpC_true (by kernel_rfl) ?_
    refine wpC_skip ?_
    refine then_code ?_
    refine wpC_seq ?_
    refine wpC_block ?_
    refine wpC_region ?_
    refine wpF_run 3 [(105, (.int .i64 ((t + 1 : Nat) : Int))), (104, (.slice a_l n_l c_l)), (103, (.int .i64 ((sumB l t : Nat) : Int)))] (by kernel_rfl) ?_
    obtain ⟨b1, o1, rfl⟩ := h_l.addr (by omega)
    refine wpF_step (op_v (d := (some 106)) (s := Instr.indexAt 23 (.slice (some ⟨b1, o1, none⟩) n_l c_l) (.int .i64 ((t + 1 : Nat) : Int))) (v := (.pointer (some ⟨b1, o1 + (t + 1) * 1, none⟩))) (by kernel_rfl) (rn_ixs (E := 5) (sz := 1) (by kernel_rfl) (by kernel_rfl) (by omega)) ?_)
    refine wpF_step (op_v (d := (some 107)) (s := Instr.loadAt 5 (.pointer (some ⟨b1, o1 + (t + 1) * 1, none⟩))) (v := (.int .u8 ((byt l (t + 1) : Nat) : Int))) (by kernel_rfl) (rn_ld (by kernel_rfl) ((((((((((((((((((((h_l.ext hEw1)).ext hEw2)).chg hCw3 (fun k h1 h2 hs => by have h : k = _ := hs; omega))).ext hEw4)).ext hEw5)).chg hCw6 (fun k h1 h2 hs => by have h : k = _ := hs; omega))).ext hEw7)).ext hEw8)).chg hCw9 (fun k h1 h2 hs => by have h : k = _ := hs; omega))).ext hEw10).cell1 (by omega))) ?_)
    refine wpF_step (op_eqv (d := (some 108)) (.int .i64 (IntKind.i64.wrap ((byt l (t + 1) : Nat) : Int))) (.int .i64 ((byt l (t + 1) : Nat) : Int)) (by kernel_rfl) (congrArg (Value.int .i64) (wrapS rfl (by omega) (by omega))) ?_)
    refine wpF_step (op_eqv (d := (some 109)) (.int .i64 (IntKind.i64.wrap (((sumB l t : Nat) : Int) + ((byt l (t + 1) : Nat) : Int)))) (.int .i64 ((sumB l (t + 1) : Nat) : Int)) (by kernel_rfl) (congrArg (Value.int .i64) (wrapS (by omega) (by omega) (by omega))) ?_)
    refine wpF_run 1 [(9, (.int .i64 ((sumB l (t + 1) : Nat) : Int)))] (by kernel_rfl) ?_
    refine wpF_end (by kernel_rfl) ?_
    refine inBlock_normal ?_
    refine then_code ?_
    refine wpC_region ?_
    refine wpF_run 1 [(101, (.int .i64 ((t + 1 : Nat) : Int)))] (by kernel_rfl) ?_
    refine wpF_step (op_eqv (d := (some 102)) (.int .i64 (IntKind.i64.wrap (((t + 1 : Nat) : Int) + ((1 : Nat) : Int)))) (.int .i64 ((t + 1 + 1 : Nat) : Int)) (by kernel_rfl) (congrArg (Value.int .i64) (wrapS (by omega) (by omega) (by omega))) ?_)
    refine wpF_run 1 [(10, (.int .i64 ((t + 1 + 1 : Nat) : Int)))] (by kernel_rfl) ?_
    refine wpF_end (by kernel_rfl) ?_
    refine then_normal ?_
    refine endR_mk (t + 1) (by kernel_rfl) ?_ ?_
    · exact ⟨rfl, by omega⟩
    · first | omega | (dsimp only; omega)
  · replace hc100 : ¬ (t + 1 < n_l) := by have := of_d_f hc100; omega
    have htn : t = n_l - 1 := by omega
    refine wpF_end (by kernel_rfl) ?_
    refine then_code ?_
    refine wpC_false (by kernel_rfl) ?_
    refine wpC_exit ?_
    refine then_exit ?_
    refine then_exit ?_
    refine inBlock_exit ?_
    refine then_code ?_
    refine wpC_seq ?_
    refine wpC_region ?_
    refine wpF_run 2 [(111, (.int .i64 ((n_l : Nat) : Int))), (110, (.slice a_l n_l c_l))] (by kernel_rfl) ?_
    refine wpF_step (op_eqv (d := (some 112)) (.bool (decide (((n_l : Nat) : Int) > ((0 : Nat) : Int)))) (.bool true) (by kernel_rfl) (congrArg Value.bool (cmpDT (by omega))) ?_)
    refine wpF_run 2 [(114, (.slice a_l n_l c_l)), (113, (.bool true))] (by kernel_rfl) ?_
    obtain ⟨b2, o2, rfl⟩ := h_l.addr (by omega)
    refine wpF_step (op_v (d := (some 115)) (s := Instr.indexAt 23 (.slice (some ⟨b2, o2, none⟩) n_l c_l) (.int .i64 ((0 : Nat) : Int))) (v := (.pointer (some ⟨b2, o2 + 0 * 1, none⟩))) (by kernel_rfl) (rn_ixs (E := 5) (sz := 1) (by kernel_rfl) (by kernel_rfl) (by omega)) ?_)
    refine wpF_step (op_v (d := (some 116)) (s := Instr.loadAt 5 (.pointer (some ⟨b2, o2 + 0 * 1, none⟩))) (v := (.int .u8 ((byt l 0 : Nat) : Int))) (by kernel_rfl) (rn_ld (by kernel_rfl) ((((((((((((((((((((h_l.ext hEw1)).ext hEw2)).chg hCw3 (fun k h1 h2 hs => by have h : k = _ := hs; omega))).ext hEw4)).ext hEw5)).chg hCw6 (fun k h1 h2 hs => by have h : k = _ := hs; omega))).ext hEw7)).ext hEw8)).chg hCw9 (fun k h1 h2 hs => by have h : k = _ := hs; omega))).ext hEw10).cell1 (by omega))) ?_)
    refine wpF_step (op_split (d := (some 117)) (decide (((byt l 0 : Nat) : Int) > ((2 : Nat) : Int))) (by kernel_rfl) (fun hc117 => ?_) (fun hc117 => ?_))
    · replace hc117 : byt l 0 > 2 := by have := of_d_t hc117; omega
      refine wpF_run 12 [(11, (.bool true)), (128, (.bool true)), (127, (.bool true)), (126, undef), (125, undef), (124, undef), (123, undef), (122, undef), (121, undef), (120, undef), (119, undef), (118, (.bool true))] (by kernel_rfl) ?_
      refine wpF_end (by kernel_rfl) ?_
      refine then_code ?_
      refine wpC_seq ?_
      refine wpC_region ?_
      refine wpF_run 3 [(131, (.int .i64 ((n_l : Nat) : Int))), (130, (.slice (some ⟨b2, o2, none⟩) n_l c_l)), (129, (.int .i64 ((5 : Nat) : Int)))] (by kernel_rfl) ?_
      refine wpF_step (op_callAt (d := (some 132)) (by kernel_rfl) (c_length n_l 45 _) ?_)
      rintro _ _ ⟨rfl, rfl⟩
      rw [show lenE n_l 45 = 5 from lenE_gt (by omega)]
      refine wpF_run 1 [(133, (.bool true))] (by kernel_rfl) ?_
      refine wpF_step (op_callAt (d := (some 134)) (by kernel_rfl) (c_wantedLen 5 5 true _ (by decide) (rfl)) ?_)
      rintro _ _ ⟨rfl, rfl⟩
      refine wpF_run 4 [(138, (.int .i64 ((n_l : Nat) : Int))), (137, (.slice (some ⟨b2, o2, none⟩) n_l c_l)), (136, (.int .i64 ((5 : Nat) : Int))), (135, (.bool true))] (by kernel_rfl) ?_
      refine wpF_step (op_callAt (d := (some 139)) (by kernel_rfl) (c_length n_l 33 _) ?_)
      rintro _ _ ⟨rfl, rfl⟩
      rw [show lenE n_l 33 = 5 from lenE_gt (by omega)]
      refine wpF_run 1 [(140, (.bool true))] (by kernel_rfl) ?_
      refine wpF_step (op_callAt (d := (some 141)) (by kernel_rfl) (c_wantedLen 5 5 true _ (by decide) (rfl)) ?_)
      rintro _ _ ⟨rfl, rfl⟩
      refine wpF_run 2 [(143, (.bool true)), (142, (.bool true))] (by kernel_rfl) ?_
      refine wpF_step (op_callAt (d := (some 144)) (by kernel_rfl) (c_lives10 _) ?_)
      rintro _ w12 ⟨rfl, hEw12⟩
      have hzw12 := hEw12.size
      refine wpF_run 2 [(2, (.bool true)), (145, (.bool true))] (by kernel_rfl) ?_
      refine wpF_end (by kernel_rfl) ?_
      refine then_code ?_
      refine wpC_ret ?_
      refine body_ret1 (by kernel_rfl) (show resVal Try.prog 146 _ _ (.tmp 2) (.bool true) by (show _ = _; kernel_rfl)) ?_
      exact ⟨rfl, (((Ext.own (((Ext.own (((Ext.own (hEw1.trans hEw2) hCw3 (by omega)).trans hEw4).trans hEw5) hCw6 (by omega)).trans hEw7).trans hEw8) hCw9 (by omega)).trans hEw10).trans hEw12)⟩
    · replace hc117 : ¬ (byt l 0 > 2) := by have := of_d_f hc117; omega
      refine wpF_run 2 [(119, (.slice (some ⟨b2, o2, none⟩) n_l c_l)), (118, (.bool false))] (by kernel_rfl) ?_
      refine wpF_step (op_v (d := (some 120)) (s := Instr.indexAt 23 (.slice (some ⟨b2, o2, none⟩) n_l c_l) (.int .i64 ((0 : Nat) : Int))) (v := (.pointer (some ⟨b2, o2 + 0 * 1, none⟩))) (by kernel_rfl) (rn_ixs (E := 5) (sz := 1) (by kernel_rfl) (by kernel_rfl) (by omega)) ?_)
      refine wpF_step (op_v (d := (some 121)) (s := Instr.loadAt 5 (.pointer (some ⟨b2, o2 + 0 * 1, none⟩))) (v := (.int .u8 ((byt l 0 : Nat) : Int))) (by kernel_rfl) (rn_ld (by kernel_rfl) ((((((((((((((((((((h_l.ext hEw1)).ext hEw2)).chg hCw3 (fun k h1 h2 hs => by have h : k = _ := hs; omega))).ext hEw4)).ext hEw5)).chg hCw6 (fun k h1 h2 hs => by have h : k = _ := hs; omega))).ext hEw7)).ext hEw8)).chg hCw9 (fun k h1 h2 hs => by have h : k = _ := hs; omega))).ext hEw10).cell1 (by omega))) ?_)
      refine wpF_step (op_split (d := (some 122)) ((((byt l 0 : Nat) : Int) == ((0 : Nat) : Int))) (by kernel_rfl) (fun hc122 => ?_) (fun hc122 => ?_))
      · replace hc122 : byt l 0 = 0 := by have := of_eq_t hc122; omega
        refine wpF_run 2 [(124, (.int .i64 ((sumB l t : Nat) : Int))), (123, (.bool true))] (by kernel_rfl) ?_
        refine wpF_step (op_split (d := (some 125)) (decide (((sumB l t : Nat) : Int) > ((0 : Nat) : Int))) (by kernel_rfl) (fun hc125 => ?_) (fun hc125 => ?_))
        · replace hc125 : sumB l t > 0 := by have := of_d_t hc125; omega
          refine wpF_run 4 [(11, (.bool true)), (128, (.bool true)), (127, (.bool true)), (126, (.bool true))] (by kernel_rfl) ?_
          refine wpF_end (by kernel_rfl) ?_
          refine then_code ?_
          refine wpC_seq ?_
          refine wpC_region ?_
          refine wpF_run 3 [(131, (.int .i64 ((n_l : Nat) : Int))), (130, (.slice (some ⟨b2, o2, none⟩) n_l c_l)), (129, (.int .i64 ((5 : Nat) : Int)))] (by kernel_rfl) ?_
          refine wpF_step (op_callAt (d := (some 132)) (by kernel_rfl) (c_length n_l 45 _) ?_)
          rintro _ _ ⟨rfl, rfl⟩
          rw [show lenE n_l 45 = 5 from lenE_gt (by omega)]
          refine wpF_run 1 [(133, (.bool true))] (by kernel_rfl) ?_
          refine wpF_step (op_callAt (d := (some 134)) (by kernel_rfl) (c_wantedLen 5 5 true _ (by decide) (rfl)) ?_)
          rintro _ _ ⟨rfl, rfl⟩
          refine wpF_run 4 [(138, (.int .i64 ((n_l : Nat) : Int))), (137, (.slice (some ⟨b2, o2, none⟩) n_l c_l)), (136, (.int .i64 ((5 : Nat) : Int))), (135, (.bool true))] (by kernel_rfl) ?_
          refine wpF_step (op_callAt (d := (some 139)) (by kernel_rfl) (c_length n_l 33 _) ?_)
          rintro _ _ ⟨rfl, rfl⟩
          rw [show lenE n_l 33 = 5 from lenE_gt (by omega)]
          refine wpF_run 1 [(140, (.bool true))] (by kernel_rfl) ?_
          refine wpF_step (op_callAt (d := (some 141)) (by kernel_rfl) (c_wantedLen 5 5 true _ (by decide) (rfl)) ?_)
          rintro _ _ ⟨rfl, rfl⟩
          refine wpF_run 2 [(143, (.bool true)), (142, (.bool true))] (by kernel_rfl) ?_
          refine wpF_step (op_callAt (d := (some 144)) (by kernel_rfl) (c_lives10 _) ?_)
          rintro _ w13 ⟨rfl, hEw13⟩
          have hzw13 := hEw13.size
          refine wpF_run 2 [(2, (.bool true)), (145, (.bool true))] (by kernel_rfl) ?_
          refine wpF_end (by kernel_rfl) ?_
          refine then_code ?_
          refine wpC_ret ?_
          refine body_ret1 (by kernel_rfl) (show resVal Try.prog 146 _ _ (.tmp 2) (.bool true) by (show _ = _; kernel_rfl)) ?_
          exact ⟨rfl, (((Ext.own (((Ext.own (((Ext.own (hEw1.trans hEw2) hCw3 (by omega)).trans hEw4).trans hEw5) hCw6 (by omega)).trans hEw7).trans hEw8) hCw9 (by omega)).trans hEw10).trans hEw13)⟩
        · replace hc125 : ¬ (sumB l t > 0) := by have := of_d_f hc125; omega
          refine wpF_run 4 [(11, (.bool false)), (128, (.bool false)), (127, (.bool false)), (126, (.bool false))] (by kernel_rfl) ?_
          refine wpF_end (by kernel_rfl) ?_
          refine then_code ?_
          refine wpC_seq ?_
          refine wpC_region ?_
          refine wpF_run 3 [(131, (.int .i64 ((n_l : Nat) : Int))), (130, (.slice (some ⟨b2, o2, none⟩) n_l c_l)), (129, (.int .i64 ((5 : Nat) : Int)))] (by kernel_rfl) ?_
          refine wpF_step (op_callAt (d := (some 132)) (by kernel_rfl) (c_length n_l 45 _) ?_)
          rintro _ _ ⟨rfl, rfl⟩
          rw [show lenE n_l 45 = 5 from lenE_gt (by omega)]
          refine wpF_run 1 [(133, (.bool false))] (by kernel_rfl) ?_
          refine wpF_step (op_callAt (d := (some 134)) (by kernel_rfl) (c_wantedLen 5 5 false _ (by decide) (rfl)) ?_)
          rintro _ _ ⟨rfl, rfl⟩
          refine wpF_run 4 [(138, (.int .i64 ((n_l : Nat) : Int))), (137, (.slice (some ⟨b2, o2, none⟩) n_l c_l)), (136, (.int .i64 ((5 : Nat) : Int))), (135, (.bool true))] (by kernel_rfl) ?_
          refine wpF_step (op_callAt (d := (some 139)) (by kernel_rfl) (c_length n_l 33 _) ?_)
          rintro _ _ ⟨rfl, rfl⟩
          rw [show lenE n_l 33 = 5 from lenE_gt (by omega)]
          refine wpF_run 1 [(140, (.bool false))] (by kernel_rfl) ?_
          refine wpF_step (op_callAt (d := (some 141)) (by kernel_rfl) (c_wantedLen 5 5 false _ (by decide) (rfl)) ?_)
          rintro _ _ ⟨rfl, rfl⟩
          refine wpF_run 2 [(143, (.bool true)), (142, (.bool true))] (by kernel_rfl) ?_
          refine wpF_step (op_callAt (d := (some 144)) (by kernel_rfl) (c_lives10 _) ?_)
          rintro _ w14 ⟨rfl, hEw14⟩
          have hzw14 := hEw14.size
          refine wpF_run 2 [(2, (.bool true)), (145, (.bool true))] (by kernel_rfl) ?_
          refine wpF_end (by kernel_rfl) ?_
          refine then_code ?_
          refine wpC_ret ?_
          refine body_ret1 (by kernel_rfl) (show resVal Try.prog 146 _ _ (.tmp 2) (.bool true) by (show _ = _; kernel_rfl)) ?_
          exact ⟨rfl, (((Ext.own (((Ext.own (((Ext.own (hEw1.trans hEw2) hCw3 (by omega)).trans hEw4).trans hEw5) hCw6 (by omega)).trans hEw7).trans hEw8) hCw9 (by omega)).trans hEw10).trans hEw14)⟩
      · replace hc122 : ¬ (byt l 0 = 0) := by have := of_eq_f hc122; omega
        refine wpF_run 7 [(11, (.bool false)), (128, (.bool false)), (127, (.bool false)), (126, (.bool false)), (125, undef), (124, undef), (123, (.bool false))] (by kernel_rfl) ?_
        refine wpF_end (by kernel_rfl) ?_
        refine then_code ?_
        refine wpC_seq ?_
        refine wpC_region ?_
        refine wpF_run 3 [(131, (.int .i64 ((n_l : Nat) : Int))), (130, (.slice (some ⟨b2, o2, none⟩) n_l c_l)), (129, (.int .i64 ((5 : Nat) : Int)))] (by kernel_rfl) ?_
        refine wpF_step (op_callAt (d := (some 132)) (by kernel_rfl) (c_length n_l 45 _) ?_)
        rintro _ _ ⟨rfl, rfl⟩
        rw [show lenE n_l 45 = 5 from lenE_gt (by omega)]
        refine wpF_run 1 [(133, (.bool false))] (by kernel_rfl) ?_
        refine wpF_step (op_callAt (d := (some 134)) (by kernel_rfl) (c_wantedLen 5 5 false _ (by decide) (rfl)) ?_)
        rintro _ _ ⟨rfl, rfl⟩
        refine wpF_run 4 [(138, (.int .i64 ((n_l : Nat) : Int))), (137, (.slice (some ⟨b2, o2, none⟩) n_l c_l)), (136, (.int .i64 ((5 : Nat) : Int))), (135, (.bool true))] (by kernel_rfl) ?_
        refine wpF_step (op_callAt (d := (some 139)) (by kernel_rfl) (c_length n_l 33 _) ?_)
        rintro _ _ ⟨rfl, rfl⟩
        rw [show lenE n_l 33 = 5 from lenE_gt (by omega)]
        refine wpF_run 1 [(140, (.bool false))] (by kernel_rfl) ?_
        refine wpF_step (op_callAt (d := (some 141)) (by kernel_rfl) (c_wantedLen 5 5 false _ (by decide) (rfl)) ?_)
        rintro _ _ ⟨rfl, rfl⟩
        refine wpF_run 2 [(143, (.bool true)), (142, (.bool true))] (by kernel_rfl) ?_
        refine wpF_step (op_callAt (d := (some 144)) (by kernel_rfl) (c_lives10 _) ?_)
        rintro _ w15 ⟨rfl, hEw15⟩
        have hzw15 := hEw15.size
        refine wpF_run 2 [(2, (.bool true)), (145, (.bool true))] (by kernel_rfl) ?_
        refine wpF_end (by kernel_rfl) ?_
        refine then_code ?_
        refine wpC_ret ?_
        refine body_ret1 (by kernel_rfl) (show resVal Try.prog 146 _ _ (.tmp 2) (.bool true) by (show _ = _; kernel_rfl)) ?_
        exact ⟨rfl, (((Ext.own (((Ext.own (((Ext.own (hEw1.trans hEw2) hCw3 (by omega)).trans hEw4).trans hEw5) hCw6 (by omega)).trans hEw7).trans hEw8) hCw9 (by omega)).trans hEw10).trans hEw15)⟩

end Go.Proofs.Ytigeaknjhnichaa
