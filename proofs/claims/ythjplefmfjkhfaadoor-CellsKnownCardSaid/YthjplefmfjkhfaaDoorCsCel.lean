/- The trusted cell as plain data: storing, building, following. For any program; no condition beyond those of each statement. -/
import Derived.Test.YthjplefmfjkhfaaDoorCsNod3
import Derived.Test.YthjplefmfjkhfaaDoorCsSha2
set_option linter.all false
set_option linter.unusedVariables false
namespace Go.Cs
open Go Go.RowKit

def Cel.setEp (x : Cel) (n : Nat) (h : n < 2 ^ 64) : Cel := ⟨x.root, n, x.mark, h, x.hmk⟩
def Cel.setMark (x : Cel) (n : Nat) (h : n < 2 ^ 64) : Cel := ⟨x.root, x.ep, n, x.hep, h⟩
def Cel.setRoot (x : Cel) (d : Dig) : Cel := ⟨d, x.ep, x.mark, x.hep, x.hmk⟩
theorem cel_setEp {x : Cel} {n : Nat} (h : n < 2 ^ 64) : (celC x).set 32 (.int .u64 ((n : Nat) : Int)) = celC (x.setEp n h) := by
  have hl : (digC x.root).length = 32 := digC_len _
  rw [celC, List.set_append_right _ _ (by omega), hl]; rfl
theorem cel_setMark {x : Cel} {n : Nat} (h : n < 2 ^ 64) : (celC x).set 33 (.int .u64 ((n : Nat) : Int)) = celC (x.setMark n h) := by
  have hl : (digC x.root).length = 32 := digC_len _
  rw [celC, List.set_append_right _ _ (by omega), hl]; rfl
theorem cel_setRoot {x : Cel} {d : Dig} : setFrom (celC x) 0 (digC d) = celC (x.setRoot d) := by
  rw [celC, setFrom_appL _ _ _ _ (by simp), setFrom_all _ _ (by simp)]; rfl
def Cel.nxt (c : Cel) (r : Dig) : Cel := ⟨r, (c.ep + 1) % 2 ^ 64, c.mark, Nat.mod_lt _ (by decide), c.hmk⟩
def Cel.rsv (c : Cel) (k : Nat) : Cel := ⟨c.root, c.ep, (c.mark + k) % 2 ^ 64, c.hep, Nat.mod_lt _ (by decide)⟩
/-- The fresh cell. -/
def freC (n : Nat) : Cel := ⟨shaD (nodB (Nod.mt (hgt n) 0)), 0, 0, by decide, by decide⟩
/-- How a cell follows another one. -/
def fol (a b : Cel) : Nat := if a.ep + 1 = b.ep ∧ a.mark = b.mark then 1 else if a.ep = b.ep ∧ (a.root.l == b.root.l) = true ∧ a.mark < b.mark then 2 else 0

section
variable {P : Program} {w : World}
theorem run_build_cel1 {T : TypeId} (t : Dig) (hp : placesB P T = some [(0, 32), (32, 1), (33, 1)] := by kernel_rfl) (hz : (P.info? T).map (·.zero) = some (some (.agg (celC Cel.zero).toArray)) := by kernel_rfl) :
    (Instr.build T #[(0, .agg (digC t).toArray)]).run P w = .ok (.agg (celC ⟨t, 0, 0, by decide, by decide⟩).toArray) w := by
  refine run_buildS hp hz rfl ?_
  rw [fill_cons (off := 0) (size := 32) (vs := digC t) rfl rfl (by simp) (by simp), cel_setRoot]
  rfl
theorem run_build_nod1 {T : TypeId} (a : Nat) (ha : a < 256) (hp : placesB P T = some [(0, 1), (1, 1), (2, 140), (142, 132)] := by kernel_rfl) (hz : (P.info? T).map (·.zero) = some (some (.agg (nodC Nod.zero).toArray)) := by kernel_rfl) :
    (Instr.build T #[(0, .int .u8 ((a : Nat) : Int))]).run P w = .ok (.agg (nodC (Nod.emp a 0 ha (by decide))).toArray) w := by
  refine run_buildS hp hz rfl ?_
  rw [fill_cons (off := 0) (size := 1) (vs := [.int .u8 ((a : Nat) : Int)]) rfl rfl rfl (by simp)]
  rfl
end
theorem chkN_mt {h : Nat} (h5 : h ≤ 5) : chkN (Nod.mt h 0) = 0 := by
  have : ∀ k, k < 6 → chkN (Nod.mt k 0) = 0 := by decide
  exact this h (by omega)
theorem eqb_nxt {a b : Cel} (ha : a.ep ≠ 2 ^ 64 - 1) : (a.nxt b.root).eqb b = true ↔ a.ep + 1 = b.ep ∧ a.mark = b.mark := by
  have h1 := a.hep
  simp only [Cel.eqb, Cel.nxt, beq_self_eq_true, Bool.true_and, Bool.and_true, Bool.and_eq_true, beq_iff_eq]
  rw [Nat.mod_eq_of_lt (by omega)]
end Go.Cs
