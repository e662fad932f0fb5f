/- NodesKnown: for every input the Go function returns true, and every argument reads afterwards as it read before; no condition beyond those of the given row. -/
import Derived.Test.YtpcbhalagllhnaaDoorRows
import Derived.Test.YtpcbhalagllhnaaDoorCsN11
import Derived.ProofKit
import Derived.OpenShut
import Derived.ShutString
import Derived.ChangeOld
import Derived.Below
import Derived.Test.YtpcbhalagllhnaaDoorCsO2
import Derived.Test.YtpcbhalagllhnaaDoorTie
import Derived.Test.YtpcbhalagllhnaaDoorCards
import Derived.LaidMore
import Derived.Stop.Joined
import Derived.SevenTiedAt
namespace Go.Proofs.YtpcbhalagllhnaaDoor
open Go.ChangeShapes Go.WideShapes Go.ChangeAt Go.RowKit Go.Cs
set_option linter.all false
set_option linter.unusedVariables false

theorem nodesKnown_own : ownKnob Tryd.prog.godebug = none := by kernel_rfl
theorem nodesKnown_laid : laidOutB Tryd.prog = true := by kernel_rfl

theorem nodesKnown_met (os : Os) (args : Array Value) : laidMetH Tryd.prog [("caisson/nodes.sizes", Rows.laid_caisson_nodes_sizes)] ((World.doorLaid Tryd.prog 400 os).forCall (fun _ _ => 0) ⟨#[], args, []⟩).memory := by
  rw [MakeChecks.laidMetH_plain _ _ _ (by kernel_rfl)]
  exact laidMet_of_run' 8 (by kernel_rfl) (by kernel_rfl)

theorem nodesKnown_of_laid {W : World} (h : laidMetH Tryd.prog [("caisson/nodes.sizes", Rows.laid_caisson_nodes_sizes)] W) : Gl 0 [vI 45, vI 33] W := by
  rw [MakeChecks.laidMetH_plain _ _ _ (by kernel_rfl)] at h
  obtain ⟨ps, ⟨g0, t0, cs0, f0, p0, q0, hg0, ht0, hv0, hd0, _, _⟩, _, _⟩ := h
  obtain rfl := Option.some.inj ((show Tryd.prog.globalNamed "caisson/nodes.sizes" = some 0 by kernel_rfl).symm.trans hg0)
  obtain rfl := Option.some.inj ((show (Tryd.prog.globals[0]?).map (·.type) = some 76 by kernel_rfl).symm.trans ht0)
  have hc0 := arr_of_trod (e := 3) (k := .i64) (n := 2) (ns := [45, 33]) hd0 (by kernel_rfl) (by kernel_rfl) (by kernel_rfl) (by kernel_rfl)
  exact gl_of hg0 hv0 hc0

set_option maxRecDepth 100000 in
theorem nodesKnown_lifted (os : Os) (started : os.Started) (H : Type) (enc : TypeId × Value → H) :
    ReturnsInHanded {} Tryd.checked os 5 .any (fun w args => (Rows.nodesKnownSpec.pre enc Tryd.prog Tryd.f5 [] false w args ∧ laidMetH Tryd.prog [("caisson/nodes.sizes", Rows.laid_caisson_nodes_sizes)] w) ∧ sizedMet enc Tryd.prog Tryd.f5 (OpenSpec.ofChange Rows.nodesKnownSpec) false w args) (Rows.nodesKnownSpec.post enc Tryd.prog Tryd.f5 false true false false) := by
  refine returnsInHanded_of_change_and (C := Tryd.checked) (X := fun w _ => laidMetH Tryd.prog [("caisson/nodes.sizes", Rows.laid_caisson_nodes_sizes)] w) (fun _ _ _ hh h => h.of_heap hh) nodesKnown_own started (by kernel_rfl) Tryd.func5
    (ChangeSpec.witness_shaped (enc := enc) (C := Tryd.checked) (os := os) (X := fun w _ => laidMetH Tryd.prog [("caisson/nodes.sizes", Rows.laid_caisson_nodes_sizes)] w) false (World.doorLaid Tryd.prog 400 os) #[] 8 rfl (World.shaped_of_RefB (by kernel_rfl) (by kernel_rfl)) (by kernel_rfl) (by kernel_rfl) (by kernel_rfl) (nodesKnown_met os _)) ?_
  intro W base args ds gs before hval0 hW _ hcnd hL _
  have hval : ∀ (j : Nat) t v, Tryd.f5.params[j]? = some t → args[j]? = some v → Value.okWide Tryd.prog W .any base t v := hval0
  have hW' := hW
  obtain ⟨p, q, hA0, hV, rfl, hfz, hnd⟩ := hW
  have hGl := nodesKnown_of_laid hL
  have hA : DataW.TrodAll enc Tryd.prog W 0 (fun _ => true) true Tryd.f5.params.toList args.toList ds p := hA0
  rw [Tryd.params5] at hA hval
  obtain ⟨hargs, rfl, rfl⟩ := trodAll_nil hA
  obtain rfl : args = #[] := by cases args; simp_all
  obtain ⟨rfl, rfl⟩ := trodVars_none hV
  clear hA0 hval0
  refine (c_NodesKnown W hGl).mono ?_
  rintro e W' ⟨v, rfl, rfl, hx⟩
  have bel := hx.below
  exact ⟨_, rfl, _, _, _, [], _, [], hW', trodAll_mk1 (shut_bool Tryd.underlying4 _), trodAll_mk0, rfl, bel.frame _, fun h => by cases h⟩

theorem nodesKnown_holds : Rows.NodesKnownSaid :=
  OpenClaim.holds_of_wide 5 Tryd.f5 rfl rfl rfl rfl rfl rfl rfl ⟨rfl, rfl, rfl, rfl, rfl⟩ rfl rfl rfl rfl rfl (by kernel_rfl) Tryd.func5 (by kernel_rfl)
    (of_decide_eq_true (by kernel_rfl)) (by unfold Func.isWrapper; rw [if_neg (of_decide_eq_false (by kernel_rfl))]; exact ⟨rfl, rfl⟩)
    (fun os started H enc _ => nodesKnown_lifted os started H enc)

theorem nodesKnown_card : Rows.NodesKnownCardSaid :=
  Claim7.holds_tied_plain_at .later [] [.data] true (true, "374d4f073175a78012143ff94d22733b3544ef0f84d7d0dc48f5e8705a19b773") false
    nodesKnown_holds (fun _ h => by cases h) (by kernel_rfl) (fun _ h => by cases h) nodesKnown_row_tie rfl ⟨rfl, rfl⟩ (by kernel_rfl) rfl
    (fun f fn hf hfn => by
      obtain rfl : f = 5 := Option.some.inj ((show Tryd.prog.funcNamed "caisson/caissonlaw13.NodesKnown" = some 5 by kernel_rfl).symm.trans hf) |>.symm
      obtain rfl : fn = Tryd.f5 := (Option.some.inj (Tryd.func5.symm.trans hfn)).symm
      exact ⟨by kernel_rfl, fun j t ht => by
        rw [Tryd.params5] at ht
        simp at ht⟩)
    (by kernel_rfl)
end Go.Proofs.YtpcbhalagllhnaaDoor
