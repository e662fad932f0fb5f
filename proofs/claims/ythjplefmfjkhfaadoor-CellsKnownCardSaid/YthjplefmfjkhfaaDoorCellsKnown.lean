/- CellsKnown: for every input the Go function returns true, and every argument reads afterwards as it read before; no condition beyond those of the given row. -/
import Derived.Test.YthjplefmfjkhfaaDoorRows
import Derived.Test.YthjplefmfjkhfaaDoorCsC8
import Derived.ProofKit
import Derived.OpenShut
import Derived.ShutString
import Derived.ChangeOld
import Derived.Below
import Derived.Test.YthjplefmfjkhfaaDoorCsO2
import Derived.Test.YthjplefmfjkhfaaDoorTie
import Derived.Test.YthjplefmfjkhfaaDoorCards
import Derived.LaidMore
import Derived.Stop.Joined
import Derived.SevenTiedAt
namespace Go.Proofs.YthjplefmfjkhfaaDoor
open Go.ChangeShapes Go.WideShapes Go.ChangeAt Go.RowKit Go.Cs
set_option linter.all false
set_option linter.unusedVariables false

theorem cellsKnown_own : ownKnob Tryd.prog.godebug = none := by kernel_rfl
theorem cellsKnown_laid : laidOutB Tryd.prog = true := by kernel_rfl

theorem cellsKnown_met (os : Os) (args : Array Value) : laidMetH Tryd.prog [("caisson/digests.initial", Rows.laid_caisson_digests_initial), ("caisson/digests.constants", Rows.laid_caisson_digests_constants), ("caisson/nodes.sizes", Rows.laid_caisson_nodes_sizes)] ((World.doorLaid Tryd.prog 400 os).forCall (fun _ _ => 0) ⟨#[], args, []⟩).memory := by
  rw [MakeChecks.laidMetH_plain _ _ _ (by kernel_rfl)]
  exact laidMet_of_run' 8 (by kernel_rfl) (by kernel_rfl)

theorem cellsKnown_of_laid {W : World} (h : laidMetH Tryd.prog [("caisson/digests.initial", Rows.laid_caisson_digests_initial), ("caisson/digests.constants", Rows.laid_caisson_digests_constants), ("caisson/nodes.sizes", Rows.laid_caisson_nodes_sizes)] W) : Gl 1 (w8C iniA) W ∧ Gl 2 (w64C kA) W ∧ Gl 0 [vI 45, vI 33] W := by
  rw [MakeChecks.laidMetH_plain _ _ _ (by kernel_rfl)] at h
  obtain ⟨ps, ⟨g0, t0, cs0, f0, p0, q0, hg0, ht0, hv0, hd0, ⟨g1, t1, cs1, f1, p1, q1, hg1, ht1, hv1, hd1, ⟨g2, t2, cs2, f2, p2, q2, hg2, ht2, hv2, hd2, _, _⟩, _⟩, _⟩, _, _⟩ := h
  obtain rfl := Option.some.inj ((show Tryd.prog.globalNamed "caisson/digests.initial" = some 1 by kernel_rfl).symm.trans hg0)
  obtain rfl := Option.some.inj ((show (Tryd.prog.globals[1]?).map (·.type) = some 111 by kernel_rfl).symm.trans ht0)
  have hc0 := arr_of_trod (e := 68) (k := .u32) (n := 8) (ns := [1779033703, 3144134277, 1013904242, 2773480762, 1359893119, 2600822924, 528734635, 1541459225]) hd0 (by kernel_rfl) (by kernel_rfl) (by kernel_rfl) (by kernel_rfl)
  obtain rfl := Option.some.inj ((show Tryd.prog.globalNamed "caisson/digests.constants" = some 2 by kernel_rfl).symm.trans hg1)
  obtain rfl := Option.some.inj ((show (Tryd.prog.globals[2]?).map (·.type) = some 118 by kernel_rfl).symm.trans ht1)
  have hc1 := arr_of_trod (e := 68) (k := .u32) (n := 64) (ns := [1116352408, 1899447441, 3049323471, 3921009573, 961987163, 1508970993, 2453635748, 2870763221, 3624381080, 310598401, 607225278, 1426881987, 1925078388, 2162078206, 2614888103, 3248222580, 3835390401, 4022224774, 264347078, 604807628, 770255983, 1249150122, 1555081692, 1996064986, 2554220882, 2821834349, 2952996808, 3210313671, 3336571891, 3584528711, 113926993, 338241895, 666307205, 773529912, 1294757372, 1396182291, 1695183700, 1986661051, 2177026350, 2456956037, 2730485921, 2820302411, 3259730800, 3345764771, 3516065817, 3600352804, 4094571909, 275423344, 430227734, 506948616, 659060556, 883997877, 958139571, 1322822218, 1537002063, 1747873779, 1955562222, 2024104815, 2227730452, 2361852424, 2428436474, 2756734187, 3204031479, 3329325298]) hd1 (by kernel_rfl) (by kernel_rfl) (by kernel_rfl) (by kernel_rfl)
  obtain rfl := Option.some.inj ((show Tryd.prog.globalNamed "caisson/nodes.sizes" = some 0 by kernel_rfl).symm.trans hg2)
  obtain rfl := Option.some.inj ((show (Tryd.prog.globals[0]?).map (·.type) = some 61 by kernel_rfl).symm.trans ht2)
  have hc2 := arr_of_trod (e := 3) (k := .i64) (n := 2) (ns := [45, 33]) hd2 (by kernel_rfl) (by kernel_rfl) (by kernel_rfl) (by kernel_rfl)
  exact ⟨(show (List.map (fun z : Int => Value.int .u32 z) [1779033703, 3144134277, 1013904242, 2773480762, 1359893119, 2600822924, 528734635, 1541459225]) = w8C iniA by kernel_rfl) ▸ gl_of hg0 hv0 hc0, (show (List.map (fun z : Int => Value.int .u32 z) [1116352408, 1899447441, 3049323471, 3921009573, 961987163, 1508970993, 2453635748, 2870763221, 3624381080, 310598401, 607225278, 1426881987, 1925078388, 2162078206, 2614888103, 3248222580, 3835390401, 4022224774, 264347078, 604807628, 770255983, 1249150122, 1555081692, 1996064986, 2554220882, 2821834349, 2952996808, 3210313671, 3336571891, 3584528711, 113926993, 338241895, 666307205, 773529912, 1294757372, 1396182291, 1695183700, 1986661051, 2177026350, 2456956037, 2730485921, 2820302411, 3259730800, 3345764771, 3516065817, 3600352804, 4094571909, 275423344, 430227734, 506948616, 659060556, 883997877, 958139571, 1322822218, 1537002063, 1747873779, 1955562222, 2024104815, 2227730452, 2361852424, 2428436474, 2756734187, 3204031479, 3329325298]) = w64C kA by kernel_rfl) ▸ gl_of hg1 hv1 hc1, gl_of hg2 hv2 hc2⟩

set_option maxRecDepth 100000 in
theorem cellsKnown_lifted (os : Os) (started : os.Started) (H : Type) (enc : TypeId × Value → H) :
    ReturnsInHanded {} Tryd.checked os 8 .any (fun w args => (Rows.cellsKnownSpec.pre enc Tryd.prog Tryd.f8 [] false w args ∧ laidMetH Tryd.prog [("caisson/digests.initial", Rows.laid_caisson_digests_initial), ("caisson/digests.constants", Rows.laid_caisson_digests_constants), ("caisson/nodes.sizes", Rows.laid_caisson_nodes_sizes)] w) ∧ sizedMet enc Tryd.prog Tryd.f8 (OpenSpec.ofChange Rows.cellsKnownSpec) false w args) (Rows.cellsKnownSpec.post enc Tryd.prog Tryd.f8 false true false false) := by
  refine returnsInHanded_of_change_and (C := Tryd.checked) (X := fun w _ => laidMetH Tryd.prog [("caisson/digests.initial", Rows.laid_caisson_digests_initial), ("caisson/digests.constants", Rows.laid_caisson_digests_constants), ("caisson/nodes.sizes", Rows.laid_caisson_nodes_sizes)] w) (fun _ _ _ hh h => h.of_heap hh) cellsKnown_own started (by kernel_rfl) Tryd.func8
    (ChangeSpec.witness_shaped (enc := enc) (C := Tryd.checked) (os := os) (X := fun w _ => laidMetH Tryd.prog [("caisson/digests.initial", Rows.laid_caisson_digests_initial), ("caisson/digests.constants", Rows.laid_caisson_digests_constants), ("caisson/nodes.sizes", Rows.laid_caisson_nodes_sizes)] w) false (World.doorLaid Tryd.prog 400 os) #[] 8 rfl (World.shaped_of_RefB (by kernel_rfl) (by kernel_rfl)) (by kernel_rfl) (by kernel_rfl) (by kernel_rfl) (cellsKnown_met os _)) ?_
  intro W base args ds gs before hval0 hW _ hcnd hL _
  have hval : ∀ (j : Nat) t v, Tryd.f8.params[j]? = some t → args[j]? = some v → Value.okWide Tryd.prog W .any base t v := hval0
  have hW' := hW
  obtain ⟨p, q, hA0, hV, rfl, hfz, hnd⟩ := hW
  have hGl := cellsKnown_of_laid hL
  have hA : DataW.TrodAll enc Tryd.prog W 0 (fun _ => true) true Tryd.f8.params.toList args.toList ds p := hA0
  rw [Tryd.params8] at hA hval
  obtain ⟨hargs, rfl, rfl⟩ := trodAll_nil hA
  obtain rfl : args = #[] := by cases args; simp_all
  obtain ⟨rfl, rfl⟩ := trodVars_none hV
  clear hA0 hval0
  refine (c_CellsKnown W hGl.2.2 hGl.1 hGl.2.1).mono ?_
  rintro e W' ⟨v, rfl, rfl, hx⟩
  have bel := hx.below
  exact ⟨_, rfl, _, _, _, [], _, [], hW', trodAll_mk1 (shut_bool Tryd.underlying4 _), trodAll_mk0, rfl, bel.frame _, fun h => by cases h⟩

theorem cellsKnown_holds : Rows.CellsKnownSaid :=
  OpenClaim.holds_of_wide 8 Tryd.f8 rfl rfl rfl rfl rfl rfl rfl ⟨rfl, rfl, rfl, rfl, rfl⟩ rfl rfl rfl rfl rfl (by kernel_rfl) Tryd.func8 (by kernel_rfl)
    (of_decide_eq_true (by kernel_rfl)) (by unfold Func.isWrapper; rw [if_neg (of_decide_eq_false (by kernel_rfl))]; exact ⟨rfl, rfl⟩)
    (fun os started H enc _ => cellsKnown_lifted os started H enc)

theorem cellsKnown_card : Rows.CellsKnownCardSaid :=
  Claim7.holds_tied_plain_at .later [] [.data, .data, .data] true (true, "a734c7574f370bf1e76c61855917bbe57022eee9ab623681d75a0e65f224139d") false
    cellsKnown_holds (fun _ h => by cases h) (by kernel_rfl) (fun _ h => by cases h) cellsKnown_row_tie rfl ⟨rfl, rfl⟩ (by kernel_rfl) rfl
    (fun f fn hf hfn => by
      obtain rfl : f = 8 := Option.some.inj ((show Tryd.prog.funcNamed "caisson/caissonlaw15.CellsKnown" = some 8 by kernel_rfl).symm.trans hf) |>.symm
      obtain rfl : fn = Tryd.f8 := (Option.some.inj (Tryd.func8.symm.trans hfn)).symm
      exact ⟨by kernel_rfl, fun j t ht => by
        rw [Tryd.params8] at ht
        simp at ht⟩)
    (by kernel_rfl)
end Go.Proofs.YthjplefmfjkhfaaDoor
