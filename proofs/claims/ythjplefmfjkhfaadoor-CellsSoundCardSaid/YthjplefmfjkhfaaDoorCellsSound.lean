/- CellsSound: for every input the Go function returns true, and every argument reads afterwards as it read before; no condition beyond those of the given row. -/
import Derived.Test.YthjplefmfjkhfaaDoorRows
import Derived.Test.YthjplefmfjkhfaaDoorCsC6
import Derived.ProofKit
import Derived.OpenShut
import Derived.ShutString
import Derived.ChangeOld
import Derived.Below
import Derived.Test.YthjplefmfjkhfaaDoorCsO3
import Derived.Test.YthjplefmfjkhfaaDoorCsO2
import Derived.Test.YthjplefmfjkhfaaDoorTie
import Derived.Test.YthjplefmfjkhfaaDoorCards
import Derived.LaidMore
import Derived.Stop.Joined
import Derived.SevenTiedAt
namespace Go.Proofs.YthjplefmfjkhfaaDoor
open Go.ChangeShapes Go.WideShapes Go.ChangeAt Go.RowKit Go.Cs
set_option linter.all false
set_option linter.unusedVariables false

theorem cellsSound_own : ownKnob Tryd.prog.godebug = none := by kernel_rfl
theorem cellsSound_laid : laidOutB Tryd.prog = true := by kernel_rfl

theorem cellsSound_met (os : Os) (args : Array Value) : laidMetH Tryd.prog [("caisson/digests.initial", Rows.laid_caisson_digests_initial), ("caisson/digests.constants", Rows.laid_caisson_digests_constants), ("caisson/nodes.sizes", Rows.laid_caisson_nodes_sizes)] ((World.doorLaid Tryd.prog 400 os).forCall (fun _ _ => 0) ⟨#[], args, []⟩).memory := by
  rw [MakeChecks.laidMetH_plain _ _ _ (by kernel_rfl)]
  exact laidMet_of_run' 8 (by kernel_rfl) (by kernel_rfl)

theorem cellsSound_of_laid {W : World} (h : laidMetH Tryd.prog [("caisson/digests.initial", Rows.laid_caisson_digests_initial), ("caisson/digests.constants", Rows.laid_caisson_digests_constants), ("caisson/nodes.sizes", Rows.laid_caisson_nodes_sizes)] W) : Gl 1 (w8C iniA) W ∧ Gl 2 (w64C kA) W ∧ Gl 0 [vI 45, vI 33] W := by
  rw [MakeChecks.laidMetH_plain _ _ _ (by kernel_rfl)] at h
  obtain ⟨ps, ⟨g0, t0, cs0, f0, p0, q0, hg0, ht0, hv0, hd0, ⟨g1, t1, cs1, f1, p1, q1, hg1, ht1, hv1, hd1, ⟨g2, t2, cs2, f2, p2, q2, hg2, ht2, hv2, hd2, _, _⟩, _⟩, _⟩, _, _⟩ := h
  obtain rfl := Option.some.inj ((show Tryd.prog.globalNamed "caisson/digests.initial" = some 1 by kernel_rfl).symm.trans hg0)
  obtain rfl := Option.some.inj ((show (Tryd.prog.globals[1]?).map (·.type) = some 111 by kernel_rfl).symm.trans ht0)
  have hc0 := arr_of_trod (e := 68) (k := .u32) (n := 8) (ns := [1779033703, 3144134277, 1013904242, 2773480762, 1359893119, 2600822924, 528734635, 1541459225]) hd0 (by kernel_rfl) (by kernel_rfl) (by kernel_rfl) (by kernel_rfl)
  obtain rfl := Option.some.inj ((show Tryd.prog.globalNamed "caisson/digests.constants" = some 2 by kernel_rfl).symm.trans hg1)
  obtain rfl := Option.some.inj ((show (Tryd.prog.globals[2]?).map (·.type) = some 118 by kernel_rfl).symm.trans ht1)
  have hc1 := arr_of_trod (e := 68) (k := .u32) (n := 64) (ns := [1116352408, 1899447441, 3049323471, 3921009573, 961987163, 1508970993, 2453635748, 2870763221, 3624381080, 310598401, 607225278, 1426881987, 1925078388, 2162078206, 2614888103, 3248222580, 3835390401, 4022224774, 264347078, 604807628, 770255983, 1249150122, 1555081692, 1996064986, 2554220882, 2821834349, 2952996808, 3210313671, 3336571891, 3584528711, 113926993, 338241895, 666307205, 773529912, 1294757372, 1396182291, 1695183700, 1986661051, 2177026350, 2456956037, 2730485921, 2820302411, 3259730800, 3345764771, 3516065817, 3600352804, 4094571909, 275423344, 430227734, 506948616, 659060556, 883997877, 958139571, 1322822218, 1537002063, 1747873779, 1955562222, 2024104815, 2227730452, 2361852424, 2428436474, 2756734187, 3204031479, 3329325298]) hd1 (by kernel_rfl) (by kernel_rfl) (by kernel_rfl) (by kernel_rfl)
  obtain rfl := Option.some.inj ((show Tryd.prog.globalNamed "caisson/nodes.sizes" = some 0 by kernel_rfl).symm.trans hg2)
  obtain rfl := Option.some.inj ((show (Tryd.prog.globals[0]?).map (·.type) = some 61 by kernel_rfl).symm.trans ht2)
  have hc2 := arr_of_trod (e := 3) (k := .i64) (n := 2) (ns := [45, 33]) hd2 (by kernel_rfl) (by kernel_rfl) (by kernel_rfl) (by kernel_rfl)
  exact ⟨(show (List.map (fun z : Int => Value.int .u32 z) [1779033703, 3144134277, 1013904242, 2773480762, 1359893119, 2600822924, 528734635, 1541459225]) = w8C iniA by kernel_rfl) ▸ gl_of hg0 hv0 hc0, (show (List.map (fun z : Int => Value.int .u32 z) [1116352408, 1899447441, 3049323471, 3921009573, 961987163, 1508970993, 2453635748, 2870763221, 3624381080, 310598401, 607225278, 1426881987, 1925078388, 2162078206, 2614888103, 3248222580, 3835390401, 4022224774, 264347078, 604807628, 770255983, 1249150122, 1555081692, 1996064986, 2554220882, 2821834349, 2952996808, 3210313671, 3336571891, 3584528711, 113926993, 338241895, 666307205, 773529912, 1294757372, 1396182291, 1695183700, 1986661051, 2177026350, 2456956037, 2730485921, 2820302411, 3259730800, 3345764771, 3516065817, 3600352804, 4094571909, 275423344, 430227734, 506948616, 659060556, 883997877, 958139571, 1322822218, 1537002063, 1747873779, 1955562222, 2024104815, 2227730452, 2361852424, 2428436474, 2756734187, 3204031479, 3329325298]) = w64C kA by kernel_rfl) ▸ gl_of hg1 hv1 hc1, gl_of hg2 hv2 hc2⟩

set_option maxRecDepth 100000 in
theorem cellsSound_lifted (os : Os) (started : os.Started) (H : Type) (enc : TypeId × Value → H) :
    ReturnsInHanded {} Tryd.checked os 6 .any (fun w args => (Rows.cellsSoundSpec.pre enc Tryd.prog Tryd.f6 [] false w args ∧ laidMetH Tryd.prog [("caisson/digests.initial", Rows.laid_caisson_digests_initial), ("caisson/digests.constants", Rows.laid_caisson_digests_constants), ("caisson/nodes.sizes", Rows.laid_caisson_nodes_sizes)] w) ∧ sizedMet enc Tryd.prog Tryd.f6 (OpenSpec.ofChange Rows.cellsSoundSpec) false w args) (Rows.cellsSoundSpec.post enc Tryd.prog Tryd.f6 false true false false) := by
  refine returnsInHanded_of_change_and (C := Tryd.checked) (X := fun w _ => laidMetH Tryd.prog [("caisson/digests.initial", Rows.laid_caisson_digests_initial), ("caisson/digests.constants", Rows.laid_caisson_digests_constants), ("caisson/nodes.sizes", Rows.laid_caisson_nodes_sizes)] w) (fun _ _ _ hh h => h.of_heap hh) cellsSound_own started (by kernel_rfl) Tryd.func6
    (ChangeSpec.witness_shaped (enc := enc) (C := Tryd.checked) (os := os) (X := fun w _ => laidMetH Tryd.prog [("caisson/digests.initial", Rows.laid_caisson_digests_initial), ("caisson/digests.constants", Rows.laid_caisson_digests_constants), ("caisson/nodes.sizes", Rows.laid_caisson_nodes_sizes)] w) false (World.doorLaid Tryd.prog 400 os) #[.agg #[.int .u16 0, .slice none 0 0], .agg #[.int .u8 0, .int .u8 0]] 8 rfl (World.shaped_of_RefB (by kernel_rfl) (by kernel_rfl)) (by kernel_rfl) (by kernel_rfl) (by kernel_rfl) (cellsSound_met os _)) ?_
  intro W base args ds gs before hval0 hW _ hcnd hL _
  have hval : ∀ (j : Nat) t v, Tryd.f6.params[j]? = some t → args[j]? = some v → Value.okWide Tryd.prog W .any base t v := hval0
  have hW' := hW
  obtain ⟨p, q, hA0, hV, rfl, hfz, hnd⟩ := hW
  have hGl := cellsSound_of_laid hL
  have hA : DataW.TrodAll enc Tryd.prog W 0 (fun _ => true) true Tryd.f6.params.toList args.toList ds p := hA0
  rw [Tryd.params6] at hA hval
  obtain ⟨v0, vs0, d0, ds0, p0, q0, hargs, rfl, rfl, h0, r0⟩ := trodAll_cons hA
  obtain ⟨v1, vs1, d1, ds1, p1, q1, rfl, rfl, rfl, h1, r1⟩ := trodAll_cons r0
  obtain ⟨rfl, rfl, rfl⟩ := trodAll_nil r1
  obtain rfl : args = #[v0, v1] := by cases args; simp_all
  obtain ⟨rfl, rfl⟩ := trodVars_none hV
  have k0 := h0
  have lt0 : ∀ x ∈ p0, x.block < W.heap.size := by obtain ⟨m, hm⟩ := k0; exact DataW.trod_lt m _ _ _ hm
  obtain ⟨cs0, rfl, _⟩ := okWide_struct Tryd.underlying49 (hval 0 49 v0 rfl rfl)
  obtain ⟨x0, a0, n0, c0, l0, hx0, bx0, hm0⟩ : ∃ k a n cp st, cs0.toList = [vH k, .slice a n cp] ∧ k < 65536 ∧ Ms b2C 2 0 W.heap.size W a n cp st := by
    obtain ⟨fuel, hf⟩ := h0
    exact rd_L (T := 49) (tN := 24) (t16 := 22) (tS := 47) (e := 50) (t8 := 5) ⟨fuel, _, hf⟩ (by kernel_rfl) (by kernel_rfl) (by kernel_rfl) (by kernel_rfl) (by kernel_rfl) (by kernel_rfl) (by kernel_rfl) (by kernel_rfl) (by kernel_rfl) (by kernel_rfl) (by kernel_rfl) (by kernel_rfl)
  obtain rfl : cs0 = #[vH x0, .slice a0 n0 c0] := by rw [show cs0 = cs0.toList.toArray by simp, hx0]
  have k1 := h1
  have lt1 : ∀ x ∈ p1, x.block < W.heap.size := by obtain ⟨m, hm⟩ := k1; exact DataW.trod_lt m _ _ _ hm
  obtain ⟨cs1, rfl, _⟩ := okWide_array Tryd.underlying50 (hval 1 50 v1 rfl rfl)
  obtain ⟨xa1, xb1, hx1, bx1, by1⟩ : ∃ a b : Nat, cs1.toList = [.int .u8 ((a : Nat) : Int), .int .u8 ((b : Nat) : Int)] ∧ a < 256 ∧ b < 256 := by
    obtain ⟨fuel, hf⟩ := h1
    exact rd_pair8 (t := 50) (e := 5) ⟨fuel, _, hf⟩ (by kernel_rfl) (by kernel_rfl) (by kernel_rfl) (by kernel_rfl)
  obtain rfl : cs1 = #[.int .u8 ((xa1 : Nat) : Int), .int .u8 ((xb1 : Nat) : Int)] := by rw [show cs1 = cs1.toList.toArray by simp, hx1]
  clear hA0 hval0
  refine (c_CellsSound x0 xa1 xb1 W hm0 bx0 bx1 by1 hGl.2.2 hGl.1 hGl.2.1).mono ?_
  rintro e W' ⟨v, rfl, rfl, hx⟩
  have bel := hx.below
  exact ⟨_, rfl, _, _, _, [], _, [], hW', trodAll_mk1 (shut_bool Tryd.underlying4 _), (trodAll_cons_mk (Below.trod cellsSound_laid (by kernel_rfl) (of_decide_eq_true (by kernel_rfl)) k0 bel lt0) (trodAll_cons_mk (Below.trod cellsSound_laid (by kernel_rfl) (of_decide_eq_true (by kernel_rfl)) k1 bel lt1) trodAll_mk0)), rfl, bel.frame _, fun h => by cases h⟩

theorem cellsSound_holds : Rows.CellsSoundSaid :=
  OpenClaim.holds_of_wide 6 Tryd.f6 rfl rfl rfl rfl rfl rfl rfl ⟨rfl, rfl, rfl, rfl, rfl⟩ rfl rfl rfl rfl rfl (by kernel_rfl) Tryd.func6 (by kernel_rfl)
    (of_decide_eq_true (by kernel_rfl)) (by unfold Func.isWrapper; rw [if_neg (of_decide_eq_false (by kernel_rfl))]; exact ⟨rfl, rfl⟩)
    (fun os started H enc _ => cellsSound_lifted os started H enc)

theorem cellsSound_card : Rows.CellsSoundCardSaid :=
  Claim7.holds_tied_plain_at .later [] [.data, .data, .data] true (true, "a734c7574f370bf1e76c61855917bbe57022eee9ab623681d75a0e65f224139d") false
    cellsSound_holds (fun _ h => by cases h) (by kernel_rfl) (fun _ h => by cases h) cellsSound_row_tie rfl ⟨rfl, rfl⟩ (by kernel_rfl) rfl
    (fun f fn hf hfn => by
      obtain rfl : f = 6 := Option.some.inj ((show Tryd.prog.funcNamed "caisson/caissonlaw15.CellsSound" = some 6 by kernel_rfl).symm.trans hf) |>.symm
      obtain rfl : fn = Tryd.f6 := (Option.some.inj (Tryd.func6.symm.trans hfn)).symm
      exact ⟨by kernel_rfl, fun j t ht => by
        rw [Tryd.params6] at ht
        have hm : t ∈ ([49, 50] : List Nat) := by simpa using Array.mem_of_getElem? ht
        have hall : (([49, 50] : List Nat).all fun u => !Tryd.prog.wantsStandIn u) = true := by kernel_rfl
        exact (show Tryd.prog.wantsStandIn t = false by simpa using List.all_eq_true.1 hall t hm)⟩)
    (by kernel_rfl)
end Go.Proofs.YthjplefmfjkhfaaDoor
