/-
  NARROWER THAN 'FOR EVERY INPUT', by the rows' own cells (each row's printed sentence says how): TopMoved: laid · TopDisk: laid · TopOld: laid · TopRecovered: laid · TopLog: laid.
  DERIVED. THE GIVEN ROWS OF THIS SEAT. 5 by the template 'for every input the law returns true; each argument reads behind the call as it read before'; 0 by the template 'total and deterministic' (their statements: YtbobhnldhpjdlaaGreatDoorTotals.lean).
  GIVEN WITH THE SEED: the statements are not yours to turn. If you find one false, say at which input.
  Laid BY PROGRAM, IN A SANDBOX (cutbox-rows.mjs): the forced cells as the released guide's own fill.sh prints them over the translation 76cc3ff4f293673a… (all of the seat's roots in one cut). By AI agents, Wed Nov 11 2026. No macro, syntax, notation, axiom, sorry.
-/
import Derived.Test.YtbobhnldhpjdlaaGreatDoorChecked
import GoSem.Claim
import GoSem.ClaimJoined
import GoSem.ClaimMapViews
import Derived.JoinedTies
import Derived.KernelRfl
namespace Go.Proofs.YtbobhnldhpjdlaaGreatDoor
/- THE CELL 'sum', in the pinned program and in every row, IS THE sha256 OF THE DUMP (.gsa) THAT YtbobhnldhpjdlaaGreatDoorProg.lean LOADS. Nothing in Lean hashes anything: it is a label: what it is worth is what the hold of that sum in a sandbox is worth. -/
noncomputable def Tryz.pinned : Pinned := { name := "ytbobhnldhpjdlaagreatdoor", sum := "76cc3ff4f293673aecb0cdf2dd5909093a3ca749751a54bb8dda51f9586f8eeb", checked := Tryz.checked }
namespace Rows
def none {H : Type} : Left H := { results := [], args := [] }

/- WHAT THE LISTED PACKAGE-LEVEL VARIABLES READ AS WHEN THE CALL BEGINS. Each datum BY PROGRAM (the guide's laid-datum.mjs) off the statement by which the dump's own 'gosem.cut.vars' lays the variable. In a bare row this is a premise. The card (YtbobhnldhpjdlaaGreatDoorCards.lean) ties it to the program's text. -/
def laid_caisson_digests_initial {H : Type} : DataW H := .agg [.lit (.int .u32 1779033703), .lit (.int .u32 3144134277), .lit (.int .u32 1013904242), .lit (.int .u32 2773480762), .lit (.int .u32 1359893119), .lit (.int .u32 2600822924), .lit (.int .u32 528734635), .lit (.int .u32 1541459225)]
def laid_caisson_digests_constants {H : Type} : DataW H := .agg [.lit (.int .u32 1116352408), .lit (.int .u32 1899447441), .lit (.int .u32 3049323471), .lit (.int .u32 3921009573), .lit (.int .u32 961987163), .lit (.int .u32 1508970993), .lit (.int .u32 2453635748), .lit (.int .u32 2870763221), .lit (.int .u32 3624381080), .lit (.int .u32 310598401), .lit (.int .u32 607225278), .lit (.int .u32 1426881987), .lit (.int .u32 1925078388), .lit (.int .u32 2162078206), .lit (.int .u32 2614888103), .lit (.int .u32 3248222580), .lit (.int .u32 3835390401), .lit (.int .u32 4022224774), .lit (.int .u32 264347078), .lit (.int .u32 604807628), .lit (.int .u32 770255983), .lit (.int .u32 1249150122), .lit (.int .u32 1555081692), .lit (.int .u32 1996064986), .lit (.int .u32 2554220882), .lit (.int .u32 2821834349), .lit (.int .u32 2952996808), .lit (.int .u32 3210313671), .lit (.int .u32 3336571891), .lit (.int .u32 3584528711), .lit (.int .u32 113926993), .lit (.int .u32 338241895), .lit (.int .u32 666307205), .lit (.int .u32 773529912), .lit (.int .u32 1294757372), .lit (.int .u32 1396182291), .lit (.int .u32 1695183700), .lit (.int .u32 1986661051), .lit (.int .u32 2177026350), .lit (.int .u32 2456956037), .lit (.int .u32 2730485921), .lit (.int .u32 2820302411), .lit (.int .u32 3259730800), .lit (.int .u32 3345764771), .lit (.int .u32 3516065817), .lit (.int .u32 3600352804), .lit (.int .u32 4094571909), .lit (.int .u32 275423344), .lit (.int .u32 430227734), .lit (.int .u32 506948616), .lit (.int .u32 659060556), .lit (.int .u32 883997877), .lit (.int .u32 958139571), .lit (.int .u32 1322822218), .lit (.int .u32 1537002063), .lit (.int .u32 1747873779), .lit (.int .u32 1955562222), .lit (.int .u32 2024104815), .lit (.int .u32 2227730452), .lit (.int .u32 2361852424), .lit (.int .u32 2428436474), .lit (.int .u32 2756734187), .lit (.int .u32 3204031479), .lit (.int .u32 3329325298)]
def laid_errors_errorType {H : Type} : DataW H := .iface "internal/reflectlite.rtype" (.agg [.ptr (.lit (.string [101, 114, 114, 111, 114]))])
def laid_caisson_nodes_sizes {H : Type} : DataW H := .agg [.lit (.int .i64 45), .lit (.int .i64 33)]
def laid_caisson_stores_errPoison {H : Type} : DataW H := .iface "*errors.errorString" (.ptr (.agg [.lit (.string [116, 104, 101, 32, 115, 116, 111, 114, 101, 32, 105, 115, 32, 112, 111, 105, 115, 111, 110, 101, 100])]))

/-- 'caissontop.TopMoved': WHATEVER THE INPUT: true; the input reads as it did. -/
def topMovedSpec : ChangeSpec := { name := "topMoved", fn := fun _ => fun
  | [d1, d2, d3] => { results := [.lit (.bool true)], args := [d1, d2, d3] }
  | _ => none }
def topMovedRow : OpenClaim := { program := "ytbobhnldhpjdlaagreatdoor", sum := "76cc3ff4f293673aecb0cdf2dd5909093a3ca749751a54bb8dda51f9586f8eeb", func := "caisson/caissontop.TopMoved", spec := "topMoved", inPlace := ["internal/reflectlite.ValueOf", "(internal/reflectlite.Value).Type", "(internal/reflectlite.Value).IsNil", "internal/reflectlite.TypeOf", "(internal/reflectlite.Value).Elem", "(internal/reflectlite.Value).Set"], unfollowed := true, recurses := true, named := ["caisson/nodes.sizes", "caisson/digests.initial", "caisson/digests.constants", "errors.errorType", "caisson/stores.errPoison"], plainKeys := false, apart := false, laid := [("caisson/digests.initial", laid_caisson_digests_initial), ("caisson/digests.constants", laid_caisson_digests_constants), ("errors.errorType", laid_errors_errorType), ("caisson/nodes.sizes", laid_caisson_nodes_sizes), ("caisson/stores.errPoison", laid_caisson_stores_errPoison)] }
def TopMovedSaid : Prop := topMovedRow.holds Tryz.pinned (OpenSpec.ofChange topMovedSpec)

/-- ITS FALSE NEIGHBOUR: 'it returns false'. Refute it at one input. -/
def topMovedWrong : ChangeSpec := { name := "topMoved", fn := fun _ => fun
  | [d1, d2, d3] => { results := [.lit (.bool false)], args := [d1, d2, d3] }
  | _ => none }
def TopMovedWrongFalsely : Prop := topMovedRow.holds Tryz.pinned (OpenSpec.ofChange topMovedWrong)

/-- 'caissontop.TopDisk': WHATEVER THE INPUT: true; the input reads as it did. -/
def topDiskSpec : ChangeSpec := { name := "topDisk", fn := fun _ => fun
  | [d1, d2] => { results := [.lit (.bool true)], args := [d1, d2] }
  | _ => none }
def topDiskRow : OpenClaim := { program := "ytbobhnldhpjdlaagreatdoor", sum := "76cc3ff4f293673aecb0cdf2dd5909093a3ca749751a54bb8dda51f9586f8eeb", func := "caisson/caissontop.TopDisk", spec := "topDisk", inPlace := ["internal/reflectlite.ValueOf", "(internal/reflectlite.Value).Type", "(internal/reflectlite.Value).IsNil", "internal/reflectlite.TypeOf", "(internal/reflectlite.Value).Elem", "(internal/reflectlite.Value).Set"], unfollowed := true, recurses := true, named := ["caisson/nodes.sizes", "caisson/digests.initial", "caisson/digests.constants", "errors.errorType", "caisson/stores.errPoison"], plainKeys := false, apart := false, laid := [("caisson/digests.initial", laid_caisson_digests_initial), ("caisson/digests.constants", laid_caisson_digests_constants), ("errors.errorType", laid_errors_errorType), ("caisson/nodes.sizes", laid_caisson_nodes_sizes), ("caisson/stores.errPoison", laid_caisson_stores_errPoison)] }
def TopDiskSaid : Prop := topDiskRow.holds Tryz.pinned (OpenSpec.ofChange topDiskSpec)

/-- ITS FALSE NEIGHBOUR: 'it returns false'. Refute it at one input. -/
def topDiskWrong : ChangeSpec := { name := "topDisk", fn := fun _ => fun
  | [d1, d2] => { results := [.lit (.bool false)], args := [d1, d2] }
  | _ => none }
def TopDiskWrongFalsely : Prop := topDiskRow.holds Tryz.pinned (OpenSpec.ofChange topDiskWrong)

/-- 'caissontop.TopOld': WHATEVER THE INPUT: true; the input reads as it did. -/
def topOldSpec : ChangeSpec := { name := "topOld", fn := fun _ => fun
  | [d] => { results := [.lit (.bool true)], args := [d] }
  | _ => none }
def topOldRow : OpenClaim := { program := "ytbobhnldhpjdlaagreatdoor", sum := "76cc3ff4f293673aecb0cdf2dd5909093a3ca749751a54bb8dda51f9586f8eeb", func := "caisson/caissontop.TopOld", spec := "topOld", inPlace := ["internal/reflectlite.ValueOf", "(internal/reflectlite.Value).Type", "(internal/reflectlite.Value).IsNil", "internal/reflectlite.TypeOf", "(internal/reflectlite.Value).Elem", "(internal/reflectlite.Value).Set"], unfollowed := true, recurses := true, named := ["caisson/nodes.sizes", "caisson/digests.initial", "caisson/digests.constants", "errors.errorType", "caisson/stores.errPoison"], plainKeys := false, apart := false, laid := [("caisson/digests.initial", laid_caisson_digests_initial), ("caisson/digests.constants", laid_caisson_digests_constants), ("errors.errorType", laid_errors_errorType), ("caisson/nodes.sizes", laid_caisson_nodes_sizes), ("caisson/stores.errPoison", laid_caisson_stores_errPoison)] }
def TopOldSaid : Prop := topOldRow.holds Tryz.pinned (OpenSpec.ofChange topOldSpec)

/-- ITS FALSE NEIGHBOUR: 'it returns false'. Refute it at one input. -/
def topOldWrong : ChangeSpec := { name := "topOld", fn := fun _ => fun
  | [d] => { results := [.lit (.bool false)], args := [d] }
  | _ => none }
def TopOldWrongFalsely : Prop := topOldRow.holds Tryz.pinned (OpenSpec.ofChange topOldWrong)

/-- 'caissontop.TopRecovered': WHATEVER THE INPUT: true; the input reads as it did. -/
def topRecoveredSpec : ChangeSpec := { name := "topRecovered", fn := fun _ => fun
  | [d] => { results := [.lit (.bool true)], args := [d] }
  | _ => none }
def topRecoveredRow : OpenClaim := { program := "ytbobhnldhpjdlaagreatdoor", sum := "76cc3ff4f293673aecb0cdf2dd5909093a3ca749751a54bb8dda51f9586f8eeb", func := "caisson/caissontop.TopRecovered", spec := "topRecovered", inPlace := ["internal/reflectlite.ValueOf", "(internal/reflectlite.Value).Type", "(internal/reflectlite.Value).IsNil", "internal/reflectlite.TypeOf", "(internal/reflectlite.Value).Elem", "(internal/reflectlite.Value).Set"], unfollowed := true, recurses := true, named := ["caisson/nodes.sizes", "caisson/digests.initial", "caisson/digests.constants", "errors.errorType", "caisson/stores.errPoison"], plainKeys := false, apart := false, laid := [("caisson/digests.initial", laid_caisson_digests_initial), ("caisson/digests.constants", laid_caisson_digests_constants), ("errors.errorType", laid_errors_errorType), ("caisson/nodes.sizes", laid_caisson_nodes_sizes), ("caisson/stores.errPoison", laid_caisson_stores_errPoison)] }
def TopRecoveredSaid : Prop := topRecoveredRow.holds Tryz.pinned (OpenSpec.ofChange topRecoveredSpec)

/-- ITS FALSE NEIGHBOUR: 'it returns false'. Refute it at one input. -/
def topRecoveredWrong : ChangeSpec := { name := "topRecovered", fn := fun _ => fun
  | [d] => { results := [.lit (.bool false)], args := [d] }
  | _ => none }
def TopRecoveredWrongFalsely : Prop := topRecoveredRow.holds Tryz.pinned (OpenSpec.ofChange topRecoveredWrong)

/-- 'caissontop.TopLog': WHATEVER THE INPUT: true; the input reads as it did. -/
def topLogSpec : ChangeSpec := { name := "topLog", fn := fun _ => fun
  | [d] => { results := [.lit (.bool true)], args := [d] }
  | _ => none }
def topLogRow : OpenClaim := { program := "ytbobhnldhpjdlaagreatdoor", sum := "76cc3ff4f293673aecb0cdf2dd5909093a3ca749751a54bb8dda51f9586f8eeb", func := "caisson/caissontop.TopLog", spec := "topLog", inPlace := ["internal/reflectlite.ValueOf", "(internal/reflectlite.Value).Type", "(internal/reflectlite.Value).IsNil", "internal/reflectlite.TypeOf", "(internal/reflectlite.Value).Elem", "(internal/reflectlite.Value).Set"], unfollowed := true, recurses := true, named := ["caisson/nodes.sizes", "caisson/digests.initial", "caisson/digests.constants", "errors.errorType", "caisson/stores.errPoison"], plainKeys := false, apart := false, laid := [("caisson/digests.initial", laid_caisson_digests_initial), ("caisson/digests.constants", laid_caisson_digests_constants), ("errors.errorType", laid_errors_errorType), ("caisson/nodes.sizes", laid_caisson_nodes_sizes), ("caisson/stores.errPoison", laid_caisson_stores_errPoison)] }
def TopLogSaid : Prop := topLogRow.holds Tryz.pinned (OpenSpec.ofChange topLogSpec)

/-- ITS FALSE NEIGHBOUR: 'it returns false'. Refute it at one input. -/
def topLogWrong : ChangeSpec := { name := "topLog", fn := fun _ => fun
  | [d] => { results := [.lit (.bool false)], args := [d] }
  | _ => none }
def TopLogWrongFalsely : Prop := topLogRow.holds Tryz.pinned (OpenSpec.ofChange topLogWrong)

/- THE SECOND FORM. 'bulk': how many values and letters a reading holds, each counted each time it is reached (what is shared counts as often as it is met; a slice's spare places count too). A statement '..UptoSaid' is the law's where the arguments, and the package variables that the reading takes, are together of bulk at most 1048576: NARROWER than '..Said'. Prove '..Said' where nothing that the law and all that it calls make is longer than what came in: it says more and counts as full. Else prove '..UptoSaid'. A law counts once. -/
mutual
def uptoBulk {H : Type} : DataW H → Nat
  | .lit (.string bytes) => bytes.length + 1
  | .lit _ => 1
  | .nil => 1
  | .ptr d => uptoBulk d + 1
  | .slice elems spare => uptoBulkAll elems + uptoBulkAll spare + 1
  | .agg parts => uptoBulkAll parts + 1
  | .iface _ d => uptoBulk d + 1
  | .map entries => uptoBulkEntries entries + 1
  | .held _ => 1
def uptoBulkAll {H : Type} : List (DataW H) → Nat
  | [] => 0
  | d :: r => uptoBulk d + uptoBulkAll r
def uptoBulkEntries {H : Type} : List (Lit × DataW H) → Nat
  | [] => 0
  | x :: r => uptoBulkEntry x + uptoBulkEntries r
def uptoBulkEntry {H : Type} : Lit × DataW H → Nat
  | (.string bytes, d) => bytes.length + uptoBulk d + 1
  | (_, d) => uptoBulk d + 1
 end
def uptoSmall : (H : Type) → List (DataW H) → Bool := fun _ ds => decide (uptoBulkAll ds ≤ 1048576)
def OpenSpec.upto (s : _root_.Go.ChangeSpec) : _root_.Go.OpenSpec := { _root_.Go.OpenSpec.ofChange s with cond := some uptoSmall }

/-- 'caissontop.TopMoved', WHERE WHAT IT READS IS OF BULK AT MOST 1048576: true; the input reads as it did. -/
def topMovedUptoRow : OpenClaim := { program := "ytbobhnldhpjdlaagreatdoor", sum := "76cc3ff4f293673aecb0cdf2dd5909093a3ca749751a54bb8dda51f9586f8eeb", func := "caisson/caissontop.TopMoved", spec := "topMoved", inPlace := ["internal/reflectlite.ValueOf", "(internal/reflectlite.Value).Type", "(internal/reflectlite.Value).IsNil", "internal/reflectlite.TypeOf", "(internal/reflectlite.Value).Elem", "(internal/reflectlite.Value).Set"], unfollowed := true, recurses := true, named := ["caisson/nodes.sizes", "caisson/digests.initial", "caisson/digests.constants", "errors.errorType", "caisson/stores.errPoison"], plainKeys := false, apart := false, laid := [("caisson/digests.initial", laid_caisson_digests_initial), ("caisson/digests.constants", laid_caisson_digests_constants), ("errors.errorType", laid_errors_errorType), ("caisson/nodes.sizes", laid_caisson_nodes_sizes), ("caisson/stores.errPoison", laid_caisson_stores_errPoison)], narrowed := true }
def TopMovedUptoSaid : Prop := topMovedUptoRow.holds Tryz.pinned (OpenSpec.upto topMovedSpec)

/-- 'caissontop.TopDisk', WHERE WHAT IT READS IS OF BULK AT MOST 1048576: true; the input reads as it did. -/
def topDiskUptoRow : OpenClaim := { program := "ytbobhnldhpjdlaagreatdoor", sum := "76cc3ff4f293673aecb0cdf2dd5909093a3ca749751a54bb8dda51f9586f8eeb", func := "caisson/caissontop.TopDisk", spec := "topDisk", inPlace := ["internal/reflectlite.ValueOf", "(internal/reflectlite.Value).Type", "(internal/reflectlite.Value).IsNil", "internal/reflectlite.TypeOf", "(internal/reflectlite.Value).Elem", "(internal/reflectlite.Value).Set"], unfollowed := true, recurses := true, named := ["caisson/nodes.sizes", "caisson/digests.initial", "caisson/digests.constants", "errors.errorType", "caisson/stores.errPoison"], plainKeys := false, apart := false, laid := [("caisson/digests.initial", laid_caisson_digests_initial), ("caisson/digests.constants", laid_caisson_digests_constants), ("errors.errorType", laid_errors_errorType), ("caisson/nodes.sizes", laid_caisson_nodes_sizes), ("caisson/stores.errPoison", laid_caisson_stores_errPoison)], narrowed := true }
def TopDiskUptoSaid : Prop := topDiskUptoRow.holds Tryz.pinned (OpenSpec.upto topDiskSpec)

/-- 'caissontop.TopOld', WHERE WHAT IT READS IS OF BULK AT MOST 1048576: true; the input reads as it did. -/
def topOldUptoRow : OpenClaim := { program := "ytbobhnldhpjdlaagreatdoor", sum := "76cc3ff4f293673aecb0cdf2dd5909093a3ca749751a54bb8dda51f9586f8eeb", func := "caisson/caissontop.TopOld", spec := "topOld", inPlace := ["internal/reflectlite.ValueOf", "(internal/reflectlite.Value).Type", "(internal/reflectlite.Value).IsNil", "internal/reflectlite.TypeOf", "(internal/reflectlite.Value).Elem", "(internal/reflectlite.Value).Set"], unfollowed := true, recurses := true, named := ["caisson/nodes.sizes", "caisson/digests.initial", "caisson/digests.constants", "errors.errorType", "caisson/stores.errPoison"], plainKeys := false, apart := false, laid := [("caisson/digests.initial", laid_caisson_digests_initial), ("caisson/digests.constants", laid_caisson_digests_constants), ("errors.errorType", laid_errors_errorType), ("caisson/nodes.sizes", laid_caisson_nodes_sizes), ("caisson/stores.errPoison", laid_caisson_stores_errPoison)], narrowed := true }
def TopOldUptoSaid : Prop := topOldUptoRow.holds Tryz.pinned (OpenSpec.upto topOldSpec)

/-- 'caissontop.TopRecovered', WHERE WHAT IT READS IS OF BULK AT MOST 1048576: true; the input reads as it did. -/
def topRecoveredUptoRow : OpenClaim := { program := "ytbobhnldhpjdlaagreatdoor", sum := "76cc3ff4f293673aecb0cdf2dd5909093a3ca749751a54bb8dda51f9586f8eeb", func := "caisson/caissontop.TopRecovered", spec := "topRecovered", inPlace := ["internal/reflectlite.ValueOf", "(internal/reflectlite.Value).Type", "(internal/reflectlite.Value).IsNil", "internal/reflectlite.TypeOf", "(internal/reflectlite.Value).Elem", "(internal/reflectlite.Value).Set"], unfollowed := true, recurses := true, named := ["caisson/nodes.sizes", "caisson/digests.initial", "caisson/digests.constants", "errors.errorType", "caisson/stores.errPoison"], plainKeys := false, apart := false, laid := [("caisson/digests.initial", laid_caisson_digests_initial), ("caisson/digests.constants", laid_caisson_digests_constants), ("errors.errorType", laid_errors_errorType), ("caisson/nodes.sizes", laid_caisson_nodes_sizes), ("caisson/stores.errPoison", laid_caisson_stores_errPoison)], narrowed := true }
def TopRecoveredUptoSaid : Prop := topRecoveredUptoRow.holds Tryz.pinned (OpenSpec.upto topRecoveredSpec)

/-- 'caissontop.TopLog', WHERE WHAT IT READS IS OF BULK AT MOST 1048576: true; the input reads as it did. -/
def topLogUptoRow : OpenClaim := { program := "ytbobhnldhpjdlaagreatdoor", sum := "76cc3ff4f293673aecb0cdf2dd5909093a3ca749751a54bb8dda51f9586f8eeb", func := "caisson/caissontop.TopLog", spec := "topLog", inPlace := ["internal/reflectlite.ValueOf", "(internal/reflectlite.Value).Type", "(internal/reflectlite.Value).IsNil", "internal/reflectlite.TypeOf", "(internal/reflectlite.Value).Elem", "(internal/reflectlite.Value).Set"], unfollowed := true, recurses := true, named := ["caisson/nodes.sizes", "caisson/digests.initial", "caisson/digests.constants", "errors.errorType", "caisson/stores.errPoison"], plainKeys := false, apart := false, laid := [("caisson/digests.initial", laid_caisson_digests_initial), ("caisson/digests.constants", laid_caisson_digests_constants), ("errors.errorType", laid_errors_errorType), ("caisson/nodes.sizes", laid_caisson_nodes_sizes), ("caisson/stores.errPoison", laid_caisson_stores_errPoison)], narrowed := true }
def TopLogUptoSaid : Prop := topLogUptoRow.holds Tryz.pinned (OpenSpec.upto topLogSpec)

end Rows
end Go.Proofs.YtbobhnldhpjdlaaGreatDoor
