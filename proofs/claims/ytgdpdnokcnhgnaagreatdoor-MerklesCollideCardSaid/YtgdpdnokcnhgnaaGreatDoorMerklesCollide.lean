/- MerklesCollide: for every input the Go function returns true, and every argument reads afterwards as it read before; no condition beyond those of the given row. -/
import Derived.Test.YtgdpdnokcnhgnaaGreatDoorK2
import Derived.Test.YtgdpdnokcnhgnaaGreatDoorRows
import Derived.ProofKit
import Derived.OpenShut
import Derived.ShutString
import Derived.ChangeOld
import Derived.Below
import Derived.Test.YtgdpdnokcnhgnaaGreatDoorTie
import Derived.Test.YtgdpdnokcnhgnaaGreatDoorCards
import Derived.LaidMore
import Derived.LaidHandle
import Derived.Stop.Joined
import Derived.SevenTiedAt
set_option linter.all false
set_option linter.unusedVariables false
namespace Go.Proofs.YtgdpdnokcnhgnaaGreatDoor
open Go.ChangeShapes Go.WideShapes Go.ChangeAt Go.RowKit Go.Cs
theorem zwf:ownKnob Tryz.prog.godebug=none:=by kernel_rfl
theorem zwc:laidOutB Tryz.prog=true:=by kernel_rfl
theorem zwg (os:Os) (args:Array Value):laidMetH Tryz.prog [("caisson/digests.initial",Rows.laid_caisson_digests_initial),("caisson/digests.constants",Rows.laid_caisson_digests_constants),("errors.errorType",Rows.laid_errors_errorType),("caisson/nodes.sizes",Rows.laid_caisson_nodes_sizes)] ((World.doorLaid Tryz.prog 400 os).forCall (fun _ _=>0) ⟨#[],args, []⟩).memory:=by
 have hd:laidMet Tryz.prog [("caisson/digests.initial",Rows.laid_caisson_digests_initial),("caisson/digests.constants",Rows.laid_caisson_digests_constants),("caisson/nodes.sizes",Rows.laid_caisson_nodes_sizes)] ((World.doorLaid Tryz.prog 400 os).forCall (fun _ _=>0) ⟨#[],args, []⟩).memory:=laidMet_of_run' 8 (by kernel_rfl) (by kernel_rfl)
 exact laidMetH_of_parts hd (by kernel_rfl)
theorem zwd {W:World} (h:laidMetH Tryz.prog [("caisson/digests.initial",Rows.laid_caisson_digests_initial),("caisson/digests.constants",Rows.laid_caisson_digests_constants),("errors.errorType",Rows.laid_errors_errorType),("caisson/nodes.sizes",Rows.laid_caisson_nodes_sizes)] W):Gl 2 (w8C za2) W∧Gl 3 (zR kA) W∧Gl 1 [.iface 199 (.agg #[.pointer (some ⟨4,99,none⟩)])] W∧Gl 0 [vI 45,vI 33] W:=by
 have h2:laidMet Tryz.prog [("caisson/digests.initial",Rows.laid_caisson_digests_initial),("caisson/digests.constants",Rows.laid_caisson_digests_constants),("caisson/nodes.sizes",Rows.laid_caisson_nodes_sizes)] W∧handlesMet Tryz.prog [("errors.errorType",Rows.laid_errors_errorType)] W:=h
 obtain ⟨name,u,ty,e1,e2,e3,e4,e5⟩:=h2.2 _ (List.mem_singleton.2 rfl)
 have en:name= [101,114,114,111,114]:=(Option.some.inj e1).symm
 subst en
 obtain rfl:=Option.some.inj ((show (Tryz.prog.cutTypes.find? (·.1== "internal/reflectlite.rtype")).map (·.2)=some 199 by kernel_rfl).symm.trans e2)
 have hm:ty∈(List.range 247).filter fun t=>Tryz.prog.rowNamed t [101,114,114,111,114]:=List.mem_filter.2 ⟨List.mem_range.2 (by rw [←(show Tryz.prog.types.size=247 by kernel_rfl)];exact e3),e4⟩
 rw [show ((List.range 247).filter fun t=>Tryz.prog.rowNamed t [101,114,114,111,114])= [99] by kernel_rfl] at hm
 obtain rfl:=List.mem_singleton.1 hm
 rw [show typeHandle Tryz.prog 99= .pointer (some ⟨4,99,none⟩) by kernel_rfl] at e5
 replace h:=h2.1
 obtain ⟨ps,⟨g0,t0,cs0,f0,p0,q0,hg0,ht0,hv0,hd0,⟨g1,t1,cs1,f1,p1,q1,hg1,ht1,hv1,hd1,⟨g2,t2,cs2,f2,p2,q2,hg2,ht2,hv2,hd2,_,_⟩,_⟩,_⟩,_,_⟩:=h
 obtain rfl:=Option.some.inj ((show Tryz.prog.globalNamed "caisson/digests.initial" =some 2 by kernel_rfl).symm.trans hg0)
 obtain rfl:=Option.some.inj ((show (Tryz.prog.globals[2]?).map (·.type)=some 150 by kernel_rfl).symm.trans ht0)
 have hc0:=ze7 (e:=28) (k:= .u32) (n:=8) (ns:= [1779033703,3144134277,1013904242,2773480762,1359893119,2600822924,528734635,1541459225]) hd0 (by kernel_rfl) (by kernel_rfl) (by kernel_rfl) (by kernel_rfl)
 obtain rfl:=Option.some.inj ((show Tryz.prog.globalNamed "caisson/digests.constants" =some 3 by kernel_rfl).symm.trans hg1)
 obtain rfl:=Option.some.inj ((show (Tryz.prog.globals[3]?).map (·.type)=some 149 by kernel_rfl).symm.trans ht1)
 have hc1:=ze7 (e:=28) (k:= .u32) (n:=64) (ns:= [1116352408,1899447441,3049323471,3921009573,961987163,1508970993,2453635748,2870763221,3624381080,310598401,607225278,1426881987,1925078388,2162078206,2614888103,3248222580,3835390401,4022224774,264347078,604807628,770255983,1249150122,1555081692,1996064986,2554220882,2821834349,2952996808,3210313671,3336571891,3584528711,113926993,338241895,666307205,773529912,1294757372,1396182291,1695183700,1986661051,2177026350,2456956037,2730485921,2820302411,3259730800,3345764771,3516065817,3600352804,4094571909,275423344,430227734,506948616,659060556,883997877,958139571,1322822218,1537002063,1747873779,1955562222,2024104815,2227730452,2361852424,2428436474,2756734187,3204031479,3329325298]) hd1 (by kernel_rfl) (by kernel_rfl) (by kernel_rfl) (by kernel_rfl)
 obtain rfl:=Option.some.inj ((show Tryz.prog.globalNamed "caisson/nodes.sizes" =some 0 by kernel_rfl).symm.trans hg2)
 obtain rfl:=Option.some.inj ((show (Tryz.prog.globals[0]?).map (·.type)=some 158 by kernel_rfl).symm.trans ht2)
 have hc2:=ze7 (e:=3) (k:= .i64) (n:=2) (ns:= [45,33]) hd2 (by kernel_rfl) (by kernel_rfl) (by kernel_rfl) (by kernel_rfl)
 exact ⟨(show (List.map (fun z:Int=>Value.int .u32 z) [1779033703,3144134277,1013904242,2773480762,1359893119,2600822924,528734635,1541459225])=w8C za2 by kernel_rfl)▸ziR hg0 hv0 hc0,(show (List.map (fun z:Int=>Value.int .u32 z) [1116352408,1899447441,3049323471,3921009573,961987163,1508970993,2453635748,2870763221,3624381080,310598401,607225278,1426881987,1925078388,2162078206,2614888103,3248222580,3835390401,4022224774,264347078,604807628,770255983,1249150122,1555081692,1996064986,2554220882,2821834349,2952996808,3210313671,3336571891,3584528711,113926993,338241895,666307205,773529912,1294757372,1396182291,1695183700,1986661051,2177026350,2456956037,2730485921,2820302411,3259730800,3345764771,3516065817,3600352804,4094571909,275423344,430227734,506948616,659060556,883997877,958139571,1322822218,1537002063,1747873779,1955562222,2024104815,2227730452,2361852424,2428436474,2756734187,3204031479,3329325298])=zR kA by kernel_rfl)▸ziR hg1 hv1 hc1,ziR (show Tryz.prog.globalNamed "errors.errorType" =some 1 by kernel_rfl) e5 rfl,ziR hg2 hv2 hc2⟩
set_option maxRecDepth 100000 in
theorem zwe (os:Os) (started:os.Started) (H:Type) (enc:TypeId×Value→H):
  ReturnsInHanded {} Tryz.checked os 8 .any (fun w args=>(Rows.merklesCollideSpec.pre enc Tryz.prog Tryz.f8 [] false w args∧laidMetH Tryz.prog [("caisson/digests.initial",Rows.laid_caisson_digests_initial),("caisson/digests.constants",Rows.laid_caisson_digests_constants),("errors.errorType",Rows.laid_errors_errorType),("caisson/nodes.sizes",Rows.laid_caisson_nodes_sizes)] w)∧sizedMet enc Tryz.prog Tryz.f8 (OpenSpec.ofChange Rows.merklesCollideSpec) false w args) (Rows.merklesCollideSpec.post enc Tryz.prog Tryz.f8 false true false false):=by
 refine returnsInHanded_of_change_and (C:=Tryz.checked) (X:=fun w _=>laidMetH Tryz.prog [("caisson/digests.initial",Rows.laid_caisson_digests_initial),("caisson/digests.constants",Rows.laid_caisson_digests_constants),("errors.errorType",Rows.laid_errors_errorType),("caisson/nodes.sizes",Rows.laid_caisson_nodes_sizes)] w) (fun _ _ _ hh h=>h.of_heap hh) zwf started (by kernel_rfl) Tryz.func8
  (ChangeSpec.witness_shaped (enc:=enc) (C:=Tryz.checked) (os:=os) (X:=fun w _=>laidMetH Tryz.prog [("caisson/digests.initial",Rows.laid_caisson_digests_initial),("caisson/digests.constants",Rows.laid_caisson_digests_constants),("errors.errorType",Rows.laid_errors_errorType),("caisson/nodes.sizes",Rows.laid_caisson_nodes_sizes)] w) false (World.doorLaid Tryz.prog 400 os) #[.int .i64 0, .agg (zw Dig.zero:List Value).toArray, .agg ((([.int .i64 0])++([.slice none 0 0]))++(([.int .i64 0])++([.slice none 0 0])):List Value).toArray] 8 rfl (World.shaped_of_RefB (by kernel_rfl) (by kernel_rfl)) (by kernel_rfl) (by kernel_rfl) (by kernel_rfl) (zwg os _)) ?_
 intro W base args ds gs before hval0 hW _ hcnd hL _
 have hval:∀(j:Nat) t v,Tryz.f8.params[j]? =some t→args[j]? =some v→Value.okWide Tryz.prog W .any base t v:=hval0
 have hW':=hW
 obtain ⟨p,q,hA0,hV,rfl,hfz,hnd⟩:=hW
 have hGl:=zwd hL
 have hA:DataW.TrodAll enc Tryz.prog W 0 (fun _=>true) true Tryz.f8.params.toList args.toList ds p:=hA0
 rw [Tryz.params8] at hA hval
 obtain ⟨v0,vs0,d0,ds0,p0,q0,hargs,rfl,rfl,h0,r0⟩:=trodAll_cons hA
 obtain ⟨v1,vs1,d1,ds1,p1,q1,rfl,rfl,rfl,h1,r1⟩:=trodAll_cons r0
 obtain ⟨v2,vs2,d2,ds2,p2,q2,rfl,rfl,rfl,h2,r2⟩:=trodAll_cons r1
 obtain ⟨rfl,rfl,rfl⟩:=trodAll_nil r2
 obtain rfl:args= #[v0,v1,v2]:=by cases args;simp_all
 obtain ⟨rfl,rfl⟩:=trodVars_none hV
 have k0:=h0
 have lt0:∀x∈p0,x.block<W.heap.size:=by obtain ⟨m,hm⟩:=k0;exact DataW.trod_lt m _ _ _ hm
 obtain ⟨y0,rfl,_,_,g0⟩:=open_int Tryz.underlying3 (hval 0 3 v0 rfl rfl) h0
 have bd0:=bounds_i64 g0
 have k1:=h1
 have lt1:∀x∈p1,x.block<W.heap.size:=by obtain ⟨m,hm⟩:=k1;exact DataW.trod_lt m _ _ _ hm
 obtain ⟨cs1,rfl,_⟩:=zqY Tryz.underlying23 (hval 1 23 v1 rfl rfl)
 have R1:Rd enc Tryz.prog W 0 (fun _=>true) true 23 cs1.toList:=by obtain ⟨fuel,hf⟩:=h1;exact ⟨fuel,_,hf⟩
 obtain ⟨x1_1,e1_2⟩:=zjG (t:=23) (e:=5) R1 (by kernel_rfl) (by kernel_rfl) (by kernel_rfl) (by kernel_rfl)
 obtain rfl:cs1=(zw x1_1:List Value).toArray:=by rw [←e1_2]
 have k2:=h2
 have lt2:∀x∈p2,x.block<W.heap.size:=by obtain ⟨m,hm⟩:=k2;exact DataW.trod_lt m _ _ _ hm
 obtain ⟨cs2,rfl,_⟩:=zqY Tryz.underlying86 (hval 2 86 v2 rfl rfl)
 have R2:Rd enc Tryz.prog W 0 (fun _=>true) true 86 cs2.toList:=by obtain ⟨fuel,hf⟩:=h2;exact ⟨fuel,_,hf⟩
 obtain ⟨hl2_1,hf2_2⟩:=zc7 (n:=2) (e:=26) R2 (by kernel_rfl)
 have r2_3:=hf2_2 0 (by decide)
 rw [show Tryz.prog.cellsOf 26=2 by kernel_rfl,show 0*2=0 from rfl] at r2_3
 obtain ⟨hl2_4,hf2_5⟩:=zbT r2_3 (show zam Tryz.prog 26= [(true,3,0),(true,24,1)] by kernel_rfl)
 have r2_6:=hf2_5 (true,3,0) (by simp)
 simp only [show Tryz.prog.cellsOf 3=1 by kernel_rfl] at r2_6
 obtain ⟨x2_7,e2_8,w2_9⟩:=zcR (k:= .i64) r2_6 (by kernel_rfl)
 have b2_10:=bounds_i64 w2_9
 have r2_11:=hf2_5 (true,24,1) (by simp)
 simp only [show Tryz.prog.cellsOf 24=1 by kernel_rfl] at r2_11
 obtain ⟨a2_12,n2_13,c2_14,l2_15,e2_16,m2_17⟩:=zfB (f:=zK) (sz:=274) (t:=24) (e:=47) (fun us hu=>zqC (N:=47) (R:=42) (E:=45) (r:=33) (t8:=5) (tn:=31) (td:=23) (e:=5) (t32:=28) (t64:=29) (en:=44) hu (by kernel_rfl) (by kernel_rfl) (by kernel_rfl) (by kernel_rfl) (by kernel_rfl) (by kernel_rfl) (by kernel_rfl) (by kernel_rfl) (by kernel_rfl) (by kernel_rfl) (by kernel_rfl) (by kernel_rfl) (by kernel_rfl) (by kernel_rfl) (by kernel_rfl) (by kernel_rfl) (by kernel_rfl) (by kernel_rfl) (by kernel_rfl) (by kernel_rfl) (by kernel_rfl) (by kernel_rfl)) zW r2_11 (by kernel_rfl) (by kernel_rfl) (by decide)
 have e2_18:((cs2.toList.drop 0).take 2)= [.int .i64 x2_7, .slice a2_12 n2_13 c2_14]:=by
  have hz:((cs2.toList.drop 0).take 2).drop 0=([.int .i64 x2_7])++(([.slice a2_12 n2_13 c2_14])++([])):=ztE (cs:=((cs2.toList.drop 0).take 2)) (o:=0) (a:=1) e2_8 (ztE (cs:=((cs2.toList.drop 0).take 2)) (o:=1) (a:=1) e2_16 (zus (Nat.le_of_eq (hl2_4.trans (by kernel_rfl)))))
  rw [List.drop_zero] at hz;rw [hz];simp only [List.cons_append,List.nil_append,List.append_nil,List.append_assoc]
 have r2_19:=hf2_2 1 (by decide)
 rw [show Tryz.prog.cellsOf 26=2 by kernel_rfl,show 1*2=2 from rfl] at r2_19
 obtain ⟨hl2_20,hf2_21⟩:=zbT r2_19 (show zam Tryz.prog 26= [(true,3,0),(true,24,1)] by kernel_rfl)
 have r2_22:=hf2_21 (true,3,0) (by simp)
 simp only [show Tryz.prog.cellsOf 3=1 by kernel_rfl] at r2_22
 obtain ⟨x2_23,e2_24,w2_25⟩:=zcR (k:= .i64) r2_22 (by kernel_rfl)
 have b2_26:=bounds_i64 w2_25
 have r2_27:=hf2_21 (true,24,1) (by simp)
 simp only [show Tryz.prog.cellsOf 24=1 by kernel_rfl] at r2_27
 obtain ⟨a2_28,n2_29,c2_30,l2_31,e2_32,m2_33⟩:=zfB (f:=zK) (sz:=274) (t:=24) (e:=47) (fun us hu=>zqC (N:=47) (R:=42) (E:=45) (r:=33) (t8:=5) (tn:=31) (td:=23) (e:=5) (t32:=28) (t64:=29) (en:=44) hu (by kernel_rfl) (by kernel_rfl) (by kernel_rfl) (by kernel_rfl) (by kernel_rfl) (by kernel_rfl) (by kernel_rfl) (by kernel_rfl) (by kernel_rfl) (by kernel_rfl) (by kernel_rfl) (by kernel_rfl) (by kernel_rfl) (by kernel_rfl) (by kernel_rfl) (by kernel_rfl) (by kernel_rfl) (by kernel_rfl) (by kernel_rfl) (by kernel_rfl) (by kernel_rfl) (by kernel_rfl)) zW r2_27 (by kernel_rfl) (by kernel_rfl) (by decide)
 have e2_34:((cs2.toList.drop 2).take 2)= [.int .i64 x2_23, .slice a2_28 n2_29 c2_30]:=by
  have hz:((cs2.toList.drop 2).take 2).drop 0=([.int .i64 x2_23])++(([.slice a2_28 n2_29 c2_30])++([])):=ztE (cs:=((cs2.toList.drop 2).take 2)) (o:=0) (a:=1) e2_24 (ztE (cs:=((cs2.toList.drop 2).take 2)) (o:=1) (a:=1) e2_32 (zus (Nat.le_of_eq (hl2_20.trans (by kernel_rfl)))))
  rw [List.drop_zero] at hz;rw [hz];simp only [List.cons_append,List.nil_append,List.append_nil,List.append_assoc]
 have e2_35:cs2.toList= [.int .i64 x2_7, .slice a2_12 n2_13 c2_14, .int .i64 x2_23, .slice a2_28 n2_29 c2_30]:=by
  have hz:cs2.toList.drop 0=([.int .i64 x2_7, .slice a2_12 n2_13 c2_14])++(([.int .i64 x2_23, .slice a2_28 n2_29 c2_30])++([])):=ztE (cs:=cs2.toList) (o:=0) (a:=2) e2_18 (ztE (cs:=cs2.toList) (o:=2) (a:=2) e2_34 (zus (Nat.le_of_eq (hl2_1.trans (by kernel_rfl)))))
  rw [List.drop_zero] at hz;rw [hz];simp only [List.cons_append,List.nil_append,List.append_nil,List.append_assoc]
 obtain rfl:cs2=([.int .i64 x2_7, .slice a2_12 n2_13 c2_14, .int .i64 x2_23, .slice a2_28 n2_29 c2_30]:List Value).toArray:=by rw [←e2_35]
 clear hA0 hval0
 refine (zwh y0 x1_1 x2_7 x2_23 W m2_17 m2_33 hGl.2.2.2 hGl.1 hGl.2.1 hGl.2.2.1).mono ?_
 rintro e W' ⟨v,rfl,rfl,hx⟩
 have bel:=hx.below
 exact ⟨_,rfl,_,_,_, [],_, [],hW',trodAll_mk1 (shut_bool Tryz.underlying4 _),(trodAll_cons_mk (Below.trod zwc (by kernel_rfl) (of_decide_eq_true (by kernel_rfl)) k0 bel lt0) (trodAll_cons_mk (Below.trod zwc (by kernel_rfl) (of_decide_eq_true (by kernel_rfl)) k1 bel lt1) (trodAll_cons_mk (Below.trod zwc (by kernel_rfl) (of_decide_eq_true (by kernel_rfl)) k2 bel lt2) trodAll_mk0))),rfl,bel.frame _,fun h=>by cases h⟩
theorem merklesCollide_holds:Rows.MerklesCollideSaid:=
 OpenClaim.holds_of_wide 8 Tryz.f8 rfl rfl rfl rfl rfl rfl rfl ⟨rfl,rfl,rfl,rfl,rfl⟩ rfl rfl rfl rfl rfl (by kernel_rfl) Tryz.func8 (by kernel_rfl)
  (of_decide_eq_true (by kernel_rfl)) (by unfold Func.isWrapper;rw [if_neg (of_decide_eq_false (by kernel_rfl))];exact ⟨rfl,rfl⟩)
  (fun os started H enc _=>zwe os started H enc)
theorem merklesCollide_card:Rows.MerklesCollideCardSaid:=
 Claim7.holds_tied_plain_at .later [] [.data, .data, .handle, .data] true (true, "6aa026e750886c4bf6a95e1958a74a1b2759d4696432bee37e2bbbf2e7fb69fe") true
  merklesCollide_holds (fun _ h=>by cases h) (by kernel_rfl) (fun _ h=>by cases h) merklesCollide_row_tie rfl ⟨rfl,rfl⟩ (by kernel_rfl) rfl
  (fun f fn hf hfn=>by
   obtain rfl:f=8:=Option.some.inj ((show Tryz.prog.funcNamed "caisson/caissonlaw16.MerklesCollide" =some 8 by kernel_rfl).symm.trans hf)|>.symm
   obtain rfl:fn=Tryz.f8:=(Option.some.inj (Tryz.func8.symm.trans hfn)).symm
   exact ⟨by kernel_rfl,fun j t ht=>by
    rw [Tryz.params8] at ht
    have hm:t∈([3,23,86]:List Nat):=by simpa using Array.mem_of_getElem? ht
    have hall:(([3,23,86]:List Nat).all fun u=> !Tryz.prog.wantsStandIn u)=true:=by kernel_rfl
    exact (show Tryz.prog.wantsStandIn t=false by simpa using List.all_eq_true.1 hall t hm)⟩)
  (by kernel_rfl)
end Go.Proofs.YtgdpdnokcnhgnaaGreatDoor
