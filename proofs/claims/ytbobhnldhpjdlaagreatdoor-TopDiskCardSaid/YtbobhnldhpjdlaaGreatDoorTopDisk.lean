/- TopDisk: for every input the Go function returns true, and every argument reads afterwards as it read before; no condition beyond those of the given row. -/
import Derived.Test.YtbobhnldhpjdlaaGreatDoorP52
import Derived.Test.YtbobhnldhpjdlaaGreatDoorP53
import Derived.Test.YtbobhnldhpjdlaaGreatDoorRows
import Derived.ProofKit
import Derived.OpenShut
import Derived.ShutString
import Derived.ChangeOld
import Derived.Below
import Derived.Test.YtbobhnldhpjdlaaGreatDoorTie
import Derived.Test.YtbobhnldhpjdlaaGreatDoorCards
import Derived.LaidMore
import Derived.LaidHandle
import Derived.Stop.Joined
import Derived.Stop.LaidErr
import Derived.SevenTiedAt
set_option linter.all false
set_option linter.unusedVariables false
namespace Go.Proofs.YtbobhnldhpjdlaaGreatDoor
open Go.ChangeShapes Go.WideShapes Go.ChangeAt Go.RowKit Go.Cs Go.Cz
theorem qf:ownKnob Tryz.prog.godebug=none:=by kernel_rfl
theorem kD:laidOutB Tryz.prog=true:=by kernel_rfl
theorem sI (u:TypeId) (h:Tryz.prog.typeName? 3 u=some "*errors.errorString"):u=548:=
 have st: "*" ++ "errors.errorString" = "*errors.errorString" :=by decide
 typeName_ptr_named (nm:= "errors.errorString") (by rw [st];kernel_rfl) (by kernel_rfl) (by decide) u (by rw [st];exact h)
theorem rg (os:Os) (args:Array Value):laidMetH Tryz.prog [("caisson/digests.initial",Rows.laid_caisson_digests_initial),("caisson/digests.constants",Rows.laid_caisson_digests_constants),("errors.errorType",Rows.laid_errors_errorType),("caisson/nodes.sizes",Rows.laid_caisson_nodes_sizes),("caisson/stores.errPoison",Rows.laid_caisson_stores_errPoison)] ((World.doorLaid Tryz.prog 400 os).forCall (fun _ _=>0) ⟨#[],args, []⟩).memory:=by
 have hd:laidMet Tryz.prog [("caisson/digests.initial",Rows.laid_caisson_digests_initial),("caisson/digests.constants",Rows.laid_caisson_digests_constants),("caisson/nodes.sizes",Rows.laid_caisson_nodes_sizes),("caisson/stores.errPoison",Rows.laid_caisson_stores_errPoison)] ((World.doorLaid Tryz.prog 400 os).forCall (fun _ _=>0) ⟨#[],args, []⟩).memory:=laidMet_of_run' 8 (by kernel_rfl) (by kernel_rfl)
 exact laidMetH_of_parts hd (by kernel_rfl)
theorem kG {W:World} (h:laidMetH Tryz.prog [("caisson/digests.initial",Rows.laid_caisson_digests_initial),("caisson/digests.constants",Rows.laid_caisson_digests_constants),("errors.errorType",Rows.laid_errors_errorType),("caisson/nodes.sizes",Rows.laid_caisson_nodes_sizes),("caisson/stores.errPoison",Rows.laid_caisson_stores_errPoison)] W):∃ad:Addr,HD ad W:=by
 have h2:laidMet Tryz.prog [("caisson/digests.initial",Rows.laid_caisson_digests_initial),("caisson/digests.constants",Rows.laid_caisson_digests_constants),("caisson/nodes.sizes",Rows.laid_caisson_nodes_sizes),("caisson/stores.errPoison",Rows.laid_caisson_stores_errPoison)] W∧handlesMet Tryz.prog [("errors.errorType",Rows.laid_errors_errorType)] W:=h
 obtain ⟨name,u,ty,e1,e2,e3,e4,e5⟩:=h2.2 _ (List.mem_singleton.2 rfl)
 have en:name= [101,114,114,111,114]:=(Option.some.inj e1).symm
 subst en
 obtain rfl:=Option.some.inj ((show (Tryz.prog.cutTypes.find? (·.1== "internal/reflectlite.rtype")).map (·.2)=some 488 by kernel_rfl).symm.trans e2)
 have hm:ty∈(List.range 581).filter fun t=>Tryz.prog.rowNamed t [101,114,114,111,114]:=List.mem_filter.2 ⟨List.mem_range.2 (by rw [←(show Tryz.prog.types.size=581 by kernel_rfl)];exact e3),e4⟩
 rw [show ((List.range 581).filter fun t=>Tryz.prog.rowNamed t [101,114,114,111,114])= [174] by kernel_rfl] at hm
 obtain rfl:=List.mem_singleton.1 hm
 rw [show typeHandle Tryz.prog 174= .pointer (some ⟨5,174,none⟩) by kernel_rfl] at e5
 replace h:=h2.1
 obtain ⟨ad,sS,hvS,hcS,_,_⟩:=laid_sentinel h.tail.tail.tail (show Tryz.prog.globalNamed "caisson/stores.errPoison" =some 0 by kernel_rfl) (show (Tryz.prog.globals[0]?).map (·.type)=some 174 by kernel_rfl) Tryz.underlying174 sI Tryz.underlying548 Tryz.underlying569 rfl rfl Tryz.underlying9 (by kernel_rfl) (by kernel_rfl)
 obtain ⟨ps,⟨g0,t0,cs0,f0,p0,q0,hg0,ht0,hv0,hd0,⟨g1,t1,cs1,f1,p1,q1,hg1,ht1,hv1,hd1,⟨g2,t2,cs2,f2,p2,q2,hg2,ht2,hv2,hd2,_,_⟩,_⟩,_⟩,_,_⟩:=h
 obtain rfl:=Option.some.inj ((show Tryz.prog.globalNamed "caisson/digests.initial" =some 1 by kernel_rfl).symm.trans hg0)
 obtain rfl:=Option.some.inj ((show (Tryz.prog.globals[1]?).map (·.type)=some 321 by kernel_rfl).symm.trans ht0)
 have hc0:=iv (e:=63) (k:= .u32) (n:=8) (ns:= [1779033703,3144134277,1013904242,2773480762,1359893119,2600822924,528734635,1541459225]) hd0 (by kernel_rfl) (by kernel_rfl) (by kernel_rfl) (by kernel_rfl)
 obtain rfl:=Option.some.inj ((show Tryz.prog.globalNamed "caisson/digests.constants" =some 4 by kernel_rfl).symm.trans hg1)
 obtain rfl:=Option.some.inj ((show (Tryz.prog.globals[4]?).map (·.type)=some 479 by kernel_rfl).symm.trans ht1)
 have hc1:=iv (e:=63) (k:= .u32) (n:=64) (ns:= [1116352408,1899447441,3049323471,3921009573,961987163,1508970993,2453635748,2870763221,3624381080,310598401,607225278,1426881987,1925078388,2162078206,2614888103,3248222580,3835390401,4022224774,264347078,604807628,770255983,1249150122,1555081692,1996064986,2554220882,2821834349,2952996808,3210313671,3336571891,3584528711,113926993,338241895,666307205,773529912,1294757372,1396182291,1695183700,1986661051,2177026350,2456956037,2730485921,2820302411,3259730800,3345764771,3516065817,3600352804,4094571909,275423344,430227734,506948616,659060556,883997877,958139571,1322822218,1537002063,1747873779,1955562222,2024104815,2227730452,2361852424,2428436474,2756734187,3204031479,3329325298]) hd1 (by kernel_rfl) (by kernel_rfl) (by kernel_rfl) (by kernel_rfl)
 obtain rfl:=Option.some.inj ((show Tryz.prog.globalNamed "caisson/nodes.sizes" =some 2 by kernel_rfl).symm.trans hg2)
 obtain rfl:=Option.some.inj ((show (Tryz.prog.globals[2]?).map (·.type)=some 416 by kernel_rfl).symm.trans ht2)
 have hc2:=iv (e:=3) (k:= .i64) (n:=2) (ns:= [45,33]) hd2 (by kernel_rfl) (by kernel_rfl) (by kernel_rfl) (by kernel_rfl)
 exact ⟨ad,(q3 hg0 hv0 (hc0.trans (show (List.map (fun z:Int=>Value.int .u32 z) [1779033703,3144134277,1013904242,2773480762,1359893119,2600822924,528734635,1541459225])=fW ye by kernel_rfl))),(q3 hg1 hv1 (hc1.trans (show (List.map (fun z:Int=>Value.int .u32 z) [1116352408,1899447441,3049323471,3921009573,961987163,1508970993,2453635748,2870763221,3624381080,310598401,607225278,1426881987,1925078388,2162078206,2614888103,3248222580,3835390401,4022224774,264347078,604807628,770255983,1249150122,1555081692,1996064986,2554220882,2821834349,2952996808,3210313671,3336571891,3584528711,113926993,338241895,666307205,773529912,1294757372,1396182291,1695183700,1986661051,2177026350,2456956037,2730485921,2820302411,3259730800,3345764771,3516065817,3600352804,4094571909,275423344,430227734,506948616,659060556,883997877,958139571,1322822218,1537002063,1747873779,1955562222,2024104815,2227730452,2361852424,2428436474,2756734187,3204031479,3329325298])=fX kA by kernel_rfl))),(q3 hg2 hv2 (hc2.trans (show (List.map (fun z:Int=>Value.int .i64 z) [45,33])= [vI 45,vI 33] by kernel_rfl))),q3 (show Tryz.prog.globalNamed "caisson/stores.errPoison" =some 0 by kernel_rfl) hvS rfl,q3 (show Tryz.prog.globalNamed "errors.errorType" =some 3 by kernel_rfl) e5 rfl⟩
set_option maxRecDepth 100000 in
theorem lq (os:Os) (started:os.Started) (H:Type) (enc:TypeId×Value→H):
  ReturnsInHanded {} Tryz.checked os 4 .any (fun w args=>(Rows.topDiskSpec.pre enc Tryz.prog Tryz.f4 [] false w args∧laidMetH Tryz.prog [("caisson/digests.initial",Rows.laid_caisson_digests_initial),("caisson/digests.constants",Rows.laid_caisson_digests_constants),("errors.errorType",Rows.laid_errors_errorType),("caisson/nodes.sizes",Rows.laid_caisson_nodes_sizes),("caisson/stores.errPoison",Rows.laid_caisson_stores_errPoison)] w)∧sizedMet enc Tryz.prog Tryz.f4 (OpenSpec.ofChange Rows.topDiskSpec) false w args) (Rows.topDiskSpec.post enc Tryz.prog Tryz.f4 false true false false):=by
 refine returnsInHanded_of_change_and (C:=Tryz.checked) (X:=fun w _=>laidMetH Tryz.prog [("caisson/digests.initial",Rows.laid_caisson_digests_initial),("caisson/digests.constants",Rows.laid_caisson_digests_constants),("errors.errorType",Rows.laid_errors_errorType),("caisson/nodes.sizes",Rows.laid_caisson_nodes_sizes),("caisson/stores.errPoison",Rows.laid_caisson_stores_errPoison)] w) (fun _ _ _ hh h=>h.of_heap hh) qf started (by kernel_rfl) Tryz.func4
  (ChangeSpec.witness_shaped (enc:=enc) (C:=Tryz.checked) (os:=os) (X:=fun w _=>laidMetH Tryz.prog [("caisson/digests.initial",Rows.laid_caisson_digests_initial),("caisson/digests.constants",Rows.laid_caisson_digests_constants),("errors.errorType",Rows.laid_errors_errorType),("caisson/nodes.sizes",Rows.laid_caisson_nodes_sizes),("caisson/stores.errPoison",Rows.laid_caisson_stores_errPoison)] w) false (World.doorLaid Tryz.prog 400 os) #[.agg #[.int .u8 0, .slice none 0 0, .slice none 0 0, .int .u8 0, .int .u8 0], .slice none 0 0] 8 rfl (World.shaped_of_RefB (by kernel_rfl) (by kernel_rfl)) (by kernel_rfl) (by kernel_rfl) (by kernel_rfl) (rg os _)) ?_
 intro W base args ds gs before hval0 hW _ hcnd hL _
 have hval:∀(j:Nat) t v,Tryz.f4.params[j]? =some t→args[j]? =some v→Value.okWide Tryz.prog W .any base t v:=hval0
 have hW':=hW
 obtain ⟨p,q,hA0,hV,rfl,hfz,hnd⟩:=hW
 have hGl:=kG hL
 have hA:DataW.TrodAll enc Tryz.prog W 0 (fun _=>true) true Tryz.f4.params.toList args.toList ds p:=hA0
 rw [Tryz.params4] at hA hval
 obtain ⟨v0,vs0,d0,ds0,p0,q0,hargs,rfl,rfl,h0,r0⟩:=trodAll_cons hA
 obtain ⟨v1,vs1,d1,ds1,p1,q1,rfl,rfl,rfl,h1,r1⟩:=trodAll_cons r0
 obtain ⟨rfl,rfl,rfl⟩:=trodAll_nil r1
 obtain rfl:args= #[v0,v1]:=by cases args;simp_all
 obtain ⟨rfl,rfl⟩:=trodVars_none hV
 have k0:=h0
 have lt0:∀x∈p0,x.block<W.heap.size:=by obtain ⟨m,hm⟩:=k0;exact DataW.trod_lt m _ _ _ hm
 obtain ⟨cs0,rfl,_⟩:=okWide_struct Tryz.underlying74 (hval 0 74 v0 rfl rfl)
 have R0:Rd enc Tryz.prog W 0 (fun _=>true) true 74 cs0.toList:=by obtain ⟨fuel,hf⟩:=h0;exact ⟨fuel,_,hf⟩
 obtain ⟨hl0_1,hf0_2⟩:=xM R0 (show bj Tryz.prog 74= [(true,5,0),(true,72,1),(true,55,2),(true,5,3),(true,5,4)] by kernel_rfl)
 have r0_3:=hf0_2 (true,5,0) (by simp)
 simp only [show Tryz.prog.cellsOf 5=1 by kernel_rfl] at r0_3
 obtain ⟨x0_4,e0_5,w0_6⟩:=tu (k:= .u8) r0_3 (by kernel_rfl)
 have b0_7:=bounds_u8 w0_6
 obtain ⟨n0_8,rfl⟩:=Int.eq_ofNat_of_zero_le b0_7.1
 have r0_9:=hf0_2 (true,72,1) (by simp)
 simp only [show Tryz.prog.cellsOf 72=1 by kernel_rfl] at r0_9
 obtain ⟨a0_10,n0_11,c0_12,l0_13,e0_14,m0_15⟩:=zO (f:=Lz) (sz:=2) (t:=72) (e:=203) (fun us hu=>Ml (e:=5) hu (by kernel_rfl) (by kernel_rfl) (by kernel_rfl) (by kernel_rfl)) Kp r0_9 (by kernel_rfl) (by kernel_rfl) (by decide)
 have r0_16:=hf0_2 (true,55,2) (by simp)
 simp only [show Tryz.prog.cellsOf 55=1 by kernel_rfl] at r0_16
 obtain ⟨a0_17,n0_18,c0_19,l0_20,e0_21,m0_22⟩:=Hq (t:=55) (e:=5) r0_16 (by kernel_rfl) (by kernel_rfl) (by kernel_rfl)
 have r0_23:=hf0_2 (true,5,3) (by simp)
 simp only [show Tryz.prog.cellsOf 5=1 by kernel_rfl] at r0_23
 obtain ⟨x0_24,e0_25,w0_26⟩:=tu (k:= .u8) r0_23 (by kernel_rfl)
 have b0_27:=bounds_u8 w0_26
 obtain ⟨n0_28,rfl⟩:=Int.eq_ofNat_of_zero_le b0_27.1
 have r0_29:=hf0_2 (true,5,4) (by simp)
 simp only [show Tryz.prog.cellsOf 5=1 by kernel_rfl] at r0_29
 obtain ⟨x0_30,e0_31,w0_32⟩:=tu (k:= .u8) r0_29 (by kernel_rfl)
 have b0_33:=bounds_u8 w0_32
 obtain ⟨n0_34,rfl⟩:=Int.eq_ofNat_of_zero_le b0_33.1
 have e0_35:cs0.toList= [.int .u8 ((n0_8:Nat):Int), .slice a0_10 n0_11 c0_12, .slice a0_17 n0_18 c0_19, .int .u8 ((n0_28:Nat):Int), .int .u8 ((n0_34:Nat):Int)]:=by
  have hz:cs0.toList.drop 0=([.int .u8 ((n0_8:Nat):Int)])++(([.slice a0_10 n0_11 c0_12])++(([.slice a0_17 n0_18 c0_19])++(([.int .u8 ((n0_28:Nat):Int)])++(([.int .u8 ((n0_34:Nat):Int)])++([]))))):=qe (cs:=cs0.toList) (o:=0) (a:=1) e0_5 (qe (cs:=cs0.toList) (o:=1) (a:=1) e0_14 (qe (cs:=cs0.toList) (o:=2) (a:=1) e0_21 (qe (cs:=cs0.toList) (o:=3) (a:=1) e0_25 (qe (cs:=cs0.toList) (o:=4) (a:=1) e0_31 (CS (Nat.le_of_eq (hl0_1.trans (by kernel_rfl))))))))
  rw [List.drop_zero] at hz;rw [hz];simp only [List.cons_append,List.nil_append,List.append_nil,List.append_assoc]
 obtain rfl:cs0=([.int .u8 ((n0_8:Nat):Int), .slice a0_10 n0_11 c0_12, .slice a0_17 n0_18 c0_19, .int .u8 ((n0_28:Nat):Int), .int .u8 ((n0_34:Nat):Int)]:List Value).toArray:=by rw [←e0_35]
 have k1:=h1
 have lt1:∀x∈p1,x.block<W.heap.size:=by obtain ⟨m,hm⟩:=k1;exact DataW.trod_lt m _ _ _ hm
 obtain ⟨a1,len1,cap1,rfl⟩:=okWide_slice Tryz.underlying75 (hval 1 75 v1 rfl rfl)
 have R1:Rd enc Tryz.prog W 0 (fun _=>true) true 75 [.slice a1 len1 cap1]:=by obtain ⟨fuel,hf⟩:=h1;exact ⟨fuel,_,hf⟩
 obtain ⟨a1_1,n1_2,c1_3,l1_4,e1_5,m1_6⟩:=zO (f:=Nh (W:=W)) (sz:=5) (t:=75) (e:=89) (fun us hu=>Mr (t:=89) (t8:=5) (t16:=87) (tS:=55) (e:=5) hu (by kernel_rfl) (by kernel_rfl) (by kernel_rfl) (by kernel_rfl) (by kernel_rfl) (by kernel_rfl) (by kernel_rfl) (by kernel_rfl) (by kernel_rfl) (by kernel_rfl)) Da R1 (by kernel_rfl) (by kernel_rfl) (by decide)
 simp only [List.cons.injEq,and_true,Value.slice.injEq,Value.int.injEq,true_and] at e1_5
 obtain ⟨rfl,rfl,rfl⟩:=e1_5
 clear hA0 hval0
 refine (xz n0_8 n0_28 n0_34 W m0_15 m0_22 m1_6 (by omega) (by omega) (by omega) hGl).mono ?_
 rintro e W' ⟨v,rfl,rfl,hx⟩
 have bel:=hx.below
 exact ⟨_,rfl,_,_,_, [],_, [],hW',trodAll_mk1 (shut_bool Tryz.underlying4 _),(trodAll_cons_mk (Below.trod kD (by kernel_rfl) (of_decide_eq_true (by kernel_rfl)) k0 bel lt0) (trodAll_cons_mk (Below.trod kD (by kernel_rfl) (of_decide_eq_true (by kernel_rfl)) k1 bel lt1) trodAll_mk0)),rfl,bel.frame _,fun h=>by cases h⟩
theorem tW:(fun (P:Program) (f:FuncId) (fn:Func) (s:ChangeSpec) (c:OpenClaim)=>(c.wf (OpenSpec.ofChange s):Bool)) Tryz.prog 4 Tryz.f4 Rows.topDiskSpec Rows.topDiskRow=true:=by kernel_rfl
theorem tG:(fun (P:Program) (f:FuncId) (fn:Func) (s:ChangeSpec) (c:OpenClaim)=>(laidOutB P:Bool)) Tryz.prog 4 Tryz.f4 Rows.topDiskSpec Rows.topDiskRow=true:=by kernel_rfl
theorem tA:(fun (P:Program) (f:FuncId) (fn:Func) (s:ChangeSpec) (c:OpenClaim)=>(mapsRowed P:Bool)) Tryz.prog 4 Tryz.f4 Rows.topDiskSpec Rows.topDiskRow=true:=by kernel_rfl
theorem s9:(fun (P:Program) (f:FuncId) (fn:Func) (s:ChangeSpec) (c:OpenClaim)=>(fn.params.all (P.readableRec ·):Bool)) Tryz.prog 4 Tryz.f4 Rows.topDiskSpec Rows.topDiskRow=true:=by kernel_rfl
theorem ud:(fun (P:Program) (f:FuncId) (fn:Func) (s:ChangeSpec) (c:OpenClaim)=>(namedTie P c.named s.vars:Bool)) Tryz.prog 4 Tryz.f4 Rows.topDiskSpec Rows.topDiskRow=true:=by kernel_rfl
theorem tf:(fun (P:Program) (f:FuncId) (fn:Func) (s:ChangeSpec) (c:OpenClaim)=>((c.stops== []):Bool)) Tryz.prog 4 Tryz.f4 Rows.topDiskSpec Rows.topDiskRow=true:=by kernel_rfl
theorem sX:(fun (P:Program) (f:FuncId) (fn:Func) (s:ChangeSpec) (c:OpenClaim)=>((P.stops== []):Bool)) Tryz.prog 4 Tryz.f4 Rows.topDiskSpec Rows.topDiskRow=true:=by kernel_rfl
theorem t7:(fun (P:Program) (f:FuncId) (fn:Func) (s:ChangeSpec) (c:OpenClaim)=>((c.knobs== []):Bool)) Tryz.prog 4 Tryz.f4 Rows.topDiskSpec Rows.topDiskRow=true:=by kernel_rfl
theorem tY:(fun (P:Program) (f:FuncId) (fn:Func) (s:ChangeSpec) (c:OpenClaim)=>((P.stopKnobs== []):Bool)) Tryz.prog 4 Tryz.f4 Rows.topDiskSpec Rows.topDiskRow=true:=by kernel_rfl
theorem tO:(fun (P:Program) (f:FuncId) (fn:Func) (s:ChangeSpec) (c:OpenClaim)=>((c.inPlace==P.inPlace f):Bool)) Tryz.prog 4 Tryz.f4 Rows.topDiskSpec Rows.topDiskRow=true:=by kernel_rfl
theorem qI:(fun (P:Program) (f:FuncId) (fn:Func) (s:ChangeSpec) (c:OpenClaim)=>((c.unfollowed==P.unfollowed f):Bool)) Tryz.prog 4 Tryz.f4 Rows.topDiskSpec Rows.topDiskRow=true:=by kernel_rfl
theorem sO:(fun (P:Program) (f:FuncId) (fn:Func) (s:ChangeSpec) (c:OpenClaim)=>((c.recurses==P.recurses f):Bool)) Tryz.prog 4 Tryz.f4 Rows.topDiskSpec Rows.topDiskRow=true:=by kernel_rfl
theorem ql:(fun (P:Program) (f:FuncId) (fn:Func) (s:ChangeSpec) (c:OpenClaim)=>((c.named==P.varsNamed f):Bool)) Tryz.prog 4 Tryz.f4 Rows.topDiskSpec Rows.topDiskRow=true:=by kernel_rfl
theorem sa:(fun (P:Program) (f:FuncId) (fn:Func) (s:ChangeSpec) (c:OpenClaim)=>((c.maps==(fn.params.toList++s.plain.varTypes P).any (P.mapsRec ·)):Bool)) Tryz.prog 4 Tryz.f4 Rows.topDiskSpec Rows.topDiskRow=true:=by kernel_rfl
theorem sk:(fun (P:Program) (f:FuncId) (fn:Func) (s:ChangeSpec) (c:OpenClaim)=>((c.ifaces==(fn.params.toList++s.plain.varTypes P).any (P.ifacesRec ·)):Bool)) Tryz.prog 4 Tryz.f4 Rows.topDiskSpec Rows.topDiskRow=true:=by kernel_rfl
theorem qr:(fun (P:Program) (f:FuncId) (fn:Func) (s:ChangeSpec) (c:OpenClaim)=>((c.mapsOut==P.mapsAmong fn.resultTypes.toList):Bool)) Tryz.prog 4 Tryz.f4 Rows.topDiskSpec Rows.topDiskRow=true:=by kernel_rfl
theorem rh:(fun (P:Program) (f:FuncId) (fn:Func) (s:ChangeSpec) (c:OpenClaim)=>((c.loops==(fn.params.toList++s.plain.varTypes P).any (P.loopsFrom ·)):Bool)) Tryz.prog 4 Tryz.f4 Rows.topDiskSpec Rows.topDiskRow=true:=by kernel_rfl
theorem qN:(fun (P:Program) (f:FuncId) (fn:Func) (s:ChangeSpec) (c:OpenClaim)=>((c.wideKeys==(fn.params.toList++s.plain.varTypes P++fn.resultTypes.toList).any (P.wideKeysFrom ·)):Bool)) Tryz.prog 4 Tryz.f4 Rows.topDiskSpec Rows.topDiskRow=true:=by kernel_rfl
theorem qG:(fun (P:Program) (f:FuncId) (fn:Func) (s:ChangeSpec) (c:OpenClaim)=>(s.vars.all (P.varReadable ·):Bool)) Tryz.prog 4 Tryz.f4 Rows.topDiskSpec Rows.topDiskRow=true:=by kernel_rfl
theorem qM:(fun (P:Program) (f:FuncId) (fn:Func) (s:ChangeSpec) (c:OpenClaim)=>(fn.resultTypes.all (fun t=>P.readableRec t&&decide (t<P.types.size)):Bool)) Tryz.prog 4 Tryz.f4 Rows.topDiskSpec Rows.topDiskRow=true:=by kernel_rfl
theorem sG:(fun (P:Program) (f:FuncId) (fn:Func) (s:ChangeSpec) (c:OpenClaim)=>((c.ifacesOut==fn.resultTypes.toList.any (P.ifacesRec ·)):Bool)) Tryz.prog 4 Tryz.f4 Rows.topDiskSpec Rows.topDiskRow=true:=by kernel_rfl
theorem r4:(fun (P:Program) (f:FuncId) (fn:Func) (s:ChangeSpec) (c:OpenClaim)=>((c.loopsOut==fn.resultTypes.toList.any (P.loopsFrom ·)):Bool)) Tryz.prog 4 Tryz.f4 Rows.topDiskSpec Rows.topDiskRow=true:=by kernel_rfl
theorem pu:(fun (P:Program) (f:FuncId) (fn:Func) (s:ChangeSpec) (c:OpenClaim)=>((c.plainKeys==P.plainKeys):Bool)) Tryz.prog 4 Tryz.f4 Rows.topDiskSpec Rows.topDiskRow=true:=by kernel_rfl
theorem qW:(fun (P:Program) (f:FuncId) (fn:Func) (s:ChangeSpec) (c:OpenClaim)=>(c.shortTexts.isNone:Bool)) Tryz.prog 4 Tryz.f4 Rows.topDiskSpec Rows.topDiskRow=true:=by kernel_rfl
theorem rD:(fun (P:Program) (f:FuncId) (fn:Func) (s:ChangeSpec) (c:OpenClaim)=>(P.stopsHeard:Bool)) Tryz.prog 4 Tryz.f4 Rows.topDiskSpec Rows.topDiskRow=true:=by kernel_rfl
theorem pO:(fun (P:Program) (f:FuncId) (fn:Func) (s:ChangeSpec) (c:OpenClaim)=>(P.mayEnter:Bool)) Tryz.prog 4 Tryz.f4 Rows.topDiskSpec Rows.topDiskRow=true:=by kernel_rfl
theorem qv:(fun (P:Program) (f:FuncId) (fn:Func) (s:ChangeSpec) (c:OpenClaim)=>((c.lifted==P.liftsFinal):Bool)) Tryz.prog 4 Tryz.f4 Rows.topDiskSpec Rows.topDiskRow=true:=by kernel_rfl
theorem sU:(fun (P:Program) (f:FuncId) (fn:Func) (s:ChangeSpec) (c:OpenClaim)=>((P.make==some c.make):Bool)) Tryz.prog 4 Tryz.f4 Rows.topDiskSpec Rows.topDiskRow=true:=by kernel_rfl
theorem pk:(fun (P:Program) (f:FuncId) (fn:Func) (s:ChangeSpec) (c:OpenClaim)=>((c.kinds==(if c.domain.isEmpty then [] else fn.params.toList.map fun t=>match P.underlying t with | some (.int k)=>some k | _=>none)):Bool)) Tryz.prog 4 Tryz.f4 Rows.topDiskSpec Rows.topDiskRow=true:=by kernel_rfl
theorem sM:(fun (P:Program) (f:FuncId) (fn:Func) (s:ChangeSpec) (c:OpenClaim)=>((c.pinned==c.pinnedBy):Bool)) Tryz.prog 4 Tryz.f4 Rows.topDiskSpec Rows.topDiskRow=true:=by kernel_rfl
theorem sr:(fun (P:Program) (f:FuncId) (fn:Func) (s:ChangeSpec) (c:OpenClaim)=>((c.veiled==(fn.params.toList++s.plain.varTypes P++fn.resultTypes.toList).any (P.veiledRec ·)):Bool)) Tryz.prog 4 Tryz.f4 Rows.topDiskSpec Rows.topDiskRow=true:=by kernel_rfl
theorem rU:(fun (P:Program) (f:FuncId) (fn:Func) (s:ChangeSpec) (c:OpenClaim)=>(c.veiledFits P fn.params.toList (fn.params.toList++s.plain.varTypes P++fn.resultTypes.toList):Bool)) Tryz.prog 4 Tryz.f4 Rows.topDiskSpec Rows.topDiskRow=true:=by kernel_rfl
set_option maxRecDepth 100000 in
theorem mq:joinedFacts Tryz.prog 4 Tryz.f4 Rows.topDiskSpec Rows.topDiskRow=true:=by
 unfold joinedFacts
 exact and_t (and_t (and_t (and_t (and_t (and_t (and_t (and_t (and_t (and_t (and_t (and_t (and_t (and_t (and_t (and_t (and_t (and_t (and_t (and_t (and_t (and_t (and_t (and_t (and_t (and_t (and_t (and_t (and_t (and_t (and_t (tW) tG) tA) s9) ud) tf) sX) t7) tY) tO) qI) sO) ql) sa) sk) qr) rh) qN) qG) qM) sG) r4) pu) qW) rD) pO) qv) sU) pk) sM) sr) rU
theorem tK:Rows.topDiskRow.wfByText (OpenSpec.ofChange Rows.topDiskSpec)=true:=by kernel_rfl
theorem sZ:Tryz.prog.mainIs=some (true, "e75b239f2b01c512b695a4dc48174b9498baf996278a569a6fe86796aa5285c3".toList):=by kernel_rfl
theorem tR:true=Tryz.prog.looks []:=by kernel_rfl
theorem tJ:false=Rows.topDiskRow.goesBy Tryz.prog:=by kernel_rfl
theorem topDisk_holds:Rows.TopDiskSaid:=
 OpenClaim.holds_of_wide 4 Tryz.f4 rfl rfl rfl rfl rfl rfl rfl ⟨rfl,rfl,rfl,rfl,rfl⟩ rfl rfl rfl rfl rfl (by kernel_rfl) Tryz.func4 mq
  (of_decide_eq_true (by kernel_rfl)) (by unfold Func.isWrapper;rw [if_neg (of_decide_eq_false (by kernel_rfl))];exact ⟨rfl,rfl⟩)
  (fun os started H enc _=>lq os started H enc)
theorem topDisk_card:Rows.TopDiskCardSaid:=
 Claim7.holds_tied_plain_at .later [] [.data, .data, .handle, .data, .sentinel] true (true, "e75b239f2b01c512b695a4dc48174b9498baf996278a569a6fe86796aa5285c3") true
  topDisk_holds (fun _ h=>by cases h) tK (fun _ h=>by cases h) topDisk_row_tie rfl ⟨rfl,rfl⟩ sZ rfl
  (fun f fn hf hfn=>by
   obtain rfl:f=4:=Option.some.inj ((show Tryz.prog.funcNamed "caisson/caissontop.TopDisk" =some 4 by kernel_rfl).symm.trans hf)|>.symm
   obtain rfl:fn=Tryz.f4:=(Option.some.inj (Tryz.func4.symm.trans hfn)).symm
   exact ⟨tR,fun j t ht=>by
    rw [Tryz.params4] at ht
    have hm:t∈([74,75]:List Nat):=by simpa using Array.mem_of_getElem? ht
    have hall:(([74,75]:List Nat).all fun u=> !Tryz.prog.wantsStandIn u)=true:=by kernel_rfl
    exact (show Tryz.prog.wantsStandIn t=false by simpa using List.all_eq_true.1 hall t hm)⟩)
  tJ
end Go.Proofs.YtbobhnldhpjdlaaGreatDoor
