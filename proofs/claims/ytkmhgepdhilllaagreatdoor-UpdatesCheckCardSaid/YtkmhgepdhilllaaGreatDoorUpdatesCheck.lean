/- UpdatesCheck: for every input the Go function returns true, and every argument reads afterwards as it read before; no condition beyond those of the given row. -/
import Derived.Test.YtkmhgepdhilllaaGreatDoorK3
import Derived.Test.YtkmhgepdhilllaaGreatDoorRows
import Derived.ProofKit
import Derived.OpenShut
import Derived.ShutString
import Derived.ChangeOld
import Derived.Below
import Derived.Test.YtkmhgepdhilllaaGreatDoorTie
import Derived.Test.YtkmhgepdhilllaaGreatDoorCards
import Derived.LaidMore
import Derived.LaidHandle
import Derived.Stop.Joined
import Derived.SevenTiedAt
set_option linter.all false
set_option linter.unusedVariables false
namespace Go.Proofs.YtkmhgepdhilllaaGreatDoor
open Go.ChangeShapes Go.WideShapes Go.ChangeAt Go.RowKit Go.Cs
theorem zjf:ownKnob Tryz.prog.godebug=none:=by kernel_rfl
theorem zeH:laidOutB Tryz.prog=true:=by kernel_rfl
theorem ziX (os:Os) (args:Array Value):laidMetH Tryz.prog [("caisson/digests.initial",Rows.laid_caisson_digests_initial),("caisson/digests.constants",Rows.laid_caisson_digests_constants),("errors.errorType",Rows.laid_errors_errorType),("caisson/nodes.sizes",Rows.laid_caisson_nodes_sizes)] ((World.doorLaid Tryz.prog 400 os).forCall (fun _ _=>0) ⟨#[],args, []⟩).memory:=by
 have hd:laidMet Tryz.prog [("caisson/digests.initial",Rows.laid_caisson_digests_initial),("caisson/digests.constants",Rows.laid_caisson_digests_constants),("caisson/nodes.sizes",Rows.laid_caisson_nodes_sizes)] ((World.doorLaid Tryz.prog 400 os).forCall (fun _ _=>0) ⟨#[],args, []⟩).memory:=laidMet_of_run' 8 (by kernel_rfl) (by kernel_rfl)
 exact laidMetH_of_parts hd (by kernel_rfl)
theorem zhm {W:World} (h:laidMetH Tryz.prog [("caisson/digests.initial",Rows.laid_caisson_digests_initial),("caisson/digests.constants",Rows.laid_caisson_digests_constants),("errors.errorType",Rows.laid_errors_errorType),("caisson/nodes.sizes",Rows.laid_caisson_nodes_sizes)] W):Gl 1 (w8C zaV) W∧Gl 3 (zas kA) W∧Gl 2 [.iface 227 (.agg #[.pointer (some ⟨4,160,none⟩)])] W∧Gl 0 [vI 45,vI 33] W:=by
 have h2:laidMet Tryz.prog [("caisson/digests.initial",Rows.laid_caisson_digests_initial),("caisson/digests.constants",Rows.laid_caisson_digests_constants),("caisson/nodes.sizes",Rows.laid_caisson_nodes_sizes)] W∧handlesMet Tryz.prog [("errors.errorType",Rows.laid_errors_errorType)] W:=h
 obtain ⟨name,u,ty,e1,e2,e3,e4,e5⟩:=h2.2 _ (List.mem_singleton.2 rfl)
 have en:name= [101,114,114,111,114]:=(Option.some.inj e1).symm
 subst en
 obtain rfl:=Option.some.inj ((show (Tryz.prog.cutTypes.find? (·.1== "internal/reflectlite.rtype")).map (·.2)=some 227 by kernel_rfl).symm.trans e2)
 have hm:ty∈(List.range 272).filter fun t=>Tryz.prog.rowNamed t [101,114,114,111,114]:=List.mem_filter.2 ⟨List.mem_range.2 (by rw [←(show Tryz.prog.types.size=272 by kernel_rfl)];exact e3),e4⟩
 rw [show ((List.range 272).filter fun t=>Tryz.prog.rowNamed t [101,114,114,111,114])= [160] by kernel_rfl] at hm
 obtain rfl:=List.mem_singleton.1 hm
 rw [show typeHandle Tryz.prog 160= .pointer (some ⟨4,160,none⟩) by kernel_rfl] at e5
 replace h:=h2.1
 obtain ⟨ps,⟨g0,t0,cs0,f0,p0,q0,hg0,ht0,hv0,hd0,⟨g1,t1,cs1,f1,p1,q1,hg1,ht1,hv1,hd1,⟨g2,t2,cs2,f2,p2,q2,hg2,ht2,hv2,hd2,_,_⟩,_⟩,_⟩,_,_⟩:=h
 obtain rfl:=Option.some.inj ((show Tryz.prog.globalNamed "caisson/digests.initial" =some 1 by kernel_rfl).symm.trans hg0)
 obtain rfl:=Option.some.inj ((show (Tryz.prog.globals[1]?).map (·.type)=some 168 by kernel_rfl).symm.trans ht0)
 have hc0:=zgX (e:=53) (k:= .u32) (n:=8) (ns:= [1779033703,3144134277,1013904242,2773480762,1359893119,2600822924,528734635,1541459225]) hd0 (by kernel_rfl) (by kernel_rfl) (by kernel_rfl) (by kernel_rfl)
 obtain rfl:=Option.some.inj ((show Tryz.prog.globalNamed "caisson/digests.constants" =some 3 by kernel_rfl).symm.trans hg1)
 obtain rfl:=Option.some.inj ((show (Tryz.prog.globals[3]?).map (·.type)=some 167 by kernel_rfl).symm.trans ht1)
 have hc1:=zgX (e:=53) (k:= .u32) (n:=64) (ns:= [1116352408,1899447441,3049323471,3921009573,961987163,1508970993,2453635748,2870763221,3624381080,310598401,607225278,1426881987,1925078388,2162078206,2614888103,3248222580,3835390401,4022224774,264347078,604807628,770255983,1249150122,1555081692,1996064986,2554220882,2821834349,2952996808,3210313671,3336571891,3584528711,113926993,338241895,666307205,773529912,1294757372,1396182291,1695183700,1986661051,2177026350,2456956037,2730485921,2820302411,3259730800,3345764771,3516065817,3600352804,4094571909,275423344,430227734,506948616,659060556,883997877,958139571,1322822218,1537002063,1747873779,1955562222,2024104815,2227730452,2361852424,2428436474,2756734187,3204031479,3329325298]) hd1 (by kernel_rfl) (by kernel_rfl) (by kernel_rfl) (by kernel_rfl)
 obtain rfl:=Option.some.inj ((show Tryz.prog.globalNamed "caisson/nodes.sizes" =some 0 by kernel_rfl).symm.trans hg2)
 obtain rfl:=Option.some.inj ((show (Tryz.prog.globals[0]?).map (·.type)=some 183 by kernel_rfl).symm.trans ht2)
 have hc2:=zgX (e:=3) (k:= .i64) (n:=2) (ns:= [45,33]) hd2 (by kernel_rfl) (by kernel_rfl) (by kernel_rfl) (by kernel_rfl)
 exact ⟨(show (List.map (fun z:Int=>Value.int .u32 z) [1779033703,3144134277,1013904242,2773480762,1359893119,2600822924,528734635,1541459225])=w8C zaV by kernel_rfl)▸zk2 hg0 hv0 hc0,(show (List.map (fun z:Int=>Value.int .u32 z) [1116352408,1899447441,3049323471,3921009573,961987163,1508970993,2453635748,2870763221,3624381080,310598401,607225278,1426881987,1925078388,2162078206,2614888103,3248222580,3835390401,4022224774,264347078,604807628,770255983,1249150122,1555081692,1996064986,2554220882,2821834349,2952996808,3210313671,3336571891,3584528711,113926993,338241895,666307205,773529912,1294757372,1396182291,1695183700,1986661051,2177026350,2456956037,2730485921,2820302411,3259730800,3345764771,3516065817,3600352804,4094571909,275423344,430227734,506948616,659060556,883997877,958139571,1322822218,1537002063,1747873779,1955562222,2024104815,2227730452,2361852424,2428436474,2756734187,3204031479,3329325298])=zas kA by kernel_rfl)▸zk2 hg1 hv1 hc1,zk2 (show Tryz.prog.globalNamed "errors.errorType" =some 2 by kernel_rfl) e5 rfl,zk2 hg2 hv2 hc2⟩
set_option maxRecDepth 100000 in
theorem zhG (os:Os) (started:os.Started) (H:Type) (enc:TypeId×Value→H):
  ReturnsInHanded {} Tryz.checked os 9 .any (fun w args=>(Rows.updatesCheckSpec.pre enc Tryz.prog Tryz.f9 [] false w args∧laidMetH Tryz.prog [("caisson/digests.initial",Rows.laid_caisson_digests_initial),("caisson/digests.constants",Rows.laid_caisson_digests_constants),("errors.errorType",Rows.laid_errors_errorType),("caisson/nodes.sizes",Rows.laid_caisson_nodes_sizes)] w)∧sizedMet enc Tryz.prog Tryz.f9 (OpenSpec.ofChange Rows.updatesCheckSpec) false w args) (Rows.updatesCheckSpec.post enc Tryz.prog Tryz.f9 false true false false):=by
 refine returnsInHanded_of_change_and (C:=Tryz.checked) (X:=fun w _=>laidMetH Tryz.prog [("caisson/digests.initial",Rows.laid_caisson_digests_initial),("caisson/digests.constants",Rows.laid_caisson_digests_constants),("errors.errorType",Rows.laid_errors_errorType),("caisson/nodes.sizes",Rows.laid_caisson_nodes_sizes)] w) (fun _ _ _ hh h=>h.of_heap hh) zjf started (by kernel_rfl) Tryz.func9
  (ChangeSpec.witness_shaped (enc:=enc) (C:=Tryz.checked) (os:=os) (X:=fun w _=>laidMetH Tryz.prog [("caisson/digests.initial",Rows.laid_caisson_digests_initial),("caisson/digests.constants",Rows.laid_caisson_digests_constants),("errors.errorType",Rows.laid_errors_errorType),("caisson/nodes.sizes",Rows.laid_caisson_nodes_sizes)] w) false (World.doorLaid Tryz.prog 400 os) #[.agg ((([.int .u8 0])++([.slice none 0 0])++([.slice none 0 0]))++([.slice none 0 0]):List Value).toArray, .int .u8 0, .agg (zuC ZU.zero:List Value).toArray] 8 rfl (World.shaped_of_RefB (by kernel_rfl) (by kernel_rfl)) (by kernel_rfl) (by kernel_rfl) (by kernel_rfl) (ziX os _)) ?_
 intro W base args ds gs before hval0 hW _ hcnd hL _
 have hval:∀(j:Nat) t v,Tryz.f9.params[j]? =some t→args[j]? =some v→Value.okWide Tryz.prog W .any base t v:=hval0
 have hW':=hW
 obtain ⟨p,q,hA0,hV,rfl,hfz,hnd⟩:=hW
 have hGl:=zhm hL
 have hA:DataW.TrodAll enc Tryz.prog W 0 (fun _=>true) true Tryz.f9.params.toList args.toList ds p:=hA0
 rw [Tryz.params9] at hA hval
 obtain ⟨v0,vs0,d0,ds0,p0,q0,hargs,rfl,rfl,h0,r0⟩:=trodAll_cons hA
 obtain ⟨v1,vs1,d1,ds1,p1,q1,rfl,rfl,rfl,h1,r1⟩:=trodAll_cons r0
 obtain ⟨v2,vs2,d2,ds2,p2,q2,rfl,rfl,rfl,h2,r2⟩:=trodAll_cons r1
 obtain ⟨rfl,rfl,rfl⟩:=trodAll_nil r2
 obtain rfl:args= #[v0,v1,v2]:=by cases args;simp_all
 obtain ⟨rfl,rfl⟩:=trodVars_none hV
 have k0:=h0
 have lt0:∀x∈p0,x.block<W.heap.size:=by obtain ⟨m,hm⟩:=k0;exact DataW.trod_lt m _ _ _ hm
 obtain ⟨cs0,rfl,_⟩:=okWide_struct Tryz.underlying27 (hval 0 27 v0 rfl rfl)
 have R0:Rd enc Tryz.prog W 0 (fun _=>true) true 27 cs0.toList:=by obtain ⟨fuel,hf⟩:=h0;exact ⟨fuel,_,hf⟩
 obtain ⟨hl0_1,hf0_2⟩:=zb7 R0 (show zay Tryz.prog 27= [(true,25,0),(true,22,3)] by kernel_rfl)
 have r0_3:=hf0_2 (true,25,0) (by simp)
 simp only [show Tryz.prog.cellsOf 25=3 by kernel_rfl] at r0_3
 obtain ⟨hl0_4,hf0_5⟩:=zb7 r0_3 (show zay Tryz.prog 25= [(true,5,0),(true,22,1),(true,23,2)] by kernel_rfl)
 have r0_6:=hf0_5 (true,5,0) (by simp)
 simp only [show Tryz.prog.cellsOf 5=1 by kernel_rfl] at r0_6
 obtain ⟨x0_7,e0_8,w0_9⟩:=zcT (k:= .u8) r0_6 (by kernel_rfl)
 have b0_10:=bounds_u8 w0_9
 obtain ⟨n0_11,rfl⟩:=Int.eq_ofNat_of_zero_le b0_10.1
 have r0_12:=hf0_5 (true,22,1) (by simp)
 simp only [show Tryz.prog.cellsOf 22=1 by kernel_rfl] at r0_12
 obtain ⟨a0_13,n0_14,c0_15,l0_16,e0_17,m0_18⟩:=zfx (f:=b2C) (sz:=2) (t:=22) (e:=48) (fun us hu=>zoS (e:=5) hu (by kernel_rfl) (by kernel_rfl) (by kernel_rfl) (by kernel_rfl)) zj9 r0_12 (by kernel_rfl) (by kernel_rfl) (by decide)
 have r0_19:=hf0_5 (true,23,2) (by simp)
 simp only [show Tryz.prog.cellsOf 23=1 by kernel_rfl] at r0_19
 obtain ⟨a0_20,n0_21,c0_22,l0_23,e0_24,m0_25⟩:=zv5 (t:=23) (e:=5) r0_19 (by kernel_rfl) (by kernel_rfl) (by kernel_rfl)
 have e0_26:((cs0.toList.drop 0).take 3)= [.int .u8 ((n0_11:Nat):Int), .slice a0_13 n0_14 c0_15, .slice a0_20 n0_21 c0_22]:=by
  have hz:((cs0.toList.drop 0).take 3).drop 0=([.int .u8 ((n0_11:Nat):Int)])++(([.slice a0_13 n0_14 c0_15])++(([.slice a0_20 n0_21 c0_22])++([]))):=zdT (cs:=((cs0.toList.drop 0).take 3)) (o:=0) (a:=1) e0_8 (zdT (cs:=((cs0.toList.drop 0).take 3)) (o:=1) (a:=1) e0_17 (zdT (cs:=((cs0.toList.drop 0).take 3)) (o:=2) (a:=1) e0_24 (zjY (Nat.le_of_eq (hl0_4.trans (by kernel_rfl))))))
  rw [List.drop_zero] at hz;rw [hz];simp only [List.cons_append,List.nil_append,List.append_nil,List.append_assoc]
 have r0_27:=hf0_2 (true,22,3) (by simp)
 simp only [show Tryz.prog.cellsOf 22=1 by kernel_rfl] at r0_27
 obtain ⟨a0_28,n0_29,c0_30,l0_31,e0_32,m0_33⟩:=zfx (f:=b2C) (sz:=2) (t:=22) (e:=48) (fun us hu=>zoS (e:=5) hu (by kernel_rfl) (by kernel_rfl) (by kernel_rfl) (by kernel_rfl)) zj9 r0_27 (by kernel_rfl) (by kernel_rfl) (by decide)
 have e0_34:cs0.toList= [.int .u8 ((n0_11:Nat):Int), .slice a0_13 n0_14 c0_15, .slice a0_20 n0_21 c0_22, .slice a0_28 n0_29 c0_30]:=by
  have hz:cs0.toList.drop 0=([.int .u8 ((n0_11:Nat):Int), .slice a0_13 n0_14 c0_15, .slice a0_20 n0_21 c0_22])++(([.slice a0_28 n0_29 c0_30])++([])):=zdT (cs:=cs0.toList) (o:=0) (a:=3) e0_26 (zdT (cs:=cs0.toList) (o:=3) (a:=1) e0_32 (zjY (Nat.le_of_eq (hl0_1.trans (by kernel_rfl)))))
  rw [List.drop_zero] at hz;rw [hz];simp only [List.cons_append,List.nil_append,List.append_nil,List.append_assoc]
 obtain rfl:cs0=([.int .u8 ((n0_11:Nat):Int), .slice a0_13 n0_14 c0_15, .slice a0_20 n0_21 c0_22, .slice a0_28 n0_29 c0_30]:List Value).toArray:=by rw [←e0_34]
 have k1:=h1
 have lt1:∀x∈p1,x.block<W.heap.size:=by obtain ⟨m,hm⟩:=k1;exact DataW.trod_lt m _ _ _ hm
 obtain ⟨y1,rfl,_,_,g1⟩:=open_int Tryz.underlying5 (hval 1 5 v1 rfl rfl) h1
 have bd1:=bounds_u8 g1
 obtain ⟨n1,rfl⟩:=Int.eq_ofNat_of_zero_le bd1.1
 have k2:=h2
 have lt2:∀x∈p2,x.block<W.heap.size:=by obtain ⟨m,hm⟩:=k2;exact DataW.trod_lt m _ _ _ hm
 obtain ⟨cs2,rfl,_⟩:=okWide_struct Tryz.underlying79 (hval 2 79 v2 rfl rfl)
 have R2:Rd enc Tryz.prog W 0 (fun _=>true) true 79 cs2.toList:=by obtain ⟨fuel,hf⟩:=h2;exact ⟨fuel,_,hf⟩
 obtain ⟨hl2_1,hf2_2⟩:=zb7 R2 (show zay Tryz.prog 79= [(true,77,0),(true,3,280),(true,5,281),(true,3,282)] by kernel_rfl)
 have r2_3:=hf2_2 (true,77,0) (by simp)
 simp only [show Tryz.prog.cellsOf 77=280 by kernel_rfl] at r2_3
 obtain ⟨x2_4,e2_5⟩:=zwx (U:=77) (tI:=3) (tB:=4) (tC:=75) (N:=74) (R:=69) (E:=72) (r:=68) (t8:=5) (tn:=56) (td:=59) (e:=5) (t32:=53) (t64:=54) (en:=71) r2_3 (by kernel_rfl) (by kernel_rfl) (by kernel_rfl) (by kernel_rfl) (by kernel_rfl) (by kernel_rfl) (by kernel_rfl) (by kernel_rfl) (by kernel_rfl) (by kernel_rfl) (by kernel_rfl) (by kernel_rfl) (by kernel_rfl) (by kernel_rfl) (by kernel_rfl) (by kernel_rfl) (by kernel_rfl) (by kernel_rfl) (by kernel_rfl) (by kernel_rfl) (by kernel_rfl) (by kernel_rfl) (by kernel_rfl) (by kernel_rfl) (by kernel_rfl) (by kernel_rfl) (by kernel_rfl) (by kernel_rfl) (by kernel_rfl) (by kernel_rfl)
 have r2_6:=hf2_2 (true,3,280) (by simp)
 simp only [show Tryz.prog.cellsOf 3=1 by kernel_rfl] at r2_6
 obtain ⟨x2_7,e2_8,w2_9⟩:=zcT (k:= .i64) r2_6 (by kernel_rfl)
 have b2_10:=bounds_i64 w2_9
 have r2_11:=hf2_2 (true,5,281) (by simp)
 simp only [show Tryz.prog.cellsOf 5=1 by kernel_rfl] at r2_11
 obtain ⟨x2_12,e2_13,w2_14⟩:=zcT (k:= .u8) r2_11 (by kernel_rfl)
 have b2_15:=bounds_u8 w2_14
 obtain ⟨n2_16,rfl⟩:=Int.eq_ofNat_of_zero_le b2_15.1
 have r2_17:=hf2_2 (true,3,282) (by simp)
 simp only [show Tryz.prog.cellsOf 3=1 by kernel_rfl] at r2_17
 obtain ⟨x2_18,e2_19,w2_20⟩:=zcT (k:= .i64) r2_17 (by kernel_rfl)
 have b2_21:=bounds_i64 w2_20
 have e2_22:cs2.toList=(unC x2_4)++ [.int .i64 x2_7, .int .u8 ((n2_16:Nat):Int), .int .i64 x2_18]:=by
  have hz:cs2.toList.drop 0=(unC x2_4)++(([.int .i64 x2_7])++(([.int .u8 ((n2_16:Nat):Int)])++(([.int .i64 x2_18])++([])))):=zdT (cs:=cs2.toList) (o:=0) (a:=280) e2_5 (zdT (cs:=cs2.toList) (o:=280) (a:=1) e2_8 (zdT (cs:=cs2.toList) (o:=281) (a:=1) e2_13 (zdT (cs:=cs2.toList) (o:=282) (a:=1) e2_19 (zjY (Nat.le_of_eq (hl2_1.trans (by kernel_rfl)))))))
  rw [List.drop_zero] at hz;rw [hz];simp only [List.cons_append,List.nil_append,List.append_nil,List.append_assoc]
 obtain rfl:cs2=((unC x2_4)++ [.int .i64 x2_7, .int .u8 ((n2_16:Nat):Int), .int .i64 x2_18]:List Value).toArray:=by rw [←e2_22]
 clear hA0 hval0
 refine (zkh n0_11 n1 (⟨x2_4,x2_7,n2_16,x2_18,by omega⟩:ZU) W m0_18 m0_25 m0_33 (by omega) (by omega) hGl.2.2.2 hGl.1 hGl.2.1 hGl.2.2.1).mono ?_
 rintro e W' ⟨v,rfl,rfl,hx⟩
 have bel:=hx.below
 exact ⟨_,rfl,_,_,_, [],_, [],hW',trodAll_mk1 (shut_bool Tryz.underlying4 _),(trodAll_cons_mk (Below.trod zeH (by kernel_rfl) (of_decide_eq_true (by kernel_rfl)) k0 bel lt0) (trodAll_cons_mk (Below.trod zeH (by kernel_rfl) (of_decide_eq_true (by kernel_rfl)) k1 bel lt1) (trodAll_cons_mk (Below.trod zeH (by kernel_rfl) (of_decide_eq_true (by kernel_rfl)) k2 bel lt2) trodAll_mk0))),rfl,bel.frame _,fun h=>by cases h⟩
theorem updatesCheck_holds:Rows.UpdatesCheckSaid:=
 OpenClaim.holds_of_wide 9 Tryz.f9 rfl rfl rfl rfl rfl rfl rfl ⟨rfl,rfl,rfl,rfl,rfl⟩ rfl rfl rfl rfl rfl (by kernel_rfl) Tryz.func9 (by kernel_rfl)
  (of_decide_eq_true (by kernel_rfl)) (by unfold Func.isWrapper;rw [if_neg (of_decide_eq_false (by kernel_rfl))];exact ⟨rfl,rfl⟩)
  (fun os started H enc _=>zhG os started H enc)
theorem updatesCheck_card:Rows.UpdatesCheckCardSaid:=
 Claim7.holds_tied_plain_at .later [] [.data, .data, .handle, .data] true (true, "302b850db38b4140c209123c47fc283c4d2120552482411d944eabe8b936d06a") true
  updatesCheck_holds (fun _ h=>by cases h) (by kernel_rfl) (fun _ h=>by cases h) updatesCheck_row_tie rfl ⟨rfl,rfl⟩ (by kernel_rfl) rfl
  (fun f fn hf hfn=>by
   obtain rfl:f=9:=Option.some.inj ((show Tryz.prog.funcNamed "caisson/caissonlaw18.UpdatesCheck" =some 9 by kernel_rfl).symm.trans hf)|>.symm
   obtain rfl:fn=Tryz.f9:=(Option.some.inj (Tryz.func9.symm.trans hfn)).symm
   exact ⟨by kernel_rfl,fun j t ht=>by
    rw [Tryz.params9] at ht
    have hm:t∈([27,5,79]:List Nat):=by simpa using Array.mem_of_getElem? ht
    have hall:(([27,5,79]:List Nat).all fun u=> !Tryz.prog.wantsStandIn u)=true:=by kernel_rfl
    exact (show Tryz.prog.wantsStandIn t=false by simpa using List.all_eq_true.1 hall t hm)⟩)
  (by kernel_rfl)
end Go.Proofs.YtkmhgepdhilllaaGreatDoor
