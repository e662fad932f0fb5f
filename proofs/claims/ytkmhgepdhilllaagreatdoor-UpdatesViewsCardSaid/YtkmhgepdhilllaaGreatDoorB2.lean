/- Lemmas and walks: what each function does, by its own code. No condition beyond those of each statement. -/
import Derived.Test.YtkmhgepdhilllaaGreatDoorB1
set_option linter.all false
set_option linter.unusedVariables false
namespace Go.Proofs.YtkmhgepdhilllaaGreatDoor
open Go Go.RowKit Go.Cs
set_option maxRecDepth 100000
theorem ztw {lo_b hi_b:Nat} {a_b:Option Addr} {n_b c_b:Nat} {b:List UInt8} (w:World) (h_b:Bs lo_b hi_b w a_b n_b c_b b) (hp0:n_b≤1099511627776):
  Calls Tryz.prog 83 #[(.slice a_b n_b c_b)] w (Ret fun r w'=>r=(vA (zR (zS b)))∧Ext w w'):=by
 refine zD (n:=69) (σ:= [(0,(.slice a_b n_b c_b))]) Tryz.func83 rfl ?_
 replace h_b:=h_b.now;have hle_b:=h_b.le
 refine ze (zd (za (zaf (zR Dig.zero) 59 ?_)))
 intro w1 hBw1 hEw1 hzw1 hlw1
 refine zf (zb (ze (zd (za (zaa (Instr.buildSlice 23 0 #[]) (.slice (pA w1.heap.size 0) 0 0) [] 5 ?_)))))
 intro w2 hBw2 hEw2 hzw2 hlw2
 have hSw2:Bs w1.heap.size (w1.heap.size+1) w2 (pA w1.heap.size 0) 0 0 []:=Bs.of_blk hBw2 (by kernel_rfl) rfl (Nat.le_refl _) (by decide) (Nat.le_refl _) (Nat.lt_succ_self _)
 refine zc 1 [(12,(.slice a_b n_b c_b))] ?_
 have hO1:Cs.Own u8v w1.heap.size (w1.heap.size+1) w2 (pA w1.heap.size 0) 0 0 5 ([]):=Cs.Own.of_blk hBw2 (by simp) (by first | rfl | exact rfl) hSw2.len_eq (Nat.le_refl _) (by simp only [maxLen];omega) (Nat.le_refl _) (Nat.lt_succ_self _)
 refine za (zbo (some 13) 23 23 5 1 (.int .u8 0) hO1 ((h_b.ext hEw1).ext hEw2).es (fun _=>rfl) ?_)
 intro a1 c1 w3 hOw3 hCw3
 have hzw3:=hCw3.size
 have hSw3:=hOw3.bs
 refine za (zaa (Instr.buildSlice 23 1 #[(0,(vB 128))]) (.slice (pA w3.heap.size 0) 1 1) [(vB 128)] 5 ?_)
 intro w4 hBw4 hEw4 hzw4 hlw4
 have hSw4:Bs w3.heap.size (w3.heap.size+1) w4 (pA w3.heap.size 0) 1 1 [128]:=Bs.of_blk hBw4 (by kernel_rfl) rfl (Nat.le_refl _) (by decide) (Nat.le_refl _) (Nat.lt_succ_self _)
 refine za (zbo (some 15) 23 23 5 1 (.int .u8 0) (hOw3.ext hEw4) hSw4.es (fun _=>rfl) ?_)
 intro a2 c2 w5 hOw5 hCw5
 have hzw5:=hCw5.size
 have hSw5:=hOw5.bs
 refine zc 1 [(3,(.slice a2 (0+n_b+1) c2))] (zf (zb (ze (zr ?_))))
 have hK1:=((((((hBw1.ext hEw2)).chg hCw3 (fun hs=>by have hn:=hO1.ne hs;omega)).ext hEw4)).chg hCw5 (fun hs=>by have hn:=(hOw3.ext hEw4).ne hs;omega))
 have hX1:Ext w1 w5:=(Ext.ownS ((Ext.ownS hEw2 hCw3 (fun k hs hk=>by have hn:=hO1.ne hs;omega)).trans hEw4) hCw5 (fun k hs hk=>by have hn:=(hOw3.ext hEw4).ne hs;omega))
 refine zU (X:=Nat×Option Addr×Nat) (fun ⟨z,p,cp⟩=> [(3,(.slice p (0+n_b+1+z) cp))]) [16,17,18,19,20,21,22] (fun ⟨z,p,cp⟩ w6=>z≤zdm b.length∧Cs.Own u8v w1.heap.size w6.heap.size w6 p (0+n_b+1+z) cp 5 (b++ [128]++List.replicate z 0)∧Blk w6 w.heap.size (zR Dig.zero) 59∧Ext w1 w6) (fun ⟨z,p,cp⟩=>zdm b.length-z) (0,a2,c2) (by kernel_rfl) ⟨Nat.zero_le _,by rw [List.replicate_zero,List.append_nil];exact (hOw5).mono (by omega) (Nat.le_refl _),hK1,hX1⟩ ?_
 rintro ⟨z,p,cp⟩ dw6 w6 ⟨hz,hO,hB2,hEl⟩
 have hzl:=hEl.size
 have hlen:=h_b.len_eq
 have hl2:=hB2.lt
 have hle:=hO.es.le
 have hpz:zdm b.length=(119-b.length%64)%64:=rfl
 refine ze (ze (zd (zc 2 [(17,(vI (0+n_b+1+z))),(16,(.slice p (0+n_b+1+z) cp))] (za (zo (some 18) .i64 (((0+n_b+1+z:Nat):Int).tmod ((64:Nat):Int)) ((0+n_b+1+z)%64) (zcZ _ _) ?_)))))
 refine za (zF (some 19) (((((0+n_b+1+z)%64:Nat):Int) !=((56:Nat):Int))) (fun hc19=> ?_) (fun hc19=> ?_))
 ·replace hc19:¬((0+n_b+1+z)%64=56):=by have:=zbV hc19;omega
  refine zf (zb (zv (zk (zb (zr (zd (zc 1 [(20,(.slice p (0+n_b+1+z) cp))] (za (zaa (Instr.buildSlice 23 1 #[(0,(vB 0))]) (.slice (pA w6.heap.size 0) 1 1) [(vB 0)] 5 ?_)))))))))
  intro w7 hBw7 hEw7 hzw7 hlw7
  have hSw7:Bs w6.heap.size (w6.heap.size+1) w7 (pA w6.heap.size 0) 1 1 [0]:=Bs.of_blk hBw7 (by kernel_rfl) rfl (Nat.le_refl _) (by decide) (Nat.le_refl _) (Nat.lt_succ_self _)
  refine za (zbo (some 22) 23 23 5 1 (.int .u8 0) (hO.ext hEw7) hSw7.es (fun _=>rfl) ?_)
  intro a3 c3 w8 hOw8 hCw8
  have hzw8:=hCw8.size
  have hSw8:=hOw8.bs
  refine zc 1 [(3,(.slice a3 (0+n_b+1+z+1) c3))] (zf (zi (zz (zL (z+1,a3,c3) ?_ ?_))))
  ·exact ⟨by omega,by have hz:=hOw8;rw [List.append_assoc] at hz;rw [List.replicate_succ'];exact hz,(((hB2.ext hEw7)).chg hCw8 (fun hs=>by have hn:=(hO.ext hEw7).ne hs;omega)),(Ext.ownS (hEl.trans hEw7) hCw8 (fun k hs hk=>by have hn:=(hO.ext hEw7).ne hs;omega))⟩
  ·first | omega |(dsimp only;omega)
 ·replace hc19:(0+n_b+1+z)%64=56:=by have:=zbS hc19;omega
  refine zf (zb (zh (zP (zq (zq (zH (zb (ze (zd ?_)))))))))
  refine zc 3 [(25,(vI n_b)),(24,(.slice a_b n_b c_b)),(23,(.slice p (0+n_b+1+z) cp))] (za (zo (some 26) .u64 (IntKind.u64.wrap ((n_b:Nat):Int)) n_b (zbz rfl rfl (by show _<2^64;omega)) ?_))
  refine za (zo (some 27) .u64 (IntKind.u64.wrap (((8:Nat):Int)*((n_b:Nat):Int))) ((8*n_b)%2^64) (zcj rfl (by simp)) ?_)
  refine za (zp (zlb ((8*n_b)%2^64) _ (Nat.mod_lt _ (by decide))) ?_)
  rintro _ w9 ⟨a4,rfl,hFz1_0,hFz1_1,hFz1_2,hFz1_3,hEw9⟩
  have hzw9:=hEw9.size
  have hla4:=hFz1_1.lt;have hna4:=hFz1_3
  have hSa4:Bs a4 (a4+1) w9 (pA a4 0) 8 8 (be ((8*n_b)%2^64) 8):=Bs.of_blk hFz1_1 rfl hFz1_2 (Nat.le_refl _) (zct hna4) (Nat.le_refl _) (Nat.lt_succ_self _)
  refine za (zbo (some 29) 23 23 5 1 (.int .u8 0) (hO.ext hEw9) hSa4.es (fun _=>rfl) ?_)
  intro a5 c4 w10 hOw10 hCw10
  have hzw10:=hCw10.size
  have hSw10:=hOw10.bs
  refine zc 1 [(3,(.slice a5 (0+n_b+1+z+8) c4))] (zf (zb (ze (zd (za (zp (zlD _) ?_))))))
  rintro _ w11 ⟨rfl,hEw11⟩
  have hzw11:=hEw11.size
  refine zc 3 [(33,(vA (w8C zbp))),(32,(vA (zay kA))),(30,(.tuple #[(vA (zay kA)),(vA (w8C zbp))]))] (za (zaf (zay (WA.zero 64)) 167 ?_))
  intro w12 hBw12 hEw12 hzw12 hlw12
  refine za (zaf (w8C (WA.zero 8)) 168 ?_)
  intro w13 hBw13 hEw13 hzw13 hlw13
  refine za (zG 167 w11.heap.size 0 167 (vA (zay kA)) (zay (WA.zero 64)) (zay kA) (hBw12.ext hEw13) (by rw [zdA];kernel_rfl) (by first |(simp;done)|(simp;omega)) (zfU _) ?_)
  intro w14 hBw14 hCw14
  have hzw14:=hCw14.size
  rw [zy _ _ (by simp)] at hBw14
  refine za (zG 168 w12.heap.size 0 168 (vA (w8C zbp)) (w8C (WA.zero 8)) (w8C zbp) (hBw13.chg hCw14) (by rw [zbN];kernel_rfl) (by first |(simp;done)|(simp;omega)) (zdN _) ?_)
  intro w15 hBw15 hCw15
  have hzw15:=hCw15.size
  rw [zy _ _ (by simp)] at hBw15
  refine zf (zb (ze (ze (zd (zc 1 [(6,(vI 0))] (zf (zb (zr ?_))))))))
  obtain rfl:z=zdm b.length:=by omega
  have hK2:=(((((hSw10.ext hEw11).ext hEw12).ext hEw13).chg hCw14).chg hCw15)
  have hSp:Bs w1.heap.size w10.heap.size w15 a5 (0+n_b+1+(zdm b.length)+8) c4 (zch b):=by have hq:=hK2;rw [zs2 hlen rfl] at hq;exact hq
  have hpl:(zch b).length=0+n_b+1+(zdm b.length)+8:=hSp.len_eq.symm
  have hp64:=zqI b
  have hK3:=((((((((hB2.ext hEw9)).chg hCw10 (fun hs=>by have hn:=(hO.ext hEw9).ne hs;omega)).ext hEw11).ext hEw12).ext hEw13).chg hCw14).chg hCw15)
  have hX2:Ext w1 w15:=(Ext.own (Ext.own ((((Ext.ownS (hEl.trans hEw9) hCw10 (fun k hs hk=>by have hn:=(hO.ext hEw9).ne hs;omega)).trans hEw11).trans hEw12).trans hEw13) hCw14 (by omega)) hCw15 (by omega))
  refine zU (X:=Nat) (fun k=> [(6,(vI (64*k)))]) [34,35,36,37,38,39,40,41,42,43,44,45,46] (fun k w16=>k≤(zch b).length/64∧Bs w1.heap.size w10.heap.size w16 a5 (0+n_b+1+(zdm b.length)+8) c4 (zch b)∧Blk w16 w12.heap.size (w8C (zd8 (zch b) k)) 168∧Blk w16 w.heap.size (zR Dig.zero) 59∧Ext w1 w16) (fun k=>(zch b).length/64-k) 0 (by kernel_rfl) ⟨Nat.zero_le _,hSp,hBw15,hK3,hX2⟩ ?_
  rintro k dw16 w16 ⟨hk,hSk,hB5,hB2b,hEm⟩
  have hzm:=hEm.size
  have hl5:=hB5.lt;have hl2b:=hB2b.lt
  have hlk:=hSk.le
  refine ze (ze (zd (zc 3 [(36,(vI (0+n_b+1+(zdm b.length)+8))),(35,(.slice a5 (0+n_b+1+(zdm b.length)+8) c4)),(34,(vI (64*k)))] (za (zF (some 37) (decide (((64*k:Nat):Int)<((0+n_b+1+(zdm b.length)+8:Nat):Int))) (fun hc37=> ?_) (fun hc37=> ?_))))))
  ·replace hc37:64*k<0+n_b+1+(zdm b.length)+8:=by have:=zac hc37;omega
   refine zf (zb (zv (zk (zb (ze (zr (zab 8 (fun w17 hEw17 hzw17 hT149=> ?_))))))))
   refine zan hT149 0 w12.heap.size 0 (fun w' hC=>(((hB5.ext hEw17).ext hC).all)) (zbN _) (zg hT149 [(1,41,(.slice a5 (0+n_b+1+(zdm b.length)+8) c4)),(2,42,(vI (64*k))),(3,43,(vI (64*k)))] 3 (zn hT149 4 (vI (64*k+64)) (zY .i64 (IntKind.i64.wrap (((64*k:Nat):Int)+((64:Nat):Int))) (zu)) ?_))
   obtain ⟨a6,hR1,hS1⟩:=(hSk.ext hEw17).slice Tryz.prog 23 5 (64*k) (64*k+64) c4 (some (vI (64*k))) (some (vI (64*k+64))) none
   refine zn hT149 5 (.slice a6 (64*k+64-(64*k)) (c4-(64*k))) (zag (Instr.sliceAt 23 (.slice a5 (0+n_b+1+(zdm b.length)+8) c4) (some (vI (64*k))) (some (vI (64*k+64))) none) (fun w' hC=>hR1 _)) (zx 6 (zp (zrL (zd8 (zch b) k) _ hS1 (by first | omega | decide)) ?_))
   rintro _ w18 ⟨rfl,hEw18⟩
   have hzw18:=hEw18.size
   refine ⟨.inr hEw18, ?_⟩
   refine zx 7 (zG 168 w12.heap.size 0 168 (vA (w8C (zeW (zd8 (zch b) k) (((zch b).drop (64*k)).take (64*k+64-(64*k)))))) (w8C (zd8 (zch b) k)) (w8C (zeW (zd8 (zch b) k) (((zch b).drop (64*k)).take (64*k+64-(64*k))))) ((hB5.ext hEw17).ext hEw18) (by rw [zbN];kernel_rfl) (by first |(simp;done)|(simp;omega)) (zdN _) ?_)
   intro w19 hBw19 hCw19
   have hzw19:=hCw19.size
   rw [zy _ _ (by simp)] at hBw19
   refine ⟨.inl (by kernel_rfl), ?_⟩
   refine zE (zi (zb (zd (zc 1 [(38,(vI (64*k)))] (za (zo (some 39) .i64 (IntKind.i64.wrap (((64*k:Nat):Int)+((64:Nat):Int))) (64*k+64) (zu) ?_))))))
   refine zc 1 [(6,(vI (64*k+64)))] (zf (zz ?_))
   have hK4:=(((hSk.ext hEw17).ext hEw18).chg hCw19)
   have hK5:=(((hB2b.ext hEw17).ext hEw18).chg hCw19)
   have hX3:Ext w1 w19:=(Ext.own ((hEm.trans hEw17).trans hEw18) hCw19 (by omega))
   refine zL (k+1) ?_ ?_
   ·exact ⟨by omega,hK4,by have hz:=hBw19;rw [show 64*k+64-(64*k)=64 from by omega] at hz;exact hz,hK5,hX3⟩
   ·first | omega |(dsimp only;omega)
  ·replace hc37:¬(64*k<0+n_b+1+(zdm b.length)+8):=by have:=zad hc37;omega
   refine zf (zb (zh (zP (zq (zq (zH (zb (ze (zd ?_)))))))))
   refine za (zaf (zR Dig.zero) 59 ?_)
   intro w20 hBw20 hEw20 hzw20 hlw20
   refine zf (zb (ze (ze (zd (zc 1 [(8,(vI 0))] (zf (zb (zr ?_))))))))
   obtain rfl:k=(zch b).length/64:=by omega
   obtain ⟨H,hH⟩:∃H,H=zd8 (zch b) ((zch b).length/64):=⟨_,rfl⟩
   have hBH:Blk w20 w12.heap.size (w8C H) 168:=by rw [hH];exact (hB5.ext hEw20)
   refine zU (X:=Nat) (fun i=> [(8,(vI i))]) [9,10,47,48,49,50,51,52,53,54,55,56,57,58,59,60,61,62,63,64,65,66,67] (fun i w21=>i≤8∧Blk w21 w12.heap.size (w8C H) 168∧Blk w21 w16.heap.size (u8s (dgP H i)) 59∧Blk w21 w.heap.size (zR Dig.zero) 59∧Ext w1 w21) (fun i=>8-i) 0 (by kernel_rfl) ⟨by omega,hBH,(zk8 H).symm▸hBw20,(hB2b.ext hEw20),(hEm.trans hEw20)⟩ ?_
   rintro i dw21 w21 ⟨hi,hBh,hBd,hB2c,hEn⟩
   have hzn:=hEn.size
   have hlh:=hBh.lt;have hld:=hBd.lt;have hl2c:=hB2c.lt
   have hdl:=zjE H hi
   refine ze (ze (zd (zc 1 [(47,(vI i))] (za (zF (some 48) (decide (((i:Nat):Int)<((8:Nat):Int))) (fun hc48=> ?_) (fun hc48=> ?_))))))
   ·replace hc48:i<8:=by have:=zac hc48;omega
    refine zf (zb (zv (zk (zb (ze (zr (ze (zd (zc 1 [(51,(vI i))] ?_)))))))))
    refine za (zbg w12.heap.size 0 i 8 1 ?_)
    refine za (zm w12.heap.size (0+i*1) (hBh.cell (zaU i (by omega))) ?_)
    refine za (zp (zlT ((H.get i).toNat) _ (UInt32.toNat_lt _)) ?_)
    rintro _ w22 ⟨a7,rfl,hFz4_0,hFz4_1,hFz4_2,hFz4_3,hEw22⟩
    have hzw22:=hEw22.size
    have hla7:=hFz4_1.lt;have hna7:=hFz4_3
    have hSa7:Bs a7 (a7+1) w22 (pA a7 0) 4 4 (be ((H.get i).toNat) 4):=Bs.of_blk hFz4_1 rfl hFz4_2 (Nat.le_refl _) (zct hna7) (Nat.le_refl _) (Nat.lt_succ_self _)
    refine zc 1 [(9,(.slice (pA a7 0) 4 4))] (zf (zb (ze (zd (zc 1 [(10,(vI 0))] (zf (zb (zr (zU (X:=Nat) (fun j=> [(10,(vI j))]) [55,56,57,58,59,60,61,62,63,64,65,66,67] (fun j w23=>j≤4∧Blk w23 w16.heap.size (u8s (dgQ H i j)) 59∧Chg (fun q=>q=w16.heap.size) w22 w23) (fun j=>4-j) 0 (by kernel_rfl) ⟨by omega,by rw [zq1];exact (hBd.ext hEw22),Chg.refl _ _⟩ ?_)))))))))
    rintro j dw23 w23 ⟨hj,hBq,hCj⟩
    have hzj:=hCj.size
    refine ze (ze (zd (zc 1 [(55,(vI j))] (za (zF (some 56) (decide (((j:Nat):Int)<((4:Nat):Int))) (fun hc56=> ?_) (fun hc56=> ?_))))))
    ·replace hc56:j<4:=by have:=zac hc56;omega
     refine zf (zb (zv (zk (zb (ze (zr (zd (zc 1 [(59,(vI i))] (za (zo (some 60) .i64 (IntKind.i64.wrap (((4:Nat):Int)*((i:Nat):Int))) (4*i) (zu) ?_))))))))))
     refine zc 1 [(61,(vI j))] (za (zo (some 62) .i64 (IntKind.i64.wrap (((4*i:Nat):Int)+((j:Nat):Int))) (4*i+j) (zu) ?_))
     refine zc 2 [(64,(vI j)),(63,(.slice (pA a7 0) 4 4))] (za (zah a7 0 4 4 j 1 ?_))
     refine za (zm a7 (0+j*1) ((hSa7.chg hCj).cell1 (by omega)) ?_)
     refine za (zbg w16.heap.size 0 (4*i+j) 32 1 ?_)
     refine za (zaj 5 w16.heap.size (0+(4*i+j)*1) 59 (vB (byt (be ((H.get i).toNat) 4) j)) (u8s (dgQ H i j)) hBq (by rw [za6,zsC H (by omega) (by omega)];omega) ?_)
     intro w24 hBw24 hCw24
     have hzw24:=hCw24.size
     rw [show ((u8s (dgQ H i j)).set (0+(4*i+j)*1) (vB (byt (be ((H.get i).toNat) 4) j)):List Value)=u8s (dgQ H i (j+1)) from zr7 (by omega) (by omega)] at hBw24
     refine zf (zi (zb (zd (zc 1 [(57,(vI j))] (za (zo (some 58) .i64 (IntKind.i64.wrap (((j:Nat):Int)+((1:Nat):Int))) (j+1) (zu) ?_))))))
     refine zc 1 [(10,(vI (j+1)))] (zf (zz (zL (j+1) ?_ ?_)))
     ·exact ⟨by omega,hBw24,(Chg.then (Chg.then (Chg.refl (fun q=>q=w16.heap.size) w22) hCj (fun k hk hs=>by have h:k=_:=hs;first | exact hs | exact .inl h | exact .inr h |(exfalso;omega))) hCw24 (fun k hk hs=>by have h:k=_:=hs;first | exact hs | exact .inl h | exact .inr h |(exfalso;omega)))⟩
     ·first | omega |(dsimp only;omega)
    ·replace hc56:¬(j<4):=by have:=zad hc56;omega
     refine zf (zb (zh (zP (zq (zq (zH (zi (zb (zd ?_)))))))))
     refine zc 1 [(49,(vI i))] (za (zo (some 50) .i64 (IntKind.i64.wrap (((i:Nat):Int)+((1:Nat):Int))) (i+1) (zu) ?_))
     refine zc 1 [(8,(vI (i+1)))] (zf (zz (zL (i+1) ?_ ?_)))
     ·exact ⟨by omega,((hBh.ext hEw22).chg hCj),by have hz:=hBq;rw [show j=4 from by omega,zqr] at hz;exact hz,((hB2c.ext hEw22).chg hCj),(Ext.own (hEn.trans hEw22) hCj (by omega))⟩
     ·first | omega |(dsimp only;omega)
   ·replace hc48:¬(i<8):=by have:=zad hc48;omega
    refine zf (zb (zh (zP (zq (zq (zH (zb (ze (zd ?_)))))))))
    obtain rfl:i=8:=by omega
    have hBe:Blk w21 w16.heap.size (zR (zS b)) 59:=by have hq:=hBd;rw [hH,zmK] at hq;exact hq
    refine za (zT w16.heap.size 0 hBe.all (zam _) ?_)
    refine za (zG 59 w.heap.size 0 59 (vA (zR (zS b))) (zR Dig.zero) (zR (zS b)) hB2c (by rw [zam];kernel_rfl) (by first |(simp;done)|(simp;omega)) (zbW _) ?_)
    intro w25 hBw25 hCw25
    have hzw25:=hCw25.size
    rw [zy _ _ (by simp)] at hBw25
    exact zf (zb (zj (zaJ (show zX Tryz.prog 69 _ _ (.cell 2 59) (vA (zR (zS b))) from ⟨⟨w.heap.size,0,none⟩,(by kernel_rfl),zI (T:=59) (vs:=zR (zS b)) (hBw25).all (by rw [zam];kernel_rfl)⟩) (⟨rfl,(Ext.own (hEw1.trans hEn) hCw25 (by omega))⟩))))
end Go.Proofs.YtkmhgepdhilllaaGreatDoor
namespace Go.Proofs.YtkmhgepdhilllaaGreatDoor
open Go Go.RowKit Go.Cs
set_option maxRecDepth 100000
theorem zfj (x:Nod) (w:World) (hp0:zaD x=0) (hg0:Gl 0 [vI 45,vI 33] w) (hg1:Gl 1 (w8C zbp) w) (hg2:Gl 3 (zay kA) w):
  Calls Tryz.prog 66 #[(vA (zJ x))] w (Ret fun r w'=>r=(.tuple #[(vA (zR (zS (zN x)))),(vI 0)])∧Ext w w'):=by
 refine zD (n:=18) (σ:= [(0,(vA (zJ x)))]) Tryz.func66 rfl ?_
 have hgl0:=hg0.lt
 have hgl1:=hg1.lt
 have hgl2:=hg2.lt
 refine ze (zd (za (zaa (Instr.box 74 (vA (zJ x))) (vP w.heap.size 0) (zJ x) 74 ?_)))
 intro w1 hBw1 hEw1 hzw1 hlw1
 refine za (zaf (zR Dig.zero) 59 ?_)
 intro w2 hBw2 hEw2 hzw2 hlw2
 refine zc 1 [(3,(vI 0))] (zf (zb (ze (zd (za (zT w.heap.size 0 ((hBw1.ext hEw2).all) (zQ _) ?_))))))
 refine za (zp (zup x _ (by assumption) ((hg0.ext hEw1).ext hEw2)) ?_)
 rintro _ w3 ⟨a1,rfl,hFz1_0,hFz1_1,hFz1_2,hFz1_3,hEw3⟩
 have hzw3:=hEw3.size
 have hla1:=hFz1_1.lt;have hna1:=hFz1_3
 have hSa1:Bs a1 (a1+1) w3 (pA a1 0) (zb4 x) (zb4 x) (zN x):=Bs.of_blk hFz1_1 rfl hFz1_2 (Nat.le_refl _) (zct hna1) (Nat.le_refl _) (Nat.lt_succ_self _)
 refine zc 5 [(5,(vI 0)),(4,(.slice (pA a1 0) (zb4 x) (zb4 x))),(10,(vI 0)),(9,(.slice (pA a1 0) (zb4 x) (zb4 x))),(6,(.tuple #[(.slice (pA a1 0) (zb4 x) (zb4 x)),(vI 0)]))] (zf (zb (ze (ze (zd (zc 1 [(11,(vI 0))] (za (zae (some 12) (((0:Nat):Int) !=((0:Nat):Int)) false (zax) ?_))))))))
 refine zf (zb (zh (zk (zb (ze (zd (zc 1 [(15,(.slice (pA a1 0) (zb4 x) (zb4 x)))] (za (zaa (Instr.buildSlice 190 1 #[(0,(.slice (pA a1 0) (zb4 x) (zb4 x)))]) (.slice (pA w3.heap.size 0) 1 1) [(.slice (pA a1 0) (zb4 x) (zb4 x))] 23 ?_)))))))))
 intro w4 hBw4 hEw4 hzw4 hlw4
 have hSw4:Ps 0 w4.heap.size w4 (pA w3.heap.size 0) 1 1 [(.slice (pA a1 0) (zb4 x) (zb4 x))] [zN x]:=Ps.of_new hBw4 rfl (by decide) (za9.cons (zc5.at (hSa1.ext hEw4)) za9.nil)
 have hK1:=((((hg1.ext hEw1).ext hEw2).ext hEw3).ext hEw4)
 have hK2:=((((hg2.ext hEw1).ext hEw2).ext hEw3).ext hEw4)
 refine za (zp (zuQ _ hSw4 (by simp [zW,zuk];unfold zb4;split<;>decide) hK1 hK2) ?_)
 rintro _ w5 ⟨rfl,hEw5⟩
 have hzw5:=hEw5.size
 rw [show zS ([zN x]).flatten=zS (zN x) from by simp]
 have hK3:=(((hBw2.ext hEw3).ext hEw4).ext hEw5)
 refine za (zG 59 w1.heap.size 0 59 (vA (zR (zS (zN x)))) (zR Dig.zero) (zR (zS (zN x))) hK3 (by rw [zam];kernel_rfl) (by first |(simp;done)|(simp;omega)) (zbW _) ?_)
 have hK4:=(((hBw2.ext hEw3).ext hEw4).ext hEw5)
 intro w6 hBw6 hCw6
 have hzw6:=hCw6.size
 rw [zy _ _ (by simp)] at hBw6
 refine zc 1 [(3,(vI 0))] (zf (zb (zj (za7 (show zX Tryz.prog 18 _ _ (.cell 2 59) (vA (zR (zS (zN x)))) from ⟨⟨w1.heap.size,0,none⟩,(by kernel_rfl),zI (T:=59) (vs:=zR (zS (zN x))) (hBw6).all (by rw [zam];kernel_rfl)⟩) (show zX Tryz.prog 18 _ _ (.tmp 3) (vI 0) by (show _=_;kernel_rfl)) ?_))))
 have hX1:Ext w w6:=(Ext.own ((((hEw1.trans hEw2).trans hEw3).trans hEw4).trans hEw5) hCw6 (by omega))
 exact ⟨rfl,hX1⟩
theorem zfA (x:Nod) (w:World):
  Calls Tryz.prog 56 #[(vA (zJ x))] w (Ret fun r w'=>r=(vA (zR (zS (zN x))))∧Ext w w'):=by
 refine zD (n:=6) (σ:= [(0,(vA (zJ x)))]) Tryz.func56 rfl ?_
 refine ze (zd (za (zaa (Instr.box 74 (vA (zJ x))) (vP w.heap.size 0) (zJ x) 74 ?_)))
 intro w1 hBw1 hEw1 hzw1 hlw1
 refine za (zaf (zR Dig.zero) 59 ?_)
 intro w2 hBw2 hEw2 hzw2 hlw2
 refine zf (zb (ze (zd (za (zT w.heap.size 0 ((hBw1.ext hEw2).all) (zQ _) ?_)))))
 refine za (zp (zpC x _) ?_)
 rintro _ w3 ⟨a1,ca1,rfl,hFz1_0,hEw3⟩
 have hzw3:=hEw3.size
 have hlea1:=hFz1_0.le
 have hba1:=hFz1_0.bs
 refine za (zp (ztw _ hba1 (by unfold zb4;split<;>decide)) ?_)
 rintro _ w4 ⟨rfl,hEw4⟩
 have hzw4:=hEw4.size
 refine za (zG 59 w1.heap.size 0 59 (vA (zR (zS (zN x)))) (zR Dig.zero) (zR (zS (zN x))) ((hBw2.ext hEw3).ext hEw4) (by rw [zam];kernel_rfl) (by first |(simp;done)|(simp;omega)) (zbW _) ?_)
 intro w5 hBw5 hCw5
 have hzw5:=hCw5.size
 rw [zy _ _ (by simp)] at hBw5
 refine zf (zb (zj (zaJ (show zX Tryz.prog 6 _ _ (.cell 2 59) (vA (zR (zS (zN x)))) from ⟨⟨w1.heap.size,0,none⟩,(by kernel_rfl),zI (T:=59) (vs:=zR (zS (zN x))) (hBw5).all (by rw [zam];kernel_rfl)⟩) ?_)))
 have hX1:Ext w w5:=(Ext.own (((hEw1.trans hEw2).trans hEw3).trans hEw4) hCw5 (by omega))
 exact ⟨rfl,hX1⟩
end Go.Proofs.YtkmhgepdhilllaaGreatDoor
