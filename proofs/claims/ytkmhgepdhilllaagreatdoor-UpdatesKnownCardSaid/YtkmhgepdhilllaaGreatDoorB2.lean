/- Lemmas and walks: what each function does, by its own code. No condition beyond those of each statement. -/
import Derived.Test.YtkmhgepdhilllaaGreatDoorB1
set_option linter.all false
set_option linter.unusedVariables false
namespace Go.Proofs.YtkmhgepdhilllaaGreatDoor
open Go Go.RowKit Go.Cs
set_option maxRecDepth 100000
theorem zjK (w:World):
  Calls Tryz.prog 100 #[] w (Ret fun r w'=>r=(.tuple #[(vA (zar kA)),(vA (w8C za6))])∧Ext w w'):=by
 refine zI (n:=4) (σ:= []) Tryz.func100 rfl ?_
 refine ze (zd (za (zo (some 0) (Instr.alloc 167 true (.tuple #[])) (vP w.heap.size 0) (zar (WA.zero 64)) 167 ?_)))
 intro w1 hBw1 hEw1
 have hzw1:=hEw1.size;have hlw1:=hBw1.lt
 refine za (zo (some 1) (Instr.alloc 168 true (.tuple #[])) (vP w1.heap.size 0) (w8C (WA.zero 8)) 168 ?_)
 intro w2 hBw2 hEw2
 have hzw2:=hEw2.size;have hlw2:=hBw2.lt
 refine zf (zb (ze (zd (zc 2 [(3,(vA (w8C za6))),(2,(vA (zar kA)))] (za (zv 167 w.heap.size 0 167 (vA (zar kA)) (zar (WA.zero 64)) (zar kA) (hBw1.ext hEw2) (by rw [zdd];kernel_rfl) (by first |(simp;done)|(simp;omega)) (zfx _) ?_))))))
 intro w3 hBw3 hCw3
 have hzw3:=hCw3.size
 rw [zm _ _ (by simp)] at hBw3
 refine za (zv 168 w1.heap.size 0 168 (vA (w8C za6)) (w8C (WA.zero 8)) (w8C za6) ((hBw2).chg hCw3 (fun hs=>by have h:_=_:=hs;omega)) (by rw [zbA];kernel_rfl) (by first |(simp;done)|(simp;omega)) (zdo _) ?_)
 intro w4 hBw4 hCw4
 have hzw4:=hCw4.size
 rw [zm _ _ (by simp)] at hBw4
 refine zf (zb (zq (zaX (show zZ Tryz.prog 4 _ _ (.cell 0 167) (vA (zar kA)) from ⟨⟨w.heap.size,0,none⟩,(by kernel_rfl),zN (T:=167) (vs:=zar kA) (((hBw3).chg hCw4 (fun hs=>by have h:_=_:=hs;omega))).all (by rw [zdd];kernel_rfl)⟩) (show zZ Tryz.prog 4 _ _ (.cell 1 168) (vA (w8C za6)) from ⟨⟨w1.heap.size,0,none⟩,(by kernel_rfl),zN (T:=168) (vs:=w8C za6) (hBw4).all (by rw [zbA];kernel_rfl)⟩) ?_)))
 have hX1:Ext w w4:=(Ext.own (Ext.own (hEw1.trans hEw2) hCw3 (by omega)) hCw4 (by omega))
 exact ⟨rfl,hX1⟩
theorem zrY (h:(WA 8)) {lo_b hi_b:Nat} {a_b:Option Addr} {n_b c_b:Nat} {b:List UInt8} (w:World) (h_b:Bs lo_b hi_b w a_b n_b c_b b) (hp0:n_b=64):
  Calls Tryz.prog 101 #[(vA (w8C h)),(.slice a_b n_b c_b)] w (Ret fun r w'=>r=(vA (w8C (zey h b)))∧Ext w w'):=by
 refine zI (n:=202) (σ:= [(0,(vA (w8C h))),(1,(.slice a_b n_b c_b))]) Tryz.func101 rfl ?_
 replace h_b:=h_b.now;have hle_b:=h_b.le
 refine ze (zd (za (zo (some 2) (Instr.box 168 (vA (w8C h))) (vP w.heap.size 0) (w8C h) 168 ?_)))
 intro w1 hBw1 hEw1
 have hzw1:=hEw1.size;have hlw1:=hBw1.lt
 refine za (zo (some 4) (Instr.alloc 168 true (.tuple #[])) (vP w1.heap.size 0) (w8C (WA.zero 8)) 168 ?_)
 intro w2 hBw2 hEw2
 have hzw2:=hEw2.size;have hlw2:=hBw2.lt
 refine zf (zb (ze (zd (za (zl (some 27) (zjK _) ?_)))))
 rintro _ w3 ⟨rfl,hEw3⟩
 have hzw3:=hEw3.size
 refine zc 3 [(29,(vA (w8C za6))),(28,(vA (zar kA))),(26,(.tuple #[(vA (zar kA)),(vA (w8C za6))]))] (za (zo (some 5) (Instr.alloc 167 true (.tuple #[])) (vP w3.heap.size 0) (zar (WA.zero 64)) 167 ?_))
 intro w4 hBw4 hEw4
 have hzw4:=hEw4.size;have hlw4:=hBw4.lt
 refine za (zo (some 6) (Instr.alloc 168 true (.tuple #[])) (vP w4.heap.size 0) (w8C (WA.zero 8)) 168 ?_)
 intro w5 hBw5 hEw5
 have hzw5:=hEw5.size;have hlw5:=hBw5.lt
 refine za (zv 167 w3.heap.size 0 167 (vA (zar kA)) (zar (WA.zero 64)) (zar kA) (hBw4.ext hEw5) (by rw [zdd];kernel_rfl) (by first |(simp;done)|(simp;omega)) (zfx _) ?_)
 intro w6 hBw6 hCw6
 have hzw6:=hCw6.size
 rw [zm _ _ (by simp)] at hBw6
 refine za (zv 168 w4.heap.size 0 168 (vA (w8C za6)) (w8C (WA.zero 8)) (w8C za6) ((hBw5).chg hCw6 (fun hs=>by have h:_=_:=hs;omega)) (by rw [zbA];kernel_rfl) (by first |(simp;done)|(simp;omega)) (zdo _) ?_)
 intro w7 hBw7 hCw7
 have hzw7:=hCw7.size
 rw [zm _ _ (by simp)] at hBw7
 refine zf (zb (ze (zd (za (zo (some 7) (Instr.alloc 167 true (.tuple #[])) (vP w7.heap.size 0) (zar (WA.zero 64)) 167 ?_)))))
 intro w8 hBw8 hEw8
 have hzw8:=hEw8.size;have hlw8:=hBw8.lt
 refine zf (zb (ze (ze (zd (zc 1 [(8,(vI 0))] (zf (zb (zy ?_))))))))
 have hK1:=(((((((((((((hBw1.ext hEw2)).ext hEw3)).ext hEw4)).ext hEw5)).chg hCw6 (fun hs=>by have h:_=_:=hs;omega))).chg hCw7 (fun hs=>by have h:_=_:=hs;omega))).ext hEw8)
 have hK2:=(((((((((((hBw2.ext hEw3)).ext hEw4)).ext hEw5)).chg hCw6 (fun hs=>by have h:_=_:=hs;omega))).chg hCw7 (fun hs=>by have h:_=_:=hs;omega))).ext hEw8)
 have hX1:Ext w w8:=((Ext.own (Ext.own ((((hEw1.trans hEw2).trans hEw3).trans hEw4).trans hEw5) hCw6 (by omega)) hCw7 (by omega)).trans hEw8)
 refine zY (X:=Nat) (fun t=> [(8,(vI t))]) [9,10,11,12,30,31,32,33,34,35,36,37,38,39,40,41,42,43,44,45,46,47,48,49,50,51,52,53,54,55,56,57,58,59,60,61,62,63,64,65,66,67,68,69,70,71,72,73,74,75,76,77,78,79,80,81,82,83,84,85,86,87] (fun t w9=>t≤64∧Blk w9 w.heap.size (w8C h) 168∧Blk w9 w7.heap.size (zar (zE b t)) 167∧Blk w9 w3.heap.size (zar kA) 167∧Blk w9 w1.heap.size (w8C (WA.zero 8)) 168∧Ext w w9) (fun t=>64-t) 0 (by kernel_rfl) ⟨by omega,hK1,hBw8,((((hBw6).chg hCw7 (fun hs=>by have h:_=_:=hs;omega))).ext hEw8),hK2,hX1⟩ ?_
 rintro t dw9 w9 ⟨ht,hA,hB,hK,hZ4,hEl⟩
 have hzl:=hEl.size
 have hlb:=h_b.len_eq
 have hlthA:=hA.lt
 have hlthB:=hB.lt
 have hlthK:=hK.lt
 have hlthZ4:=hZ4.lt
 refine ze (ze (zd (zc 1 [(30,(vI t))] (za (zK (some 31) (decide (((t:Nat):Int)<((64:Nat):Int))) (fun hc31=> ?_) (fun hc31=> ?_))))))
 ·replace hc31:t<64:=by have:=zaf hc31;omega
  refine zf (zb (zC (zu (zb (ze (zy (ze (ze (zd ?_)))))))))
  refine zc 1 [(34,(vI t))] (za (zK (some 35) (decide (((t:Nat):Int)<((16:Nat):Int))) (fun hc35=> ?_) (fun hc35=> ?_)))
  ·replace hc35:t<16:=by have:=zaf hc35;omega
   refine zf (zb (zC (ze (zd (zc 2 [(38,(vI t)),(37,(.slice a_b n_b c_b))] (za (zt (some 39) .i64 (IntKind.i64.wrap (((4:Nat):Int)*((t:Nat):Int))) (4*t) (zA (by omega) (by omega) (by omega)) ?_)))))))
   refine zc 1 [(40,(vI t))] (za (zt (some 41) .i64 (IntKind.i64.wrap (((4:Nat):Int)*((t:Nat):Int))) (4*t) (zA (by omega) (by omega) (by omega)) ?_))
   refine za (zt (some 42) .i64 (IntKind.i64.wrap (((4*t:Nat):Int)+((4:Nat):Int))) (4*t+4) (zA (by omega) (by omega) (by omega)) ?_)
   obtain ⟨a1,hR1,hS1⟩:=(h_b.ext hEl).slice Tryz.prog 23 5 (4*t) (4*t+4) c_b (some (vI (4*t))) (some (vI (4*t+4))) none
   refine za (zj (some 43) (Instr.sliceAt 23 (.slice a_b n_b c_b) (some (vI (4*t))) (some (vI (4*t+4))) none) (.slice a1 (4*t+4-(4*t)) (c_b-(4*t))) (hR1 _) ?_)
   refine za (zl (some 44) (zsI 4 _ hS1 (by first | omega | decide)) ?_)
   rintro _ _ ⟨rfl,rfl⟩
   refine zc 5 [(10,(vI (zcs ((b.drop (4*t)).take (4*t+4-(4*t))) 4))),(9,(vQ (zaO ((b.drop (4*t)).take (4*t+4-(4*t))) 4))),(46,(vI (zcs ((b.drop (4*t)).take (4*t+4-(4*t))) 4))),(45,(vQ (zaO ((b.drop (4*t)).take (4*t+4-(4*t))) 4))),(36,(.tuple #[(vQ (zaO ((b.drop (4*t)).take (4*t+4-(4*t))) 4)),(vI (zcs ((b.drop (4*t)).take (4*t+4-(4*t))) 4))]))] (zf (zb (ze (zd (zc 2 [(48,(vQ (zaO ((b.drop (4*t)).take (4*t+4-(4*t))) 4))),(47,(vI t))] (za (zt (some 49) .u32 (IntKind.u32.wrap ((zaO ((b.drop (4*t)).take (4*t+4-(4*t))) 4:Nat):Int)) ((UInt32.ofNat (zaO ((b.drop (4*t)).take 4) 4)).toNat) (by rw [show 4*t+4-4*t=4 from by omega,UInt32.toNat_ofNat',Nat.mod_eq_of_lt (zdn _ 4)];exact zbm rfl rfl (show _<2^32 from zdn _ 4)) ?_)))))))
   refine za (zj (some 50) (Instr.indexAt 167 (vP w7.heap.size 0) (vI t)) (vP w7.heap.size (0+t*1)) (zag (E:=53) (sz:=1) (m:=64) (by omega)) ?_)
   refine za (zah 53 w7.heap.size (0+t*1) 167 (vW ((UInt32.ofNat (zaO ((b.drop (4*t)).take 4) 4)).toNat)) (zar (zE b t)) hB (by first | decide |(simp;done)|(simp;omega)) ?_)
   intro w10 hBw10 hCw10
   have hzw10:=hCw10.size
   rw [show ((zar (zE b t)).set (0+t*1) (vW ((UInt32.ofNat (zaO ((b.drop (4*t)).take 4) 4)).toNat)):List Value)=zar ((zE b t).set t (UInt32.ofNat (zaO ((b.drop (4*t)).take 4) 4))) from zhc t (UInt32.ofNat (zaO ((b.drop (4*t)).take 4) 4))] at hBw10
   refine zf (zb (zW (zx (zL (zb (zd (zc 1 [(32,(vI t))] (za (zt (some 33) .i64 (IntKind.i64.wrap (((t:Nat):Int)+((1:Nat):Int))) (t+1) (zA (by omega) (by omega) (by omega)) ?_)))))))))
   refine zc 1 [(8,(vI (t+1)))] (zf (zF (zR (t+1) ?_ ?_)))
   ·exact ⟨by omega,((hA).chg hCw10 (fun hs=>by have h:_=_:=hs;omega)),by have hz:=hBw10;rwa [show (zE b t).set t _=zE b (t+1) from zkk (by omega) rfl] at hz,((hK).chg hCw10 (fun hs=>by have h:_=_:=hs;omega)),((hZ4).chg hCw10 (fun hs=>by have h:_=_:=hs;omega)),(Ext.own hEl hCw10 (by omega))⟩
   ·first | omega |(dsimp only;omega)
  ·replace hc35:¬(t<16):=by have:=zae hc35;omega
   refine zf (zb (zn (zu (zb (ze (zT (Ext w9.drew) 10 [(52,256,0),(53,2251799813685248,1),(54,4503599627370624,2),(55,9007199254740992,4),(56,256,0),(57,36028797018963968,16),(58,72057594037928064,32),(59,144115188075855872,64),(12,18014398509481984,15),(13,288230376151711744,511)] (fun hT149=> ?_)))))))
   have hEw11:Ext w9 w9.drew:=Ext.drew w9
   generalize w9.drew=w11 at hEw11⊢
   have hzw11:=hEw11.size
   refine zh hT149 [(0,51,(vI t))] 1 1 (zg hT149 1 3 (some 52) (vI (t-15)) (zaa .i64 (IntKind.i64.wrap (((t:Nat):Int)-((15:Nat):Int))) (zA (by omega) (by omega) (by omega))) (zg hT149 2 7 (some 53) (vP w7.heap.size (0+(t-15)*1)) (zi (Instr.indexAt 167 (vP w7.heap.size 0) (vI (t-15))) (fun w' hC=>zag (E:=53) (sz:=1) (m:=64) (by omega))) (zg hT149 3 15 (some 54) (vW (((zE b t).get (t-15)).toNat)) (zi (Instr.loadAt 53 (vP w7.heap.size (0+(t-15)*1))) (fun w' hC=>zk (((hB.ext hEw11).ext hC).cell (zcB (t-15) (by omega))))) (zh hT149 [(4,55,(vI t))] 1 31 (zg hT149 5 63 (some 56) (vI (t-2)) (zaa .i64 (IntKind.i64.wrap (((t:Nat):Int)-((2:Nat):Int))) (zA (by omega) (by omega) (by omega))) (zg hT149 6 127 (some 57) (vP w7.heap.size (0+(t-2)*1)) (zi (Instr.indexAt 167 (vP w7.heap.size 0) (vI (t-2))) (fun w' hC=>zag (E:=53) (sz:=1) (m:=64) (by omega))) (zg hT149 7 255 (some 58) (vW (((zE b t).get (t-2)).toNat)) (zi (Instr.loadAt 53 (vP w7.heap.size (0+(t-2)*1))) (fun w' hC=>zk (((hB.ext hEw11).ext hC).cell (zcB (t-2) (by omega))))) (zh hT149 [(8,11,(vW (((zE b t).get (t-15)).toNat))),(9,12,(vW (((zE b t).get (t-2)).toNat)))] 2 1023 (zJ ?_)))))))))
   refine zb (zT (Ext w11.drew) 30 [(60,256,0),(61,256,0),(62,1152921504606846976,2),(63,2305843009213694080,4),(64,4611686018427387904,8),(65,256,0),(66,18446744073709551616,32),(67,36893488147419103360,64),(68,73786976294838206464,128),(69,156797324626531188736,272),(70,2048,0),(71,590295810358705651712,1024),(72,2048,0),(73,2361183241434822606848,6144),(74,5902958103587056517120,10240),(75,2048,0),(76,18889465931478580854784,32768),(77,47223664828696452136960,81920),(78,75853011631093676244992,131584),(79,4096,0),(80,302231454903657293676544,532480),(81,4096,0),(82,1208925819614629174706176,3145728),(83,3022314549036572936765440,5242880),(84,4096,0),(85,9671406556917033397649408,16777216),(86,24178516392292583494123520,41943040),(87,38836741955119962237435904,67371008),(88,576460752303423616,268435455),(0,232113757366008801543585792,536870911)] (fun hT164=> ?_))
   have hEw12:Ext w11 w11.drew:=Ext.drew w11
   generalize w11.drew=w12 at hEw12⊢
   have hzw12:=hEw12.size
   refine zh hT164 [(0,59,(vI t)),(1,60,(vI t))] 2 3 (zg hT164 2 7 (some 61) (vI (t-16)) (zaa .i64 (IntKind.i64.wrap (((t:Nat):Int)-((16:Nat):Int))) (zA (by omega) (by omega) (by omega))) (zg hT164 3 15 (some 62) (vP w7.heap.size (0+(t-16)*1)) (zi (Instr.indexAt 167 (vP w7.heap.size 0) (vI (t-16))) (fun w' hC=>zag (E:=53) (sz:=1) (m:=64) (by omega))) (zg hT164 4 31 (some 63) (vW (((zE b t).get (t-16)).toNat)) (zi (Instr.loadAt 53 (vP w7.heap.size (0+(t-16)*1))) (fun w' hC=>zk (((((hB.ext hEw11)).ext hEw12).ext hC).cell (zcB (t-16) (by omega))))) (zh hT164 [(5,64,(vI t))] 1 63 (zg hT164 6 127 (some 65) (vI (t-7)) (zaa .i64 (IntKind.i64.wrap (((t:Nat):Int)-((7:Nat):Int))) (zA (by omega) (by omega) (by omega))) (zg hT164 7 255 (some 66) (vP w7.heap.size (0+(t-7)*1)) (zi (Instr.indexAt 167 (vP w7.heap.size 0) (vI (t-7))) (fun w' hC=>zag (E:=53) (sz:=1) (m:=64) (by omega))) (zg hT164 8 511 (some 67) (vW (((zE b t).get (t-7)).toNat)) (zi (Instr.loadAt 53 (vP w7.heap.size (0+(t-7)*1))) (fun w' hC=>zk (((((hB.ext hEw11)).ext hEw12).ext hC).cell (zcB (t-7) (by omega))))) (zg hT164 9 1023 (some 68) (vW ((((zE b t).get (t-16))+((zE b t).get (t-7))).toNat)) (zaa .u32 _ (zbb ((zE b t).get (t-16)) ((zE b t).get (t-7)))) ?_))))))))
   refine zh hT164 [(10,69,(vW (((zE b t).get (t-15)).toNat))),(12,71,(vW (((zE b t).get (t-15)).toNat))),(15,74,(vW (((zE b t).get (t-15)).toNat)))] 3 38911 (zg hT164 16 104447 (some 75) (vW ((((zE b t).get (t-15))>>>UInt32.ofNat 3).toNat)) (zaa .u32 _ (zit ((zE b t).get (t-15)) 3 (by decide))) (zh hT164 [(19,78,(vW (((zE b t).get (t-2)).toNat))),(21,80,(vW (((zE b t).get (t-2)).toNat))),(24,83,(vW (((zE b t).get (t-2)).toNat)))] 3 19503103 (zg hT164 25 53057535 (some 84) (vW ((((zE b t).get (t-2))>>>UInt32.ofNat 10).toNat)) (zaa .u32 _ (zit ((zE b t).get (t-2)) 10 (by decide))) (zz 11 53059583 (zl (some 70) (zdp ((zE b t).get (t-15)) 7 _ (by decide) (by decide)) ?_)))))
   rintro _ w13 ⟨rfl,hEw13⟩
   have hzw13:=hEw13.size
   refine ⟨.inr hEw13, ?_⟩
   refine zz 13 53067775 (zl (some 72) (zdp ((zE b t).get (t-15)) 18 _ (by decide) (by decide)) ?_)
   rintro _ w14 ⟨rfl,hEw14⟩
   have hzw14:=hEw14.size
   have hX2:Ext w12 w14:=(hEw13.trans hEw14)
   refine ⟨.inr hX2, ?_⟩
   refine zg (hw:=hX2) hT164 14 53084159 (some 73) (vW (((rr ((zE b t).get (t-15)) 7)^^^(rr ((zE b t).get (t-15)) 18)).toNat)) (zaa .u32 _ (zbW (rr ((zE b t).get (t-15)) 7) (rr ((zE b t).get (t-15)) 18))) (zg (hw:=hX2) hT164 17 53215231 (some 76) (vW ((((rr ((zE b t).get (t-15)) 7)^^^(rr ((zE b t).get (t-15)) 18))^^^(((zE b t).get (t-15))>>>UInt32.ofNat 3)).toNat)) (zaa .u32 _ (zbW ((rr ((zE b t).get (t-15)) 7)^^^(rr ((zE b t).get (t-15)) 18)) (((zE b t).get (t-15))>>>UInt32.ofNat 3))) (zg (hw:=hX2) hT164 18 53477375 (some 77) (vW (((((zE b t).get (t-16))+((zE b t).get (t-7)))+(((rr ((zE b t).get (t-15)) 7)^^^(rr ((zE b t).get (t-15)) 18))^^^(((zE b t).get (t-15))>>>UInt32.ofNat 3))).toNat)) (zaa .u32 _ (zbb (((zE b t).get (t-16))+((zE b t).get (t-7))) (((rr ((zE b t).get (t-15)) 7)^^^(rr ((zE b t).get (t-15)) 18))^^^(((zE b t).get (t-15))>>>UInt32.ofNat 3)))) (zz 20 54525951 (zl (some 79) (zdp ((zE b t).get (t-2)) 17 _ (by decide) (by decide)) ?_))))
   rintro _ w15 ⟨rfl,hEw15⟩
   have hzw15:=hEw15.size
   have hX3:Ext w12 w15:=((hEw13.trans hEw14).trans hEw15)
   refine ⟨.inr hX3, ?_⟩
   refine zz 22 58720255 (zl (some 81) (zdp ((zE b t).get (t-2)) 19 _ (by decide) (by decide)) ?_)
   rintro _ w16 ⟨rfl,hEw16⟩
   have hzw16:=hEw16.size
   have hX4:Ext w12 w16:=(((hEw13.trans hEw14).trans hEw15).trans hEw16)
   refine ⟨.inr hX4, ?_⟩
   refine zg (hw:=hX4) hT164 23 67108863 (some 82) (vW (((rr ((zE b t).get (t-2)) 17)^^^(rr ((zE b t).get (t-2)) 19)).toNat)) (zaa .u32 _ (zbW (rr ((zE b t).get (t-2)) 17) (rr ((zE b t).get (t-2)) 19))) (zg (hw:=hX4) hT164 26 134217727 (some 85) (vW ((((rr ((zE b t).get (t-2)) 17)^^^(rr ((zE b t).get (t-2)) 19))^^^(((zE b t).get (t-2))>>>UInt32.ofNat 10)).toNat)) (zaa .u32 _ (zbW ((rr ((zE b t).get (t-2)) 17)^^^(rr ((zE b t).get (t-2)) 19)) (((zE b t).get (t-2))>>>UInt32.ofNat 10))) (zg (hw:=hX4) hT164 27 268435455 (some 86) (vW ((((((zE b t).get (t-16))+((zE b t).get (t-7)))+(((rr ((zE b t).get (t-15)) 7)^^^(rr ((zE b t).get (t-15)) 18))^^^(((zE b t).get (t-15))>>>UInt32.ofNat 3)))+(((rr ((zE b t).get (t-2)) 17)^^^(rr ((zE b t).get (t-2)) 19))^^^(((zE b t).get (t-2))>>>UInt32.ofNat 10))).toNat)) (zaa .u32 _ (zbb ((((zE b t).get (t-16))+((zE b t).get (t-7)))+(((rr ((zE b t).get (t-15)) 7)^^^(rr ((zE b t).get (t-15)) 18))^^^(((zE b t).get (t-15))>>>UInt32.ofNat 3))) (((rr ((zE b t).get (t-2)) 17)^^^(rr ((zE b t).get (t-2)) 19))^^^(((zE b t).get (t-2))>>>UInt32.ofNat 10)))) (zg (hw:=hX4) hT164 28 536870911 (some 87) (vP w7.heap.size (0+t*1)) (zi (Instr.indexAt 167 (vP w7.heap.size 0) (vI t)) (fun w' hC=>zag (E:=53) (sz:=1) (m:=64) (by omega))) ?_)))
   have hK3:=(((((hB.ext hEw11)).ext hEw12)).ext hX4)
   refine zz 29 1073741823 (zah 53 w7.heap.size (0+t*1) 167 (vW ((((((zE b t).get (t-16))+((zE b t).get (t-7)))+(((rr ((zE b t).get (t-15)) 7)^^^(rr ((zE b t).get (t-15)) 18))^^^(((zE b t).get (t-15))>>>UInt32.ofNat 3)))+(((rr ((zE b t).get (t-2)) 17)^^^(rr ((zE b t).get (t-2)) 19))^^^(((zE b t).get (t-2))>>>UInt32.ofNat 10))).toNat)) (zar (zE b t)) hK3 (by first | decide |(simp;done)|(simp;omega)) ?_)
   have hK4:=(((((hB.ext hEw11)).ext hEw12)).ext hX4)
   intro w17 hBw17 hCw17
   have hzw17:=hCw17.size
   rw [show ((zar (zE b t)).set (0+t*1) (vW ((((((zE b t).get (t-16))+((zE b t).get (t-7)))+(((rr ((zE b t).get (t-15)) 7)^^^(rr ((zE b t).get (t-15)) 18))^^^(((zE b t).get (t-15))>>>UInt32.ofNat 3)))+(((rr ((zE b t).get (t-2)) 17)^^^(rr ((zE b t).get (t-2)) 19))^^^(((zE b t).get (t-2))>>>UInt32.ofNat 10))).toNat)):List Value)=zar ((zE b t).set t (((((zE b t).get (t-16))+((zE b t).get (t-7)))+(((rr ((zE b t).get (t-15)) 7)^^^(rr ((zE b t).get (t-15)) 18))^^^(((zE b t).get (t-15))>>>UInt32.ofNat 3)))+(((rr ((zE b t).get (t-2)) 17)^^^(rr ((zE b t).get (t-2)) 19))^^^(((zE b t).get (t-2))>>>UInt32.ofNat 10)))) from zhc t (((((zE b t).get (t-16))+((zE b t).get (t-7)))+(((rr ((zE b t).get (t-15)) 7)^^^(rr ((zE b t).get (t-15)) 18))^^^(((zE b t).get (t-15))>>>UInt32.ofNat 3)))+(((rr ((zE b t).get (t-2)) 17)^^^(rr ((zE b t).get (t-2)) 19))^^^(((zE b t).get (t-2))>>>UInt32.ofNat 10)))] at hBw17
   refine ⟨.inl (by kernel_rfl), ?_⟩
   refine zJ (zp (zb (zd (zc 1 [(32,(vI t))] (za (zt (some 33) .i64 (IntKind.i64.wrap (((t:Nat):Int)+((1:Nat):Int))) (t+1) (zA (by omega) (by omega) (by omega)) ?_))))))
   refine zc 1 [(8,(vI (t+1)))] (zf (zF ?_))
   have hK5:=(((((((hA.ext hEw11)).ext hEw12)).ext hX4)).chg hCw17 (fun hs=>by have h:_=_:=hs;omega))
   have hK6:=(((((((hK.ext hEw11)).ext hEw12)).ext hX4)).chg hCw17 (fun hs=>by have h:_=_:=hs;omega))
   have hK7:=(((((((hZ4.ext hEw11)).ext hEw12)).ext hX4)).chg hCw17 (fun hs=>by have h:_=_:=hs;omega))
   have hX5:Ext w w17:=(Ext.own (((hEl.trans hEw11).trans hEw12).trans hX4) hCw17 (by omega))
   refine zR (t+1) ?_ ?_
   ·exact ⟨by omega,hK5,by have hz:=hBw17;rwa [show (zE b t).set t _=zE b (t+1) from zkM (by omega) (by unfold znh zmE;ac_rfl)] at hz,hK6,hK7,hX5⟩
   ·first | omega |(dsimp only;omega)
 ·replace hc31:¬(t<64):=by have:=zae hc31;omega
  refine zf (zb (zn (zW (zx (zx (zL (zb (ze (zT (Ext w9.drew) 24 [(89,4,0),(90,309485009821345068724781056,1),(91,4,0),(92,1237940039285380274899124224,4),(93,4,0),(94,4951760157141521099596496896,16),(95,4,0),(96,19807040628566084398385987584,64),(97,4,0),(98,79228162514264337593543950336,256),(99,4,0),(100,316912650057057350374175801344,1024),(101,4,0),(102,1267650600228229401496703205376,4096),(103,4,0),(104,5070602400912917605986812821504,16384),(14,618970019642690137449562112,3),(15,2475880078570760549798248448,65551),(16,9903520314283042199192993792,196671),(17,39614081257132168796771975168,459007),(18,158456325028528675187087900672,984063),(19,633825300114114700748351602688,2035711),(20,2535301200456458802993406410752,4145151),(21,10141204801825835211973625643008,8388607)] (fun hT240=> ?_))))))))))
  have hEw18:Ext w9 w9.drew:=Ext.drew w9
  generalize w9.drew=w18 at hEw18⊢
  have hzw18:=hEw18.size
  refine zg hT240 0 1 (some 88) (vP w.heap.size 0) (zi (Instr.indexAt 168 (vP w.heap.size 0) (vI 0)) (fun w' hC=>zag (E:=53) (sz:=1) (m:=8) (by omega))) (zg hT240 1 3 (some 89) (vW ((h.get 0).toNat)) (zi (Instr.loadAt 53 (vP w.heap.size 0)) (fun w' hC=>zk (((hA.ext hEw18).ext hC).cell (zaM 0 (by omega))))) (zg hT240 2 7 (some 90) (vP w.heap.size 1) (zi (Instr.indexAt 168 (vP w.heap.size 0) (vI 1)) (fun w' hC=>zag (E:=53) (sz:=1) (m:=8) (by omega))) (zg hT240 3 15 (some 91) (vW ((h.get 1).toNat)) (zi (Instr.loadAt 53 (vP w.heap.size 1)) (fun w' hC=>zk (((hA.ext hEw18).ext hC).cell (zaM 1 (by omega))))) (zg hT240 4 31 (some 92) (vP w.heap.size 2) (zi (Instr.indexAt 168 (vP w.heap.size 0) (vI 2)) (fun w' hC=>zag (E:=53) (sz:=1) (m:=8) (by omega))) (zg hT240 5 63 (some 93) (vW ((h.get 2).toNat)) (zi (Instr.loadAt 53 (vP w.heap.size 2)) (fun w' hC=>zk (((hA.ext hEw18).ext hC).cell (zaM 2 (by omega))))) (zg hT240 6 127 (some 94) (vP w.heap.size 3) (zi (Instr.indexAt 168 (vP w.heap.size 0) (vI 3)) (fun w' hC=>zag (E:=53) (sz:=1) (m:=8) (by omega))) (zg hT240 7 255 (some 95) (vW ((h.get 3).toNat)) (zi (Instr.loadAt 53 (vP w.heap.size 3)) (fun w' hC=>zk (((hA.ext hEw18).ext hC).cell (zaM 3 (by omega))))) (zg hT240 8 511 (some 96) (vP w.heap.size 4) (zi (Instr.indexAt 168 (vP w.heap.size 0) (vI 4)) (fun w' hC=>zag (E:=53) (sz:=1) (m:=8) (by omega))) ?_))))))))
  refine zg hT240 9 1023 (some 97) (vW ((h.get 4).toNat)) (zi (Instr.loadAt 53 (vP w.heap.size 4)) (fun w' hC=>zk (((hA.ext hEw18).ext hC).cell (zaM 4 (by omega))))) (zg hT240 10 2047 (some 98) (vP w.heap.size 5) (zi (Instr.indexAt 168 (vP w.heap.size 0) (vI 5)) (fun w' hC=>zag (E:=53) (sz:=1) (m:=8) (by omega))) (zg hT240 11 4095 (some 99) (vW ((h.get 5).toNat)) (zi (Instr.loadAt 53 (vP w.heap.size 5)) (fun w' hC=>zk (((hA.ext hEw18).ext hC).cell (zaM 5 (by omega))))) (zg hT240 12 8191 (some 100) (vP w.heap.size 6) (zi (Instr.indexAt 168 (vP w.heap.size 0) (vI 6)) (fun w' hC=>zag (E:=53) (sz:=1) (m:=8) (by omega))) (zg hT240 13 16383 (some 101) (vW ((h.get 6).toNat)) (zi (Instr.loadAt 53 (vP w.heap.size 6)) (fun w' hC=>zk (((hA.ext hEw18).ext hC).cell (zaM 6 (by omega))))) (zg hT240 14 32767 (some 102) (vP w.heap.size 7) (zi (Instr.indexAt 168 (vP w.heap.size 0) (vI 7)) (fun w' hC=>zag (E:=53) (sz:=1) (m:=8) (by omega))) (zg hT240 15 65535 (some 103) (vW ((h.get 7).toNat)) (zi (Instr.loadAt 53 (vP w.heap.size 7)) (fun w' hC=>zk (((hA.ext hEw18).ext hC).cell (zaM 7 (by omega))))) (zh hT240 [(16,13,(vW ((h.get 0).toNat))),(17,14,(vW ((h.get 1).toNat))),(18,15,(vW ((h.get 2).toNat))),(19,16,(vW ((h.get 3).toNat))),(20,17,(vW ((h.get 4).toNat))),(21,18,(vW ((h.get 5).toNat))),(22,19,(vW ((h.get 6).toNat))),(23,20,(vW ((h.get 7).toNat)))] 8 16777215 (zJ (zb ?_)))))))))
  refine ze (ze (zd (zc 1 [(21,(vI 0))] (zf (zb (zy ?_))))))
  obtain rfl:t=64:=by omega
  refine zY (X:=Nat×WA 8) (fun ⟨i,x⟩=> [(13,(vW ((x.get 0).toNat))),(14,(vW ((x.get 1).toNat))),(15,(vW ((x.get 2).toNat))),(16,(vW ((x.get 3).toNat))),(17,(vW ((x.get 4).toNat))),(18,(vW ((x.get 5).toNat))),(19,(vW ((x.get 6).toNat))),(20,(vW ((x.get 7).toNat))),(21,(vI i))]) [22,23,24,25,104,105,106,107,108,109,110,111,112,113,114,115,116,117,118,119,120,121,122,123,124,125,126,127,128,129,130,131,132,133,134,135,136,137,138,139,140,141,142,143,144,145,146,147,148,149,150,151,152,153,154,155,156,157,158,159,160,161,162,163,164,165,166,167,168] (fun ⟨i,x⟩ w19=>i≤64∧x=zew h (zE b 64) i∧Blk w19 w.heap.size (w8C h) 168∧Blk w19 w7.heap.size (zar (zE b 64)) 167∧Blk w19 w3.heap.size (zar kA) 167∧Blk w19 w1.heap.size (w8C (WA.zero 8)) 168∧Ext w w19) (fun ⟨i,x⟩=>64-i) (0,h) (by kernel_rfl) ⟨by omega,rfl,(hA.ext hEw18),(hB.ext hEw18),(hK.ext hEw18),(hZ4.ext hEw18),(hEl.trans hEw18)⟩ ?_
  rintro ⟨i,x⟩ dw19 w19 ⟨hi,hx,hA2,hB2,hK2,hZ42,hEm⟩
  have hzm:=hEm.size
  have hlthA2:=hA2.lt
  have hlthB2:=hB2.lt
  have hlthK2:=hK2.lt
  have hlthZ42:=hZ42.lt
  refine ze (ze (zd (zc 1 [(104,(vI i))] (za (zK (some 105) (decide (((i:Nat):Int)<((64:Nat):Int))) (fun hc105=> ?_) (fun hc105=> ?_))))))
  ·replace hc105:i<64:=by have:=zaf hc105;omega
   refine zf (zb (zC (zu (zb (ze (zy (ze (zd (zc 2 [(109,(vW ((x.get 5).toNat))),(108,(vW ((x.get 4).toNat)))] ?_)))))))))
   refine za (zt (some 110) .u32 ((IntKind.u32.wrap ((BitVec.ofInt IntKind.u32.bits (((x.get 4).toNat:Nat):Int)&&&BitVec.ofInt IntKind.u32.bits (((x.get 5).toNat:Nat):Int)).toNat:Int))) (((x.get 4)&&&(x.get 5)).toNat) (zd2 (x.get 4) (x.get 5)) ?_)
   refine zc 1 [(111,(vW ((x.get 4).toNat)))] (za (zt (some 112) .u32 (IntKind.u32.wrap ((BitVec.ofInt IntKind.u32.bits (if IntKind.u32.signed then-1 else IntKind.u32.max)^^^BitVec.ofInt IntKind.u32.bits (((x.get 4).toNat:Nat):Int)).toNat:Int)) ((~~~(x.get 4)).toNat) (zom (x.get 4)) ?_))
   refine zc 1 [(113,(vW ((x.get 6).toNat)))] (za (zt (some 114) .u32 ((IntKind.u32.wrap ((BitVec.ofInt IntKind.u32.bits (((~~~(x.get 4)).toNat:Nat):Int)&&&BitVec.ofInt IntKind.u32.bits (((x.get 6).toNat:Nat):Int)).toNat:Int))) (((~~~(x.get 4))&&&(x.get 6)).toNat) (zd2 (~~~(x.get 4)) (x.get 6)) ?_))
   refine za (zt (some 115) .u32 ((IntKind.u32.wrap ((BitVec.ofInt IntKind.u32.bits (((x.get 4&&&x.get 5).toNat:Nat):Int)||| BitVec.ofInt IntKind.u32.bits (((~~~(x.get 4)&&&x.get 6).toNat:Nat):Int)).toNat:Int))) ((((x.get 4&&&x.get 5)^^^(~~~(x.get 4)&&&x.get 6))).toNat) ((zmw _ _).trans (by rw [ztU])) ?_)
   refine zc 1 [(22,(vW ((((x.get 4&&&x.get 5)^^^(~~~(x.get 4)&&&x.get 6))).toNat)))] (zf (zb (ze (zd (zc 2 [(117,(vW ((x.get 1).toNat))),(116,(vW ((x.get 0).toNat)))] (za (zt (some 118) .u32 ((IntKind.u32.wrap ((BitVec.ofInt IntKind.u32.bits (((x.get 0).toNat:Nat):Int)&&&BitVec.ofInt IntKind.u32.bits (((x.get 1).toNat:Nat):Int)).toNat:Int))) (((x.get 0)&&&(x.get 1)).toNat) (zd2 (x.get 0) (x.get 1)) ?_)))))))
   refine zc 2 [(120,(vW ((x.get 2).toNat))),(119,(vW ((x.get 0).toNat)))] (za (zt (some 121) .u32 ((IntKind.u32.wrap ((BitVec.ofInt IntKind.u32.bits (((x.get 0).toNat:Nat):Int)&&&BitVec.ofInt IntKind.u32.bits (((x.get 2).toNat:Nat):Int)).toNat:Int))) (((x.get 0)&&&(x.get 2)).toNat) (zd2 (x.get 0) (x.get 2)) ?_))
   refine za (zt (some 122) .u32 ((IntKind.u32.wrap ((BitVec.ofInt IntKind.u32.bits ((((x.get 0)&&&(x.get 1)).toNat:Nat):Int)||| BitVec.ofInt IntKind.u32.bits ((((x.get 0)&&&(x.get 2)).toNat:Nat):Int)).toNat:Int))) ((((x.get 0)&&&(x.get 1))|||((x.get 0)&&&(x.get 2))).toNat) (zmw ((x.get 0)&&&(x.get 1)) ((x.get 0)&&&(x.get 2))) ?_)
   refine zc 2 [(124,(vW ((x.get 2).toNat))),(123,(vW ((x.get 1).toNat)))] (za (zt (some 125) .u32 ((IntKind.u32.wrap ((BitVec.ofInt IntKind.u32.bits (((x.get 1).toNat:Nat):Int)&&&BitVec.ofInt IntKind.u32.bits (((x.get 2).toNat:Nat):Int)).toNat:Int))) (((x.get 1)&&&(x.get 2)).toNat) (zd2 (x.get 1) (x.get 2)) ?_))
   refine za (zt (some 126) .u32 ((IntKind.u32.wrap ((BitVec.ofInt IntKind.u32.bits ((((x.get 0&&&x.get 1)|||(x.get 0&&&x.get 2)).toNat:Nat):Int)||| BitVec.ofInt IntKind.u32.bits (((x.get 1&&&x.get 2).toNat:Nat):Int)).toNat:Int))) ((((x.get 0&&&x.get 1)^^^(x.get 0&&&x.get 2)^^^(x.get 1&&&x.get 2))).toNat) ((zmw _ _).trans (by rw [ztn])) ?_)
   refine zc 1 [(23,(vW ((((x.get 0&&&x.get 1)^^^(x.get 0&&&x.get 2)^^^(x.get 1&&&x.get 2))).toNat)))] (zf (zb (ze (zT (Ext w19.drew) 21 [(128,1048576,0),(129,131072,0),(130,340282366920938463463374607431768211456,2),(131,131072,0),(132,1361129467683753853853498429727072845824,12),(133,3402823669209384634633746074317682114560,20),(134,131072,0),(135,10889035741470030830827987437816582766592,80),(136,27222589353675077077069968594541456916480,160),(137,43726284149340592555043637054982215172096,257),(138,4194304,0),(139,261336857795280739939871698507597986398208,1536),(140,2097152,0),(141,696898287454081973172991196020261297061920,4096),(142,1393796574908163946345982392040522594123776,8192),(143,3136042293543368879278460382091175836778496,18432),(144,2097152,0),(145,11150372599265311570767859136324180752990336,65536),(146,22300745198530623141535718272648361505980416,131072),(147,50176676696693902068455366113458813388455936,294912),(25,89202980794122492566142873090593446023921664,1048575)] (fun hT317=> ?_)))))
   have hEw20:Ext w19 w19.drew:=Ext.drew w19
   generalize w19.drew=w20 at hEw20⊢
   have hzw20:=hEw20.size
   refine zh hT317 [(0,127,(vW ((x.get 7).toNat))),(1,128,(vW ((x.get 4).toNat))),(3,130,(vW ((x.get 4).toNat))),(6,133,(vW ((x.get 4).toNat))),(10,137,(vW ((((x.get 4&&&x.get 5)^^^(~~~(x.get 4)&&&x.get 6))).toNat))),(12,139,(vI i))] 6 5195 (zg hT317 13 13387 (some 140) (vP w3.heap.size (0+i*1)) (zi (Instr.indexAt 167 (vP w3.heap.size 0) (vI i)) (fun w' hC=>zag (E:=53) (sz:=1) (m:=64) (by omega))) (zg hT317 14 29771 (some 141) (vW ((kA.get i).toNat)) (zi (Instr.loadAt 53 (vP w3.heap.size (0+i*1))) (fun w' hC=>zk (((hK2.ext hEw20).ext hC).cell (zcB i (by omega))))) (zh hT317 [(16,143,(vI i))] 1 95307 (zg hT317 17 226379 (some 144) (vP w7.heap.size (0+i*1)) (zi (Instr.indexAt 167 (vP w7.heap.size 0) (vI i)) (fun w' hC=>zag (E:=53) (sz:=1) (m:=64) (by omega))) (zg hT317 18 488523 (some 145) (vW (((zE b 64).get i).toNat)) (zi (Instr.loadAt 53 (vP w7.heap.size (0+i*1))) (fun w' hC=>zk (((hB2.ext hEw20).ext hC).cell (zcB i (by omega))))) (zz 2 488527 (zl (some 129) (zdp (x.get 4) 6 _ (by decide) (by decide)) ?_)))))))
   rintro _ w21 ⟨rfl,hEw21⟩
   have hzw21:=hEw21.size
   refine ⟨.inr hEw21, ?_⟩
   refine zz 4 488543 (zl (some 131) (zdp (x.get 4) 11 _ (by decide) (by decide)) ?_)
   rintro _ w22 ⟨rfl,hEw22⟩
   have hzw22:=hEw22.size
   have hX6:Ext w20 w22:=(hEw21.trans hEw22)
   refine ⟨.inr hX6, ?_⟩
   refine zg (hw:=hX6) hT317 5 488575 (some 132) (vW (((rr (x.get 4) 6)^^^(rr (x.get 4) 11)).toNat)) (zaa .u32 _ (zbW (rr (x.get 4) 6) (rr (x.get 4) 11))) (zz 7 488703 (zl (some 134) (zdp (x.get 4) 25 _ (by decide) (by decide)) ?_))
   rintro _ w23 ⟨rfl,hEw23⟩
   have hzw23:=hEw23.size
   have hX7:Ext w20 w23:=((hEw21.trans hEw22).trans hEw23)
   refine ⟨.inr hX7, ?_⟩
   refine zg (hw:=hX7) hT317 8 488959 (some 135) (vW ((((rr (x.get 4) 6)^^^(rr (x.get 4) 11))^^^(rr (x.get 4) 25)).toNat)) (zaa .u32 _ (zbW ((rr (x.get 4) 6)^^^(rr (x.get 4) 11)) (rr (x.get 4) 25))) (zg (hw:=hX7) hT317 9 489471 (some 136) (vW (((x.get 7)+(((rr (x.get 4) 6)^^^(rr (x.get 4) 11))^^^(rr (x.get 4) 25))).toNat)) (zaa .u32 _ (zbb (x.get 7) (((rr (x.get 4) 6)^^^(rr (x.get 4) 11))^^^(rr (x.get 4) 25)))) (zg (hw:=hX7) hT317 11 491519 (some 138) (vW ((((x.get 7)+(((rr (x.get 4) 6)^^^(rr (x.get 4) 11))^^^(rr (x.get 4) 25)))+(((x.get 4&&&x.get 5)^^^(~~~(x.get 4)&&&x.get 6)))).toNat)) (zaa .u32 _ (zbb ((x.get 7)+(((rr (x.get 4) 6)^^^(rr (x.get 4) 11))^^^(rr (x.get 4) 25))) (((x.get 4&&&x.get 5)^^^(~~~(x.get 4)&&&x.get 6))))) (zg (hw:=hX7) hT317 15 524287 (some 142) (vW (((((x.get 7)+(((rr (x.get 4) 6)^^^(rr (x.get 4) 11))^^^(rr (x.get 4) 25)))+(((x.get 4&&&x.get 5)^^^(~~~(x.get 4)&&&x.get 6))))+(kA.get i)).toNat)) (zaa .u32 _ (zbb (((x.get 7)+(((rr (x.get 4) 6)^^^(rr (x.get 4) 11))^^^(rr (x.get 4) 25)))+(((x.get 4&&&x.get 5)^^^(~~~(x.get 4)&&&x.get 6)))) (kA.get i))) ?_)))
   refine zg (hw:=hX7) hT317 19 1048575 (some 146) (vW ((((((x.get 7)+(((rr (x.get 4) 6)^^^(rr (x.get 4) 11))^^^(rr (x.get 4) 25)))+(((x.get 4&&&x.get 5)^^^(~~~(x.get 4)&&&x.get 6))))+(kA.get i))+((zE b 64).get i)).toNat)) (zaa .u32 _ (zbb ((((x.get 7)+(((rr (x.get 4) 6)^^^(rr (x.get 4) 11))^^^(rr (x.get 4) 25)))+(((x.get 4&&&x.get 5)^^^(~~~(x.get 4)&&&x.get 6))))+(kA.get i)) ((zE b 64).get i))) (zh (hw:=hX7) hT317 [(20,24,(vW ((((((x.get 7)+(((rr (x.get 4) 6)^^^(rr (x.get 4) 11))^^^(rr (x.get 4) 25)))+(((x.get 4&&&x.get 5)^^^(~~~(x.get 4)&&&x.get 6))))+(kA.get i))+((zE b 64).get i)).toNat)))] 1 2097151 (zJ (zb (ze (zd (zc 1 [(147,(vW ((x.get 0).toNat)))] (za (zl (some 148) (zdp (x.get 0) 2 _ (by decide) (by decide)) ?_))))))))
   rintro _ w24 ⟨rfl,hEw24⟩
   have hzw24:=hEw24.size
   refine zc 1 [(149,(vW ((x.get 0).toNat)))] (za (zl (some 150) (zdp (x.get 0) 13 _ (by decide) (by decide)) ?_))
   rintro _ w25 ⟨rfl,hEw25⟩
   have hzw25:=hEw25.size
   refine za (zt (some 151) .u32 ((IntKind.u32.wrap ((BitVec.ofInt IntKind.u32.bits (((rr (x.get 0) 2).toNat:Nat):Int)^^^BitVec.ofInt IntKind.u32.bits (((rr (x.get 0) 13).toNat:Nat):Int)).toNat:Int))) (((rr (x.get 0) 2)^^^(rr (x.get 0) 13)).toNat) (zbW (rr (x.get 0) 2) (rr (x.get 0) 13)) ?_)
   refine zc 1 [(152,(vW ((x.get 0).toNat)))] (za (zl (some 153) (zdp (x.get 0) 22 _ (by decide) (by decide)) ?_))
   rintro _ w26 ⟨rfl,hEw26⟩
   have hzw26:=hEw26.size
   refine za (zt (some 154) .u32 ((IntKind.u32.wrap ((BitVec.ofInt IntKind.u32.bits ((((rr (x.get 0) 2)^^^(rr (x.get 0) 13)).toNat:Nat):Int)^^^BitVec.ofInt IntKind.u32.bits (((rr (x.get 0) 22).toNat:Nat):Int)).toNat:Int))) ((((rr (x.get 0) 2)^^^(rr (x.get 0) 13))^^^(rr (x.get 0) 22)).toNat) (zbW ((rr (x.get 0) 2)^^^(rr (x.get 0) 13)) (rr (x.get 0) 22)) ?_)
   refine zc 1 [(155,(vW ((((x.get 0&&&x.get 1)^^^(x.get 0&&&x.get 2)^^^(x.get 1&&&x.get 2))).toNat)))] (za (zt (some 156) .u32 (IntKind.u32.wrap ((((((rr (x.get 0) 2)^^^(rr (x.get 0) 13))^^^(rr (x.get 0) 22)).toNat:Nat):Int)+(((((x.get 0&&&x.get 1)^^^(x.get 0&&&x.get 2)^^^(x.get 1&&&x.get 2))).toNat:Nat):Int))) (((((rr (x.get 0) 2)^^^(rr (x.get 0) 13))^^^(rr (x.get 0) 22))+(((x.get 0&&&x.get 1)^^^(x.get 0&&&x.get 2)^^^(x.get 1&&&x.get 2)))).toNat) (zbb (((rr (x.get 0) 2)^^^(rr (x.get 0) 13))^^^(rr (x.get 0) 22)) (((x.get 0&&&x.get 1)^^^(x.get 0&&&x.get 2)^^^(x.get 1&&&x.get 2)))) ?_))
   refine zc 1 [(25,(vW (((((rr (x.get 0) 2)^^^(rr (x.get 0) 13))^^^(rr (x.get 0) 22))+(((x.get 0&&&x.get 1)^^^(x.get 0&&&x.get 2)^^^(x.get 1&&&x.get 2)))).toNat)))] (zf (zb (zd (zc 5 [(161,(vW ((((((x.get 7)+(((rr (x.get 4) 6)^^^(rr (x.get 4) 11))^^^(rr (x.get 4) 25)))+(((x.get 4&&&x.get 5)^^^(~~~(x.get 4)&&&x.get 6))))+(kA.get i))+((zE b 64).get i)).toNat))),(160,(vW ((x.get 3).toNat))),(159,(vW ((x.get 4).toNat))),(158,(vW ((x.get 5).toNat))),(157,(vW ((x.get 6).toNat)))] (za (zt (some 162) .u32 (IntKind.u32.wrap ((((x.get 3).toNat:Nat):Int)+(((((((x.get 7)+(((rr (x.get 4) 6)^^^(rr (x.get 4) 11))^^^(rr (x.get 4) 25)))+(((x.get 4&&&x.get 5)^^^(~~~(x.get 4)&&&x.get 6))))+(kA.get i))+((zE b 64).get i)).toNat:Nat):Int))) (((x.get 3)+(((((x.get 7)+(((rr (x.get 4) 6)^^^(rr (x.get 4) 11))^^^(rr (x.get 4) 25)))+(((x.get 4&&&x.get 5)^^^(~~~(x.get 4)&&&x.get 6))))+(kA.get i))+((zE b 64).get i))).toNat) (zbb (x.get 3) (((((x.get 7)+(((rr (x.get 4) 6)^^^(rr (x.get 4) 11))^^^(rr (x.get 4) 25)))+(((x.get 4&&&x.get 5)^^^(~~~(x.get 4)&&&x.get 6))))+(kA.get i))+((zE b 64).get i))) ?_))))))
   refine zc 5 [(167,(vW (((((rr (x.get 0) 2)^^^(rr (x.get 0) 13))^^^(rr (x.get 0) 22))+(((x.get 0&&&x.get 1)^^^(x.get 0&&&x.get 2)^^^(x.get 1&&&x.get 2)))).toNat))),(166,(vW ((((((x.get 7)+(((rr (x.get 4) 6)^^^(rr (x.get 4) 11))^^^(rr (x.get 4) 25)))+(((x.get 4&&&x.get 5)^^^(~~~(x.get 4)&&&x.get 6))))+(kA.get i))+((zE b 64).get i)).toNat))),(165,(vW ((x.get 0).toNat))),(164,(vW ((x.get 1).toNat))),(163,(vW ((x.get 2).toNat)))] (za (zt (some 168) .u32 (IntKind.u32.wrap ((((((((x.get 7)+(((rr (x.get 4) 6)^^^(rr (x.get 4) 11))^^^(rr (x.get 4) 25)))+(((x.get 4&&&x.get 5)^^^(~~~(x.get 4)&&&x.get 6))))+(kA.get i))+((zE b 64).get i)).toNat:Nat):Int)+((((((rr (x.get 0) 2)^^^(rr (x.get 0) 13))^^^(rr (x.get 0) 22))+(((x.get 0&&&x.get 1)^^^(x.get 0&&&x.get 2)^^^(x.get 1&&&x.get 2)))).toNat:Nat):Int))) (((((((x.get 7)+(((rr (x.get 4) 6)^^^(rr (x.get 4) 11))^^^(rr (x.get 4) 25)))+(((x.get 4&&&x.get 5)^^^(~~~(x.get 4)&&&x.get 6))))+(kA.get i))+((zE b 64).get i))+((((rr (x.get 0) 2)^^^(rr (x.get 0) 13))^^^(rr (x.get 0) 22))+(((x.get 0&&&x.get 1)^^^(x.get 0&&&x.get 2)^^^(x.get 1&&&x.get 2))))).toNat) (zbb (((((x.get 7)+(((rr (x.get 4) 6)^^^(rr (x.get 4) 11))^^^(rr (x.get 4) 25)))+(((x.get 4&&&x.get 5)^^^(~~~(x.get 4)&&&x.get 6))))+(kA.get i))+((zE b 64).get i)) ((((rr (x.get 0) 2)^^^(rr (x.get 0) 13))^^^(rr (x.get 0) 22))+(((x.get 0&&&x.get 1)^^^(x.get 0&&&x.get 2)^^^(x.get 1&&&x.get 2))))) ?_))
   refine zc 8 [(13,(vW (((((((x.get 7)+(((rr (x.get 4) 6)^^^(rr (x.get 4) 11))^^^(rr (x.get 4) 25)))+(((x.get 4&&&x.get 5)^^^(~~~(x.get 4)&&&x.get 6))))+(kA.get i))+((zE b 64).get i))+((((rr (x.get 0) 2)^^^(rr (x.get 0) 13))^^^(rr (x.get 0) 22))+(((x.get 0&&&x.get 1)^^^(x.get 0&&&x.get 2)^^^(x.get 1&&&x.get 2))))).toNat))),(14,(vW ((x.get 0).toNat))),(15,(vW ((x.get 1).toNat))),(16,(vW ((x.get 2).toNat))),(17,(vW (((x.get 3)+(((((x.get 7)+(((rr (x.get 4) 6)^^^(rr (x.get 4) 11))^^^(rr (x.get 4) 25)))+(((x.get 4&&&x.get 5)^^^(~~~(x.get 4)&&&x.get 6))))+(kA.get i))+((zE b 64).get i))).toNat))),(18,(vW ((x.get 4).toNat))),(19,(vW ((x.get 5).toNat))),(20,(vW ((x.get 6).toNat)))] (zf (zp (zb (zd (zc 1 [(106,(vI i))] (za (zt (some 107) .i64 (IntKind.i64.wrap (((i:Nat):Int)+((1:Nat):Int))) (i+1) (zA (by omega) (by omega) (by omega)) ?_)))))))
   refine zc 1 [(21,(vI (i+1)))] (zf (zF ?_))
   have hK8:=(((((((((((((hA2.ext hEw20)).ext hEw21)).ext hEw22)).ext hEw23)).ext hEw24)).ext hEw25)).ext hEw26)
   have hK9:=(((((((((((((hB2.ext hEw20)).ext hEw21)).ext hEw22)).ext hEw23)).ext hEw24)).ext hEw25)).ext hEw26)
   have hK10:=(((((((((((((hK2.ext hEw20)).ext hEw21)).ext hEw22)).ext hEw23)).ext hEw24)).ext hEw25)).ext hEw26)
   have hK11:=(((((((((((((hZ42.ext hEw20)).ext hEw21)).ext hEw22)).ext hEw23)).ext hEw24)).ext hEw25)).ext hEw26)
   have hX8:Ext w w26:=(((((((hEm.trans hEw20).trans hEw21).trans hEw22).trans hEw23).trans hEw24).trans hEw25).trans hEw26)
   refine zR (i+1,rnd x (kA.get i) ((zE b 64).get i)) ?_ ?_
   ·exact ⟨by omega,by rw [zew,←hx],hK8,hK9,hK10,hK11,hX8⟩
   ·first | omega |(dsimp only;omega)
  ·replace hc105:¬(i<64):=by have:=zae hc105;omega
   refine zf (zb (zn (zW (zx (zx (zL (zb (ze (zd ?_)))))))))
   refine za (zj (some 169) (Instr.indexAt 168 (vP w.heap.size 0) (vI 0)) (vP w.heap.size 0) (zag (E:=53) (sz:=1) (m:=8) (by omega)) ?_)
   refine za (zj (some 170) (Instr.loadAt 53 (vP w.heap.size 0)) (vW ((h.get 0).toNat)) (zk (hA2.cell (zaM 0 (by omega)))) ?_)
   refine zc 1 [(171,(vW ((x.get 0).toNat)))] (za (zt (some 172) .u32 (IntKind.u32.wrap ((((h.get 0).toNat:Nat):Int)+(((x.get 0).toNat:Nat):Int))) (((h.get 0)+(x.get 0)).toNat) (zbb (h.get 0) (x.get 0)) ?_))
   refine za (zj (some 173) (Instr.indexAt 168 (vP w.heap.size 0) (vI 1)) (vP w.heap.size 1) (zag (E:=53) (sz:=1) (m:=8) (by omega)) ?_)
   refine za (zj (some 174) (Instr.loadAt 53 (vP w.heap.size 1)) (vW ((h.get 1).toNat)) (zk (hA2.cell (zaM 1 (by omega)))) ?_)
   refine zc 1 [(175,(vW ((x.get 1).toNat)))] (za (zt (some 176) .u32 (IntKind.u32.wrap ((((h.get 1).toNat:Nat):Int)+(((x.get 1).toNat:Nat):Int))) (((h.get 1)+(x.get 1)).toNat) (zbb (h.get 1) (x.get 1)) ?_))
   refine za (zj (some 177) (Instr.indexAt 168 (vP w.heap.size 0) (vI 2)) (vP w.heap.size 2) (zag (E:=53) (sz:=1) (m:=8) (by omega)) ?_)
   refine za (zj (some 178) (Instr.loadAt 53 (vP w.heap.size 2)) (vW ((h.get 2).toNat)) (zk (hA2.cell (zaM 2 (by omega)))) ?_)
   refine zc 1 [(179,(vW ((x.get 2).toNat)))] (za (zt (some 180) .u32 (IntKind.u32.wrap ((((h.get 2).toNat:Nat):Int)+(((x.get 2).toNat:Nat):Int))) (((h.get 2)+(x.get 2)).toNat) (zbb (h.get 2) (x.get 2)) ?_))
   refine za (zj (some 181) (Instr.indexAt 168 (vP w.heap.size 0) (vI 3)) (vP w.heap.size 3) (zag (E:=53) (sz:=1) (m:=8) (by omega)) ?_)
   refine za (zj (some 182) (Instr.loadAt 53 (vP w.heap.size 3)) (vW ((h.get 3).toNat)) (zk (hA2.cell (zaM 3 (by omega)))) ?_)
   refine zc 1 [(183,(vW ((x.get 3).toNat)))] (za (zt (some 184) .u32 (IntKind.u32.wrap ((((h.get 3).toNat:Nat):Int)+(((x.get 3).toNat:Nat):Int))) (((h.get 3)+(x.get 3)).toNat) (zbb (h.get 3) (x.get 3)) ?_))
   refine za (zj (some 185) (Instr.indexAt 168 (vP w.heap.size 0) (vI 4)) (vP w.heap.size 4) (zag (E:=53) (sz:=1) (m:=8) (by omega)) ?_)
   refine za (zj (some 186) (Instr.loadAt 53 (vP w.heap.size 4)) (vW ((h.get 4).toNat)) (zk (hA2.cell (zaM 4 (by omega)))) ?_)
   refine zc 1 [(187,(vW ((x.get 4).toNat)))] (za (zt (some 188) .u32 (IntKind.u32.wrap ((((h.get 4).toNat:Nat):Int)+(((x.get 4).toNat:Nat):Int))) (((h.get 4)+(x.get 4)).toNat) (zbb (h.get 4) (x.get 4)) ?_))
   refine za (zj (some 189) (Instr.indexAt 168 (vP w.heap.size 0) (vI 5)) (vP w.heap.size 5) (zag (E:=53) (sz:=1) (m:=8) (by omega)) ?_)
   refine za (zj (some 190) (Instr.loadAt 53 (vP w.heap.size 5)) (vW ((h.get 5).toNat)) (zk (hA2.cell (zaM 5 (by omega)))) ?_)
   refine zc 1 [(191,(vW ((x.get 5).toNat)))] (za (zt (some 192) .u32 (IntKind.u32.wrap ((((h.get 5).toNat:Nat):Int)+(((x.get 5).toNat:Nat):Int))) (((h.get 5)+(x.get 5)).toNat) (zbb (h.get 5) (x.get 5)) ?_))
   refine za (zj (some 193) (Instr.indexAt 168 (vP w.heap.size 0) (vI 6)) (vP w.heap.size 6) (zag (E:=53) (sz:=1) (m:=8) (by omega)) ?_)
   refine za (zj (some 194) (Instr.loadAt 53 (vP w.heap.size 6)) (vW ((h.get 6).toNat)) (zk (hA2.cell (zaM 6 (by omega)))) ?_)
   refine zc 1 [(195,(vW ((x.get 6).toNat)))] (za (zt (some 196) .u32 (IntKind.u32.wrap ((((h.get 6).toNat:Nat):Int)+(((x.get 6).toNat:Nat):Int))) (((h.get 6)+(x.get 6)).toNat) (zbb (h.get 6) (x.get 6)) ?_))
   refine za (zj (some 197) (Instr.indexAt 168 (vP w.heap.size 0) (vI 7)) (vP w.heap.size 7) (zag (E:=53) (sz:=1) (m:=8) (by omega)) ?_)
   refine za (zj (some 198) (Instr.loadAt 53 (vP w.heap.size 7)) (vW ((h.get 7).toNat)) (zk (hA2.cell (zaM 7 (by omega)))) ?_)
   refine zc 1 [(199,(vW ((x.get 7).toNat)))] (za (zt (some 200) .u32 (IntKind.u32.wrap ((((h.get 7).toNat:Nat):Int)+(((x.get 7).toNat:Nat):Int))) (((h.get 7)+(x.get 7)).toNat) (zbb (h.get 7) (x.get 7)) ?_))
   refine zc 1 [(201,(vA (w8C ⟨[((h.get 0)+(x.get 0)),((h.get 1)+(x.get 1)),((h.get 2)+(x.get 2)),((h.get 3)+(x.get 3)),((h.get 4)+(x.get 4)),((h.get 5)+(x.get 5)),((h.get 6)+(x.get 6)),((h.get 7)+(x.get 7))],rfl⟩)))] (za (zv 168 w1.heap.size 0 168 (vA (w8C ⟨[((h.get 0)+(x.get 0)),((h.get 1)+(x.get 1)),((h.get 2)+(x.get 2)),((h.get 3)+(x.get 3)),((h.get 4)+(x.get 4)),((h.get 5)+(x.get 5)),((h.get 6)+(x.get 6)),((h.get 7)+(x.get 7))],rfl⟩)) (w8C (WA.zero 8)) (w8C ⟨[((h.get 0)+(x.get 0)),((h.get 1)+(x.get 1)),((h.get 2)+(x.get 2)),((h.get 3)+(x.get 3)),((h.get 4)+(x.get 4)),((h.get 5)+(x.get 5)),((h.get 6)+(x.get 6)),((h.get 7)+(x.get 7))],rfl⟩) hZ42 (by rw [zbA];kernel_rfl) (by first |(simp;done)|(simp;omega)) (zdo _) ?_))
   intro w27 hBw27 hCw27
   have hzw27:=hCw27.size
   rw [zm _ _ (by simp)] at hBw27
   refine zf (zb (zq (zaB (show zZ Tryz.prog 202 _ _ (.cell 4 168) (vA (w8C ⟨[((h.get 0)+(x.get 0)),((h.get 1)+(x.get 1)),((h.get 2)+(x.get 2)),((h.get 3)+(x.get 3)),((h.get 4)+(x.get 4)),((h.get 5)+(x.get 5)),((h.get 6)+(x.get 6)),((h.get 7)+(x.get 7))],rfl⟩)) from ⟨⟨w1.heap.size,0,none⟩,(by kernel_rfl),zN (T:=168) (vs:=w8C ⟨[((h.get 0)+(x.get 0)),((h.get 1)+(x.get 1)),((h.get 2)+(x.get 2)),((h.get 3)+(x.get 3)),((h.get 4)+(x.get 4)),((h.get 5)+(x.get 5)),((h.get 6)+(x.get 6)),((h.get 7)+(x.get 7))],rfl⟩) (hBw27).all (by rw [zbA];kernel_rfl)⟩) ?_)))
   obtain rfl:i=64:=by omega
   exact ⟨by rw [znr,hx],(Ext.own hEm hCw27 (by omega))⟩
end Go.Proofs.YtkmhgepdhilllaaGreatDoor
namespace Go.Proofs.YtkmhgepdhilllaaGreatDoor
open Go Go.RowKit Go.Cs
set_option maxRecDepth 100000
theorem ztF (w:World) (hg1:Gl 1 (w8C za6) w):
  Calls Tryz.prog 119 #[] w (Ret fun r w'=>r=(vA (stC Sta.new))∧Ext w w'):=by
 refine zI (n:=3) (σ:= []) Tryz.func119 rfl ?_
 have hgl1:=hg1.lt
 refine ze (zd (za (zo (some 0) (Instr.alloc 193 true (.tuple #[])) (vP w.heap.size 0) (stC Sta.zero) 193 ?_)))
 intro w1 hBw1 hEw1
 have hzw1:=hEw1.size;have hlw1:=hBw1.lt
 refine zf (zb (ze (zd (za (zj (some 1) (Instr.loadAt 168 (vP 1 0)) (vA (w8C za6)) (zw (vs:=w8C za6) ((hg1.ext hEw1).all) (by rw [zbA];kernel_rfl)) ?_)))))
 refine za (zj (some 2) (Instr.build 193 #[(0,vT),(1,(vA (w8C za6)))]) (vA (stC Sta.new)) ((zj8 za6).trans (congrArg (fun z:Sta=>Result.ok (Value.agg (stC z).toArray) _) (show (⟨true,za6,List.replicate 64 0,0,by simp,by decide⟩:Sta)=Sta.new from rfl))) ?_)
 refine za (zv 193 w.heap.size 0 193 (vA (stC Sta.new)) (stC Sta.zero) (stC Sta.new) hBw1 (by rw [zb5];kernel_rfl) (by first |(simp;done)|(simp;omega)) (zeE _) ?_)
 intro w2 hBw2 hCw2
 have hzw2:=hCw2.size
 rw [zm _ _ (by simp)] at hBw2
 exact zf (zb (zq (zaB (show zZ Tryz.prog 3 _ _ (.cell 0 193) (vA (stC Sta.new)) from ⟨⟨w.heap.size,0,none⟩,(by kernel_rfl),zN (T:=193) (vs:=stC Sta.new) (hBw2).all (by rw [zb5];kernel_rfl)⟩) (⟨rfl,(Ext.own hEw1 hCw2 (by omega))⟩))))
theorem zg8 (s:Sta) {lo_b hi_b:Nat} {a_b:Option Addr} {n_b c_b:Nat} {b:List UInt8} (l:List UInt8) (w:World) (h_b:Bs lo_b hi_b w a_b n_b c_b b) (hp0:Sm s l) (hp1:l.length+n_b<2305843009213693952) (hg2:Gl 3 (zar kA) w):
  Calls Tryz.prog 120 #[(vA (stC s)),(.slice a_b n_b c_b)] w (Ret fun r w'=>∃(a0:Sta),r=(vA (stC a0))∧Sm a0 (l++b)∧Ext w w'):=by
 refine zI (n:=43) (σ:= [(0,(vA (stC s))),(1,(.slice a_b n_b c_b))]) Tryz.func120 rfl ?_
 replace h_b:=h_b.now;have hle_b:=h_b.le
 have hgl2:=hg2.lt
 refine ze (zd (za (zo (some 2) (Instr.box 193 (vA (stC s))) (vP w.heap.size 0) (stC s) 193 ?_)))
 intro w1 hBw1 hEw1
 have hzw1:=hEw1.size;have hlw1:=hBw1.lt
 refine za (zo (some 4) (Instr.alloc 193 true (.tuple #[])) (vP w1.heap.size 0) (stC Sta.zero) 193 ?_)
 intro w2 hBw2 hEw2
 have hzw2:=hEw2.size;have hlw2:=hBw2.lt
 refine zf (zb (ze (ze (zd (zc 1 [(7,(vP w.heap.size 0))] (za (zj (some 8) (Instr.loadAt 4 (vP w.heap.size 0)) vT (zk ((hBw1.ext hEw2).cell (show (stC s)[0]? =some vT from congrArg (fun z=>some (Value.bool z)) hp0.bg))) ?_)))))))
 refine zc 1 [(9,vF)] (zf (zb (zn (zu (zb (ze (zy (zY (X:=Nat×Sta×Option Addr) (fun ⟨p,y,ad⟩=> [(1,(.slice ad (n_b-p) (c_b-p)))]) [5,6,11,12,13,14,15,16,17,18,19,20,21,22,23,24,25,26,27,28,29,30,31,32,33,34,35,36,37,38,39,40,41] (fun ⟨p,y,ad⟩ w3=>p≤n_b∧Sm y (l++b.take p)∧Bs lo_b w.heap.size w3 ad (n_b-p) (c_b-p) (b.drop p)∧Blk w3 w.heap.size (stC y) 193∧Blk w3 w1.heap.size (stC Sta.zero) 193∧Ext w w3) (fun ⟨p,y,ad⟩=>n_b-p) (0,s,a_b) (by kernel_rfl) ⟨by omega,by rw [List.take_zero,List.append_nil];exact hp0,by rw [List.drop_zero];exact (((h_b.ext hEw1)).ext hEw2),(hBw1.ext hEw2),hBw2,(hEw1.trans hEw2)⟩ ?_))))))))
 rintro ⟨p,y,ad⟩ dw3 w3 ⟨hp,hsm,hBs,hB2,hB4,hEl⟩
 have hzl:=hEl.size
 have hl2:=hB2.lt;have hl4:=hB4.lt
 have hlen:=h_b.len_eq
 have hle1:=hBs.le
 have hll:(l++b.take p).length=l.length+p:=by simp;omega
 have hmy:y.many=l.length+p:=hsm.many.trans hll
 refine ze (ze (zd (zc 2 [(12,(vI (n_b-p))),(11,(.slice ad (n_b-p) (c_b-p)))] (za (zK (some 13) (decide (((n_b-p:Nat):Int)>((0:Nat):Int))) (fun hc13=> ?_) (fun hc13=> ?_))))))
 ·replace hc13:n_b-p>0:=by have:=zaf hc13;omega
  refine zf (zb (zC (zu (zb (zy (ze (zd (zc 1 [(14,(vP w.heap.size 73))] (za (zj (some 15) (Instr.loadAt 54 (vP w.heap.size 73)) (vQ y.many) (zk (hB2.cell (zg7 _))) ?_))))))))))
  refine za (zt (some 16) .u64 (((y.many:Nat):Int).tmod ((64:Nat):Int)) (y.many%64) (zcF _ _) ?_)
  refine za (zt (some 17) .i64 (IntKind.i64.wrap ((y.many%64:Nat):Int)) (y.many%64) (zA rfl (by omega) (by omega)) ?_)
  refine zc 1 [(5,(vI (y.many%64)))] (zf (zb (ze (zd (zc 2 [(19,(vI (y.many%64))),(18,(vP w.heap.size 9))] (za (zj (some 20) (Instr.sliceAt 191 (vP w.heap.size 9) (some (vI (y.many%64))) none none) (.slice (pA w.heap.size (9+(y.many%64)*1)) (64-(y.many%64)) (64-(y.many%64))) (ziK (len:=64) (E:=5) (sz:=1) (l:=y.many%64) (r:=64) (m:=64) (.inr ⟨_,rfl⟩) (.inl ⟨rfl,rfl⟩) (.inl ⟨rfl,rfl⟩) (by simp) (by omega) (by omega) (by omega) (by omega)) ?_)))))))
  refine zc 1 [(21,(.slice ad (n_b-p) (c_b-p)))] (za (zg9 (a:=(pA w.heap.size (9+(y.many%64)*1))) (dl:=64-(y.many%64)) (dc:=64-(y.many%64)) (some 22) 23 23 3 5 w.heap.size (9+y.many%64) hB2 (fun _=>by rw [Nat.mul_one]) (by simp;omega) hBs.es (fun _=>rfl) ?_))
  intro w4 hBw4 hCw4
  have hzw4:=hCw4.size
  rw [show zac (stC y) (9+y.many%64) (((b.drop p).take (min (n_b-p) (64-(y.many%64)))).map u8v)=stC (y.put (y.many%64) ((b.drop p).take (min (n_b-p) (64-(y.many%64)))) (by simp;omega)) from zse (by simp;omega)] at hBw4
  refine zc 1 [(6,(vI (min (n_b-p) (64-(y.many%64)))))] (zf (zb (ze (zd (zc 1 [(23,(vP w.heap.size 73))] (za (zj (some 24) (Instr.loadAt 54 (vP w.heap.size 73)) (vQ ((y.put (y.many%64) ((b.drop p).take (min (n_b-p) (64-(y.many%64)))) (by simp;omega)).many)) (zk (hBw4.cell (zg7 _))) ?_)))))))
  refine zc 1 [(25,(vI (min (n_b-p) (64-(y.many%64)))))] (za (zt (some 26) .u64 (IntKind.u64.wrap ((min (n_b-p) (64-(y.many%64)):Nat):Int)) (min (n_b-p) (64-(y.many%64))) (zbm rfl rfl (by show _<2^64;omega)) ?_))
  refine za (zt (some 27) .u64 (IntKind.u64.wrap ((((y.put (y.many%64) ((b.drop p).take (min (n_b-p) (64-(y.many%64)))) (by simp;omega)).many:Nat):Int)+((min (n_b-p) (64-(y.many%64)):Nat):Int))) (y.many+min (n_b-p) (64-(y.many%64))) (zbm rfl (by push_cast;rfl) (by show _<2^64;omega)) ?_)
  refine zc 1 [(28,(vP w.heap.size 73))] (za (zah 54 w.heap.size 73 193 (vQ (y.many+min (n_b-p) (64-(y.many%64)))) (stC (y.put (y.many%64) ((b.drop p).take (min (n_b-p) (64-(y.many%64)))) (by simp;omega))) hBw4 (by first | decide |(simp;done)|(simp;omega)) ?_))
  intro w5 hBw5 hCw5
  have hzw5:=hCw5.size
  rw [show ((stC (y.put (y.many%64) ((b.drop p).take (min (n_b-p) (64-(y.many%64)))) (by simp;omega))).set 73 (vQ (y.many+min (n_b-p) (64-(y.many%64)))):List Value)=stC ((y.put (y.many%64) ((b.drop p).take (min (n_b-p) (64-(y.many%64)))) (by simp;omega)).setMany (y.many+min (n_b-p) (64-(y.many%64))) (by omega)) from zmJ (by omega)] at hBw5
  refine zf (zb (ze (zd (zc 2 [(30,(vI (min (n_b-p) (64-(y.many%64))))),(29,(.slice ad (n_b-p) (c_b-p)))] ?_))))
  obtain ⟨a1,hR1,hS1⟩:=((((hBs).chg hCw4 (fun k h1 h2 hs=>by have h:k=_:=hs;omega))).chg hCw5 (fun k h1 h2 hs=>by have h:k=_:=hs;omega)).slice Tryz.prog 23 5 (min (n_b-p) (64-(y.many%64))) (n_b-p) (c_b-p) (some (vI (min (n_b-p) (64-(y.many%64))))) none none
  refine za (zj (some 31) (Instr.sliceAt 23 (.slice ad (n_b-p) (c_b-p)) (some (vI (min (n_b-p) (64-(y.many%64))))) none none) (.slice a1 (n_b-p-(min (n_b-p) (64-(y.many%64)))) (c_b-p-(min (n_b-p) (64-(y.many%64))))) (hR1 _) ?_)
  refine zc 1 [(1,(.slice a1 (n_b-p-(min (n_b-p) (64-(y.many%64)))) (c_b-p-(min (n_b-p) (64-(y.many%64))))))] (zf (zb (ze (zd (zc 2 [(33,(vI (min (n_b-p) (64-(y.many%64))))),(32,(vI (y.many%64)))] (za (zt (some 34) .i64 (IntKind.i64.wrap (((y.many%64:Nat):Int)+((min (n_b-p) (64-(y.many%64)):Nat):Int))) (y.many%64+(min (n_b-p) (64-(y.many%64)))) (zA (by omega) (by omega) (by omega)) ?_)))))))
  refine za (zK (some 35) ((((y.many%64+(min (n_b-p) (64-(y.many%64))):Nat):Int)==((64:Nat):Int))) (fun hc35=> ?_) (fun hc35=> ?_))
  ·replace hc35:y.many%64+(min (n_b-p) (64-(y.many%64)))=64:=by have:=zbp hc35;omega
   refine zf (zb (zC (zd (zc 1 [(36,(vP w.heap.size 1))] (za (zj (some 37) (Instr.loadAt 168 (vP w.heap.size 1)) (vA (w8C ((y.put (y.many%64) ((b.drop p).take (min (n_b-p) (64-(y.many%64)))) (by simp;omega)).setMany (y.many+min (n_b-p) (64-(y.many%64))) (by omega)).h)) (zw (vs:=w8C ((y.put (y.many%64) ((b.drop p).take (min (n_b-p) (64-(y.many%64)))) (by simp;omega)).setMany (y.many+min (n_b-p) (64-(y.many%64))) (by omega)).h) (hBw5.at 1 (w8C ((y.put (y.many%64) ((b.drop p).take (min (n_b-p) (64-(y.many%64)))) (by simp;omega)).setMany (y.many+min (n_b-p) (64-(y.many%64))) (by omega)).h) (zsW _)) (by rw [zbA];kernel_rfl)) ?_))))))
   refine zc 1 [(38,(vP w.heap.size 9))] (za (zj (some 39) (Instr.loadAt 191 (vP w.heap.size 9)) (vA (zcI ((y.put (y.many%64) ((b.drop p).take (min (n_b-p) (64-(y.many%64)))) (by simp;omega)).setMany (y.many+min (n_b-p) (64-(y.many%64))) (by omega)).rb)) (zw (vs:=zcI ((y.put (y.many%64) ((b.drop p).take (min (n_b-p) (64-(y.many%64)))) (by simp;omega)).setMany (y.many+min (n_b-p) (64-(y.many%64))) (by omega)).rb) (hBw5.at 9 (zcI ((y.put (y.many%64) ((b.drop p).take (min (n_b-p) (64-(y.many%64)))) (by simp;omega)).setMany (y.many+min (n_b-p) (64-(y.many%64))) (by omega)).rb) (zqo _)) (by rw [zj1];kernel_rfl)) ?_))
   have hK1:=(((((hg2.ext hEl)).chg hCw4 (fun hs=>by have h:_=_:=hs;omega))).chg hCw5 (fun hs=>by have h:_=_:=hs;omega))
   refine za (zl (some 40) (zqY (((y.put (y.many%64) ((b.drop p).take (min (n_b-p) (64-(y.many%64)))) (by simp;omega)).setMany (y.many+min (n_b-p) (64-(y.many%64))) (by omega)).h) (((y.put (y.many%64) ((b.drop p).take (min (n_b-p) (64-(y.many%64)))) (by simp;omega)).setMany (y.many+min (n_b-p) (64-(y.many%64))) (by omega)).rb) _ hK1) ?_)
   rintro _ w6 ⟨rfl,hEw6⟩
   have hzw6:=hEw6.size
   refine zc 1 [(41,(vP w.heap.size 1))] (za (zv 168 w.heap.size 1 193 (vA (w8C (zey (((y.put (y.many%64) ((b.drop p).take (min (n_b-p) (64-(y.many%64)))) (by simp;omega)).setMany (y.many+min (n_b-p) (64-(y.many%64))) (by omega)).h) (((y.put (y.many%64) ((b.drop p).take (min (n_b-p) (64-(y.many%64)))) (by simp;omega)).setMany (y.many+min (n_b-p) (64-(y.many%64))) (by omega)).rb).l))) (stC ((y.put (y.many%64) ((b.drop p).take (min (n_b-p) (64-(y.many%64)))) (by simp;omega)).setMany (y.many+min (n_b-p) (64-(y.many%64))) (by omega))) (w8C (zey (((y.put (y.many%64) ((b.drop p).take (min (n_b-p) (64-(y.many%64)))) (by simp;omega)).setMany (y.many+min (n_b-p) (64-(y.many%64))) (by omega)).h) (((y.put (y.many%64) ((b.drop p).take (min (n_b-p) (64-(y.many%64)))) (by simp;omega)).setMany (y.many+min (n_b-p) (64-(y.many%64))) (by omega)).rb).l)) (hBw5.ext hEw6) (by rw [zbA];kernel_rfl) (by first |(simp;done)|(simp;omega)) (zdo _) ?_))
   intro w7 hBw7 hCw7
   have hzw7:=hCw7.size
   rw [show (zac (stC ((y.put (y.many%64) ((b.drop p).take (min (n_b-p) (64-(y.many%64)))) (by simp;omega)).setMany (y.many+min (n_b-p) (64-(y.many%64))) (by omega))) 1 (w8C (zey (((y.put (y.many%64) ((b.drop p).take (min (n_b-p) (64-(y.many%64)))) (by simp;omega)).setMany (y.many+min (n_b-p) (64-(y.many%64))) (by omega)).h) (((y.put (y.many%64) ((b.drop p).take (min (n_b-p) (64-(y.many%64)))) (by simp;omega)).setMany (y.many+min (n_b-p) (64-(y.many%64))) (by omega)).rb).l)):List Value)=stC (((y.put (y.many%64) ((b.drop p).take (min (n_b-p) (64-(y.many%64)))) (by simp;omega)).setMany (y.many+min (n_b-p) (64-(y.many%64))) (by omega)).setH (zey (((y.put (y.many%64) ((b.drop p).take (min (n_b-p) (64-(y.many%64)))) (by simp;omega)).setMany (y.many+min (n_b-p) (64-(y.many%64))) (by omega)).h) (((y.put (y.many%64) ((b.drop p).take (min (n_b-p) (64-(y.many%64)))) (by simp;omega)).setMany (y.many+min (n_b-p) (64-(y.many%64))) (by omega)).rb).l)) from zlV] at hBw7
   refine zf (zp (zF ?_))
   rw [show n_b-p-(min (n_b-p) (64-(y.many%64)))=n_b-(p+min (n_b-p) (64-(y.many%64))) from by omega,show c_b-p-(min (n_b-p) (64-(y.many%64)))=c_b-(p+min (n_b-p) (64-(y.many%64))) from by omega]
   have hK2:=((((((((hB4).chg hCw4 (fun hs=>by have h:_=_:=hs;omega))).chg hCw5 (fun hs=>by have h:_=_:=hs;omega))).ext hEw6)).chg hCw7 (fun hs=>by have h:_=_:=hs;omega))
   have hX1:Ext w w7:=(Ext.own ((Ext.own (Ext.own hEl hCw4 (by omega)) hCw5 (by omega)).trans hEw6) hCw7 (by omega))
   refine zR (p+min (n_b-p) (64-(y.many%64)),(((y.put (y.many%64) ((b.drop p).take (min (n_b-p) (64-(y.many%64)))) (by simp;omega)).setMany (y.many+min (n_b-p) (64-(y.many%64))) (by omega)).setH (zey (((y.put (y.many%64) ((b.drop p).take (min (n_b-p) (64-(y.many%64)))) (by simp;omega)).setMany (y.many+min (n_b-p) (64-(y.many%64))) (by omega)).h) (((y.put (y.many%64) ((b.drop p).take (min (n_b-p) (64-(y.many%64)))) (by simp;omega)).setMany (y.many+min (n_b-p) (64-(y.many%64))) (by omega)).rb).l)),a1) ?_ ?_
   ·exact ⟨by omega,by rw [List.take_add,←List.append_assoc];exact hsm.full (a:=y.many%64) (n:=min (n_b-p) (64-(y.many%64))) (by omega) (by simp;omega) (by omega) _ _,by have hz:=(((hS1.ext hEw6)).chg hCw7 (fun k h1 h2 hs=>by have h:k=_:=hs;omega));rw [show n_b-p-(min (n_b-p) (64-(y.many%64)))=n_b-(p+min (n_b-p) (64-(y.many%64))) from by omega,show c_b-p-(min (n_b-p) (64-(y.many%64)))=c_b-(p+min (n_b-p) (64-(y.many%64))) from by omega,List.take_of_length_le (by simp;omega),List.drop_drop] at hz;exact hz,hBw7,hK2,hX1⟩
   ·first | omega |(dsimp only;omega)
  ·replace hc35:¬(y.many%64+(min (n_b-p) (64-(y.many%64)))=64):=by have:=zbo hc35;omega
   refine zf (zb (zn (zu (zp (zF ?_)))))
   rw [show n_b-p-(min (n_b-p) (64-(y.many%64)))=n_b-(p+min (n_b-p) (64-(y.many%64))) from by omega,show c_b-p-(min (n_b-p) (64-(y.many%64)))=c_b-(p+min (n_b-p) (64-(y.many%64))) from by omega]
   refine zR (p+min (n_b-p) (64-(y.many%64)),((y.put (y.many%64) ((b.drop p).take (min (n_b-p) (64-(y.many%64)))) (by simp;omega)).setMany (y.many+min (n_b-p) (64-(y.many%64))) (by omega)),a1) ?_ ?_
   ·exact ⟨by omega,by rw [List.take_add,←List.append_assoc];exact hsm.part (a:=y.many%64) (n:=min (n_b-p) (64-(y.many%64))) (by omega) (by simp;omega) (by omega) _ _,by have hz:=hS1;rw [show n_b-p-(min (n_b-p) (64-(y.many%64)))=n_b-(p+min (n_b-p) (64-(y.many%64))) from by omega,show c_b-p-(min (n_b-p) (64-(y.many%64)))=c_b-(p+min (n_b-p) (64-(y.many%64))) from by omega,List.take_of_length_le (by simp;omega),List.drop_drop] at hz;exact hz,hBw5,((((hB4).chg hCw4 (fun hs=>by have h:_=_:=hs;omega))).chg hCw5 (fun hs=>by have h:_=_:=hs;omega)),(Ext.own (Ext.own hEl hCw4 (by omega)) hCw5 (by omega))⟩
   ·first | omega |(dsimp only;omega)
 ·replace hc13:¬(n_b-p>0):=by have:=zae hc13;omega
  refine zf (zb (zn (zW (zx (zx (zL (zb (ze (zd ?_)))))))))
  refine za (zj (some 42) (Instr.loadAt 193 (vP w.heap.size 0)) (vA (stC y)) (zw (vs:=stC y) (hB2.all) (by rw [zb5];kernel_rfl)) ?_)
  refine za (zv 193 w1.heap.size 0 193 (vA (stC y)) (stC Sta.zero) (stC y) hB4 (by rw [zb5];kernel_rfl) (by first |(simp;done)|(simp;omega)) (zeE _) ?_)
  intro w8 hBw8 hCw8
  have hzw8:=hCw8.size
  rw [zm _ _ (by simp)] at hBw8
  refine zf (zb (zq (zaB (show zZ Tryz.prog 43 _ _ (.cell 4 193) (vA (stC y)) from ⟨⟨w1.heap.size,0,none⟩,(by kernel_rfl),zN (T:=193) (vs:=stC y) (hBw8).all (by rw [zb5];kernel_rfl)⟩) ?_)))
  obtain rfl:p=n_b:=by omega
  rw [List.take_of_length_le (by omega)] at hsm
  exact ⟨y,rfl,hsm,(Ext.own hEl hCw8 (by omega))⟩
end Go.Proofs.YtkmhgepdhilllaaGreatDoor
namespace Go.Proofs.YtkmhgepdhilllaaGreatDoor
open Go Go.RowKit Go.Cs
set_option maxRecDepth 100000
theorem zsB (s:Sta) (l:List UInt8) (w:World) (hp0:Sm s l) (hp1:l.length<1099511627776) (hg2:Gl 3 (zar kA) w):
  Calls Tryz.prog 121 #[(vA (stC s))] w (Ret fun r w'=>r=(vA (zO (zU l)))∧Ext w w'):=by
 refine zI (n:=37) (σ:= [(0,(vA (stC s)))]) Tryz.func121 rfl ?_
 have hgl2:=hg2.lt
 have hs0:s.many=l.length:=hp0.many
 refine ze (zd (za (zo (some 1) (Instr.box 193 (vA (stC s))) (vP w.heap.size 0) (stC s) 193 ?_)))
 intro w1 hBw1 hEw1
 have hzw1:=hEw1.size;have hlw1:=hBw1.lt
 refine za (zo (some 2) (Instr.alloc 59 true (.tuple #[])) (vP w1.heap.size 0) (zO Dig.zero) 59 ?_)
 intro w2 hBw2 hEw2
 have hzw2:=hEw2.size;have hlw2:=hBw2.lt
 refine zf (zb (ze (zd (zc 1 [(6,(vP w.heap.size 73))] (za (zj (some 7) (Instr.loadAt 54 (vP w.heap.size 73)) (vQ s.many) (zk ((hBw1.ext hEw2).cell (zg7 _))) ?_))))))
 refine zc 1 [(3,(vQ s.many))] (zf (zb (ze (zd (za (zj (some 8) (Instr.loadAt 193 (vP w.heap.size 0)) (vA (stC s)) (zw (vs:=stC s) ((hBw1.ext hEw2).all) (by rw [zb5];kernel_rfl)) ?_))))))
 refine za (zo (some 9) (Instr.buildSlice 23 1 #[(0,(vB 128))]) (.slice (pA w2.heap.size 0) 1 1) [(vB 128)] 5 ?_)
 intro w3 hBw3 hEw3
 have hzw3:=hEw3.size;have hlw3:=hBw3.lt
 have hSw3:Bs w2.heap.size (w2.heap.size+1) w3 (pA w2.heap.size 0) 1 1 [128]:=Bs.of_blk hBw3 (by kernel_rfl) rfl (Nat.le_refl _) (by decide) (Nat.le_refl _) (Nat.lt_succ_self _)
 have hK1:=(((((hg2.ext hEw1)).ext hEw2)).ext hEw3)
 refine za (zl (some 10) (zg8 s l _ hSw3 (hp0) (by first | omega |(simp;omega)) hK1) ?_)
 rintro _ w4 ⟨a1,rfl,hFz1_0,hEw4⟩
 have hzw4:=hEw4.size
 have hK2:=(((((hBw1.ext hEw2)).ext hEw3)).ext hEw4)
 refine za (zv 193 w.heap.size 0 193 (vA (stC a1)) (stC s) (stC a1) hK2 (by rw [zb5];kernel_rfl) (by first |(simp;done)|(simp;omega)) (zeE _) ?_)
 have hK3:=(((((hBw1.ext hEw2)).ext hEw3)).ext hEw4)
 intro w5 hBw5 hCw5
 have hzw5:=hCw5.size
 rw [zm _ _ (by simp)] at hBw5
 refine zf (zb (ze (zy ?_)))
 have hK4:=(((((hBw2.ext hEw3)).ext hEw4)).chg hCw5 (fun hs=>by have h:_=_:=hs;omega))
 have hX1:Ext w w5:=(Ext.own (((hEw1.trans hEw2).trans hEw3).trans hEw4) hCw5 (by omega))
 refine zY (X:=Nat×Sta) (fun ⟨z,y⟩=> []) [11,12,13,14,15,16,17] (fun ⟨z,y⟩ w6=>z≤zcY l.length∧Sm y (l++ [128]++List.replicate z 0)∧Blk w6 w.heap.size (stC y) 193∧Blk w6 w1.heap.size (zO Dig.zero) 59∧Ext w w6) (fun ⟨z,y⟩=>zcY l.length-z) (0,a1) (by kernel_rfl) ⟨Nat.zero_le _,by rw [List.replicate_zero,List.append_nil];exact hFz1_0,hBw5,hK4,hX1⟩ ?_
 rintro ⟨z,y⟩ dw6 w6 ⟨hz,hsm,hB1,hB2,hEl⟩
 have hzl:=hEl.size
 have hl1:=hB1.lt;have hl2:=hB2.lt
 have hmy:y.many=l.length+1+z:=hsm.many.trans (by simp;omega)
 have hpz:zcY l.length=(119-l.length%64)%64:=rfl
 refine ze (ze (zd (zc 1 [(11,(vP w.heap.size 73))] (za (zj (some 12) (Instr.loadAt 54 (vP w.heap.size 73)) (vQ y.many) (zk (hB1.cell (zg7 _))) ?_)))))
 refine za (zt (some 13) .u64 (((y.many:Nat):Int).tmod ((64:Nat):Int)) (y.many%64) (zcF _ _) ?_)
 refine za (zK (some 14) ((((y.many%64:Nat):Int) !=((56:Nat):Int))) (fun hc14=> ?_) (fun hc14=> ?_))
 ·replace hc14:¬(y.many%64=56):=by have:=zbE hc14;omega
  refine zf (zb (zC (zu (zb (zy (zd (za (zj (some 15) (Instr.loadAt 193 (vP w.heap.size 0)) (vA (stC y)) (zw (vs:=stC y) (hB1.all) (by rw [zb5];kernel_rfl)) ?_))))))))
  refine za (zo (some 16) (Instr.buildSlice 23 1 #[(0,(vB 0))]) (.slice (pA w6.heap.size 0) 1 1) [(vB 0)] 5 ?_)
  intro w7 hBw7 hEw7
  have hzw7:=hEw7.size;have hlw7:=hBw7.lt
  have hSw7:Bs w6.heap.size (w6.heap.size+1) w7 (pA w6.heap.size 0) 1 1 [0]:=Bs.of_blk hBw7 (by kernel_rfl) rfl (Nat.le_refl _) (by decide) (Nat.le_refl _) (Nat.lt_succ_self _)
  refine za (zl (some 17) (zg8 y (l++ [128]++List.replicate z 0) _ hSw7 (hsm) (by first | omega |(simp;omega)) (((hg2.ext hEl)).ext hEw7)) ?_)
  rintro _ w8 ⟨a2,rfl,hFz2_0,hEw8⟩
  have hzw8:=hEw8.size
  refine za (zv 193 w.heap.size 0 193 (vA (stC a2)) (stC y) (stC a2) (((hB1.ext hEw7)).ext hEw8) (by rw [zb5];kernel_rfl) (by first |(simp;done)|(simp;omega)) (zeE _) ?_)
  intro w9 hBw9 hCw9
  have hzw9:=hCw9.size
  rw [zm _ _ (by simp)] at hBw9
  refine zf (zp (zF ?_))
  have hK5:=(((((hB2.ext hEw7)).ext hEw8)).chg hCw9 (fun hs=>by have h:_=_:=hs;omega))
  have hX2:Ext w w9:=(Ext.own ((hEl.trans hEw7).trans hEw8) hCw9 (by omega))
  refine zR (z+1,a2) ?_ ?_
  ·exact ⟨by omega,by have hz:=hFz2_0;rw [List.append_assoc] at hz;rw [List.replicate_succ'];exact hz,hBw9,hK5,hX2⟩
  ·first | omega |(dsimp only;omega)
 ·replace hc14:y.many%64=56:=by have:=zbG hc14;omega
  refine zf (zb (zn (zW (zx (zx (zL (zb (ze (zT (Ext w6.drew) 6 [(19,2,0),(20,8,0),(21,524288,2),(22,1048576,4),(23,2359296,9),(0,4194306,31)] (fun hT96=> ?_))))))))))
  have hEw10:Ext w6 w6.drew:=Ext.drew w6
  generalize w6.drew=w10 at hEw10⊢
  have hzw10:=hEw10.size
  refine zg hT96 0 1 (some 18) (vA (stC y)) (zi (Instr.loadAt 193 (vP w.heap.size 0)) (fun w' hC=>zw (vs:=stC y) (((hB1.ext hEw10).ext hC).all) (by rw [zb5];kernel_rfl))) (zh hT96 [(1,19,(vQ s.many))] 1 3 (zg hT96 2 7 (some 20) (vQ (8*l.length%2^64)) (zaa .u64 (IntKind.u64.wrap (((8:Nat):Int)*((s.many:Nat):Int))) (by rw [hs0];exact zb2 rfl (by simp))) (zz 3 15 (zl (some 21) (zlM (8*l.length%2^64) _) ?_))))
  rintro _ w11 ⟨a3,rfl,hFz3_0,hEw11⟩
  have hzw11:=hEw11.size
  refine ⟨.inr hEw11, ?_⟩
  have hK6:=(((((hg2.ext hEl)).ext hEw10)).ext hEw11)
  refine zz 4 31 (zl (some 22) (zg8 y (l++ [128]++List.replicate z 0) _ hFz3_0 (hsm) (by first | omega |(simp;omega)) hK6) ?_)
  rintro _ w12 ⟨a4,rfl,hFz4_0,hEw12⟩
  have hzw12:=hEw12.size
  have hX3:Ext w10 w12:=(hEw11.trans hEw12)
  refine ⟨.inr hX3, ?_⟩
  have hK7:=(((((hB1.ext hEw10)).ext hEw11)).ext hEw12)
  refine zz 5 63 (zv 193 w.heap.size 0 193 (vA (stC a4)) (stC y) (stC a4) hK7 (by rw [zb5];kernel_rfl) (by first |(simp;done)|(simp;omega)) (zeE _) ?_)
  have hK8:=(((((hB1.ext hEw10)).ext hEw11)).ext hEw12)
  intro w13 hBw13 hCw13
  have hzw13:=hCw13.size
  rw [zm _ _ (by simp)] at hBw13
  refine ⟨.inl (by kernel_rfl), ?_⟩
  refine zJ (zb (ze (ze (zd (zc 1 [(23,(vP w.heap.size 1))] (za (zj (some 24) (Instr.loadAt 168 (vP w.heap.size 1)) (vA (w8C a4.h)) (zw (vs:=w8C a4.h) (hBw13.at 1 (w8C a4.h) (zsW _)) (by rw [zbA];kernel_rfl)) ?_)))))))
  refine zc 1 [(25,(vI 0))] (zf (zb (zy ?_)))
  obtain rfl:z=zcY l.length:=by omega
  have hfin:a4.h=zda (zbU l) ((zbU l).length/64):=by exact (show Sm _ (zbU l) from hFz4_0).h
  generalize hH:a4.h=H at hfin⊢
  have hK9:=(((((((hB2.ext hEw10)).ext hEw11)).ext hEw12)).chg hCw13 (fun hs=>by have h:_=_:=hs;omega))
  have hX4:Ext w w13:=(Ext.own (((hEl.trans hEw10).trans hEw11).trans hEw12) hCw13 (by omega))
  refine zY (X:=Nat) (fun i=> [(25,(vI i))]) [4,5,26,27,28,29,30,31,32,33,34,35] (fun i w14=>i≤8∧Blk w14 w1.heap.size (u8s (dgP H i)) 59∧Ext w w14) (fun i=>8-i) 0 (by kernel_rfl) ⟨by omega,(zjM H).symm▸hK9,hX4⟩ ?_
  rintro i dw14 w14 ⟨hi,hBd,hEm⟩
  have hzm:=hEm.size
  have hld:=hBd.lt
  have hdl:=ziE H hi
  refine ze (zd (za (zK (some 26) (decide (((i:Nat):Int)<((8:Nat):Int))) (fun hc26=> ?_) (fun hc26=> ?_))))
  ·replace hc26:i<8:=by have:=zaf hc26;omega
   refine zf (zb (ze (zC (zu (zb (ze (zy (ze (zd ?_)))))))))
   refine zc 1 [(27,(vI i))] (za (zj (some 28) (Instr.index 168 (vA (w8C H)) (vI i)) (vW ((H.get i).toNat)) (zhk (E:=53) (m:=8) (by omega) (zqf (by omega))) ?_))
   refine zc 2 [(5,(vW ((H.get i).toNat))),(4,(vI i))] (zf (zb (zT (Chg (fun k=>k=w1.heap.size) w14.drew) 6 [(30,16,0),(31,536870912,1),(32,1073741828,2),(33,32,0),(34,4294967296,8),(35,10737418240,20)] (fun hT160=> ?_))))
   have hEw15:Ext w14 w14.drew:=Ext.drew w14
   generalize w14.drew=w15 at hEw15⊢
   have hzw15:=hEw15.size
   have hX5:Chg (fun k=>k=w1.heap.size) w15 w15:=(Chg.refl (fun k=>k=w1.heap.size) w15)
   refine zh (hw:=hX5) hT160 [(0,29,(vI i))] 1 1 (zg (hw:=hX5) hT160 1 3 (some 30) (vI (4*i)) (zaa .i64 (IntKind.i64.wrap (((4:Nat):Int)*((i:Nat):Int))) (zA (by omega) (by omega) (by omega))) (zg (hw:=hX5) hT160 2 7 (some 31) (.slice (pA w1.heap.size (0+(4*i)*1)) (32-(4*i)) (32-(4*i))) (zi (Instr.sliceAt 59 (vP w1.heap.size 0) (some (vI (4*i))) none none) (fun w' hC=>ziK (len:=32) (E:=5) (sz:=1) (l:=4*i) (r:=32) (m:=32) (.inr ⟨_,rfl⟩) (.inl ⟨rfl,rfl⟩) (.inl ⟨rfl,rfl⟩) (by simp) (by omega) (by omega) (by omega) (by omega))) (zh (hw:=hX5) hT160 [(3,32,(vW ((H.get i).toNat)))] 1 15 (zz 4 31 (zl (some 33) (zfn ((H.get i).toNat) _ (UInt32.toNat_lt _)) ?_)))))
   rintro _ w16 ⟨a5,rfl,hFz5_0,hEw16⟩
   have hzw16:=hEw16.size
   have hX6:Chg (fun k=>k=w1.heap.size) w15 w16:=((Chg.refl (fun k=>k=w1.heap.size) w15).trans hEw16.chg)
   refine ⟨.inr hX6, ?_⟩
   refine zz 5 63 (zg9 (a:=(pA w1.heap.size (0+(4*i)*1))) (dl:=32-(4*i)) (dc:=32-(4*i)) (some 34) 23 23 3 5 w1.heap.size (i*4) (((hBd.ext hEw15)).ext hEw16) (fun _=>by rw [Nat.zero_add,Nat.mul_one,Nat.mul_comm]) (by rw [zaV,hdl];omega) hFz5_0.es (fun _=>rfl) ?_)
   intro w17 hBw17 hCw17
   have hzw17:=hCw17.size
   rw [show zac (u8s (dgP H i)) (i*4) (((be ((H.get i).toNat) 4).take (min 4 (32-(4*i)))).map u8v)=u8s (dgP H (i+1)) from by rw [show min 4 (32-(4*i))=4 from by omega,List.take_of_length_le (by simp)];exact zo1 (by omega)] at hBw17
   have hX7:Chg (fun k=>k=w1.heap.size) w15 w17:=(Chg.then ((Chg.refl (fun k=>k=w1.heap.size) w15).trans hEw16.chg) hCw17 (fun k hk hs=>by have h:k=_:=hs;first | exact hs | exact .inl h | exact .inr h |(exfalso;omega)))
   refine ⟨.inr hX7, ?_⟩
   refine zJ (zp (zb (zd (za (zt (some 35) .i64 (IntKind.i64.wrap (((i:Nat):Int)+((1:Nat):Int))) (i+1) (zA (by omega) (by omega) (by omega)) ?_)))))
   refine zc 1 [(25,(vI (i+1)))] (zf (zF ?_))
   have hX8:Ext w w17:=(Ext.own ((hEm.trans hEw15).trans hEw16) hCw17 (by omega))
   refine zR (i+1) ?_ ?_
   ·exact ⟨by omega,hBw17,hX8⟩
   ·first | omega |(dsimp only;omega)
  ·replace hc26:¬(i<8):=by have:=zae hc26;omega
   refine zf (zb (ze (zn (zW (zx (zx (zL (zb (ze ?_)))))))))
   refine zd ?_
   obtain rfl:i=8:=by omega
   have hBe:Blk w14 w1.heap.size (zO (zU l)) 59:=by have hq:=hBd;rw [hfin,zlX] at hq;exact hq
   refine za (zj (some 36) (Instr.loadAt 59 (vP w1.heap.size 0)) (vA (zO (zU l))) (zw (vs:=zO (zU l)) hBe.all (by rw [zal];kernel_rfl)) ?_)
   refine za (zv 59 w1.heap.size 0 59 (vA (zO (zU l))) (zO (zU l)) (zO (zU l)) hBe (by rw [zal];kernel_rfl) (by first |(simp;done)|(simp;omega)) (zbH _) ?_)
   intro w18 hBw18 hCw18
   have hzw18:=hCw18.size
   rw [zm _ _ (by simp)] at hBw18
   exact zf (zb (zq (zaB (show zZ Tryz.prog 37 _ _ (.cell 2 59) (vA (zO (zU l))) from ⟨⟨w1.heap.size,0,none⟩,(by kernel_rfl),zN (T:=59) (vs:=zO (zU l)) (hBw18).all (by rw [zal];kernel_rfl)⟩) (⟨rfl,(Ext.own hEm hCw18 (by omega))⟩))))
theorem ztT {lo_ls hi_ls:Nat} {a_ls:Option Addr} {n_ls c_ls:Nat} {v_ls:List Value} {ls:List (List UInt8)} (w:World) (h_ls:Ps lo_ls hi_ls w a_ls n_ls c_ls v_ls ls) (hp0:zX ls<1099511627776) (hg1:Gl 1 (w8C za6) w) (hg2:Gl 3 (zar kA) w):
  Calls Tryz.prog 90 #[(.slice a_ls n_ls c_ls)] w (Ret fun r w'=>r=(vA (zO (zU ls.flatten)))∧Ext w w'):=by
 refine zI (n:=19) (σ:= [(0,(.slice a_ls n_ls c_ls))]) Tryz.func90 rfl ?_
 replace h_ls:=h_ls.now;have hle_ls:=h_ls.le
 have hgl1:=hg1.lt
 have hgl2:=hg2.lt
 refine ze (zd (za (zo (some 2) (Instr.alloc 59 true (.tuple #[])) (vP w.heap.size 0) (zO Dig.zero) 59 ?_)))
 intro w1 hBw1 hEw1
 have hzw1:=hEw1.size;have hlw1:=hBw1.lt
 refine zf (zb (ze (zd (za (zl (some 6) (ztF _ (hg1.ext hEw1)) ?_)))))
 rintro _ w2 ⟨rfl,hEw2⟩
 have hzw2:=hEw2.size
 refine za (zo (some 3) (Instr.alloc 193 true (.tuple #[])) (vP w2.heap.size 0) (stC Sta.zero) 193 ?_)
 intro w3 hBw3 hEw3
 have hzw3:=hEw3.size;have hlw3:=hBw3.lt
 refine za (zv 193 w2.heap.size 0 193 (vA (stC Sta.new)) (stC Sta.zero) (stC Sta.new) hBw3 (by rw [zb5];kernel_rfl) (by first |(simp;done)|(simp;omega)) (zeE _) ?_)
 intro w4 hBw4 hCw4
 have hzw4:=hCw4.size
 rw [zm _ _ (by simp)] at hBw4
 refine zf (zb (ze (ze (zd (zc 3 [(9,(vI 0)),(8,(vI n_ls)),(7,(.slice a_ls n_ls c_ls))] (zf (zb (zy ?_))))))))
 have hK1:=(((((hBw1.ext hEw2)).ext hEw3)).chg hCw4 (fun hs=>by have h:_=_:=hs;omega))
 have hX1:Ext w w4:=(Ext.own ((hEw1.trans hEw2).trans hEw3) hCw4 (by omega))
 refine zY (X:=Nat×Sta) (fun ⟨i,y⟩=> [(9,(vI i))]) [5,10,11,12,13,14,15,16] (fun ⟨i,y⟩ w5=>i≤n_ls∧Sm y (ls.take i).flatten∧Blk w5 w2.heap.size (stC y) 193∧Blk w5 w.heap.size (zO Dig.zero) 59∧Ext w w5) (fun ⟨i,y⟩=>n_ls-i) (0,Sta.new) (by kernel_rfl) ⟨by omega,Sm.new,hBw4,hK1,hX1⟩ ?_
 rintro ⟨i,y⟩ dw5 w5 ⟨hi,hsm,hB3,hB2,hEl⟩
 have hzl:=hEl.size
 have hl3:=hB3.lt;have hl2:=hB2.lt
 have hlen:=h_ls.len_eq
 have hsl:=zen ls i
 have hsl1:=zen ls (i+1)
 have hfl:=zdQ (ls.take i)
 refine ze (zd (za (zK (some 10) (decide (((i:Nat):Int)<((n_ls:Nat):Int))) (fun hc10=> ?_) (fun hc10=> ?_))))
 ·replace hc10:i<n_ls:=by have:=zaf hc10;omega
  refine zf (zb (ze (zC (zu (zb (ze (zy (ze (zd ?_)))))))))
  obtain ⟨b1,o1,rfl⟩:=h_ls.addr (by omega)
  refine za (zj (some 11) (Instr.indexAt 190 (.slice (pA b1 o1) n_ls c_ls) (vI i)) (vP b1 (o1+i*1)) (zP (E:=23) (sz:=1) (by omega)) ?_)
  obtain ⟨a1,n1,cp1,hP1,hS1⟩:=((h_ls.ext hEl)).cell (i:=i) (by omega)
  have hlehS1:=hS1.le;have hlnhS1:=hS1.len_eq;have hsthS1:=zeS (ls:=ls) (i:=i) (by omega)
  refine za (zj (some 12) (Instr.loadAt 23 (vP b1 (o1+i*1))) (.slice a1 n1 cp1) (zk hP1) ?_)
  refine zc 1 [(5,(.slice a1 n1 cp1))] (zf (zb (zd (za (zj (some 13) (Instr.loadAt 193 (vP w2.heap.size 0)) (vA (stC y)) (zw (vs:=stC y) (hB3.all) (by rw [zb5];kernel_rfl)) ?_)))))
  refine zc 1 [(14,(.slice a1 n1 cp1))] (za (zl (some 15) (zg8 y ((ls.take i).flatten) _ hS1 (hsm) (by first | omega | decide) (hg2.ext hEl)) ?_))
  rintro _ w6 ⟨a2,rfl,hFz2_0,hEw6⟩
  have hzw6:=hEw6.size
  refine za (zv 193 w2.heap.size 0 193 (vA (stC a2)) (stC y) (stC a2) (hB3.ext hEw6) (by rw [zb5];kernel_rfl) (by first |(simp;done)|(simp;omega)) (zeE _) ?_)
  intro w7 hBw7 hCw7
  have hzw7:=hCw7.size
  rw [zm _ _ (by simp)] at hBw7
  refine zf (zp (zb (zd (za (zt (some 16) .i64 (IntKind.i64.wrap (((i:Nat):Int)+((1:Nat):Int))) (i+1) (zA (by omega) (by omega) (by omega)) ?_)))))
  refine zc 1 [(9,(vI (i+1)))] (zf (zF (zR (i+1,a2) ?_ ?_)))
  ·exact ⟨by omega,by rw [zgB (by omega)];exact hFz2_0,hBw7,(((hB2.ext hEw6)).chg hCw7 (fun hs=>by have h:_=_:=hs;omega)),(Ext.own (hEl.trans hEw6) hCw7 (by omega))⟩
  ·first | omega |(dsimp only;omega)
 ·replace hc10:¬(i<n_ls):=by have:=zae hc10;omega
  obtain rfl:i=n_ls:=by omega
  rw [List.take_of_length_le (by omega)] at hsm hfl
  refine zf (zb (ze (zn (zW (zx (zx (zL (zb (ze ?_)))))))))
  refine zd (za (zj (some 17) (Instr.loadAt 193 (vP w2.heap.size 0)) (vA (stC y)) (zw (vs:=stC y) (hB3.all) (by rw [zb5];kernel_rfl)) ?_))
  refine za (zl (some 18) (zsB y ls.flatten _ (hsm) (by first | omega | decide) (hg2.ext hEl)) ?_)
  rintro _ w8 ⟨rfl,hEw8⟩
  have hzw8:=hEw8.size
  refine za (zv 59 w.heap.size 0 59 (vA (zO (zU ls.flatten))) (zO Dig.zero) (zO (zU ls.flatten)) (hB2.ext hEw8) (by rw [zal];kernel_rfl) (by first |(simp;done)|(simp;omega)) (zbH _) ?_)
  intro w9 hBw9 hCw9
  have hzw9:=hCw9.size
  rw [zm _ _ (by simp)] at hBw9
  exact zf (zb (zq (zaB (show zZ Tryz.prog 19 _ _ (.cell 2 59) (vA (zO (zU ls.flatten))) from ⟨⟨w.heap.size,0,none⟩,(by kernel_rfl),zN (T:=59) (vs:=zO (zU ls.flatten)) (hBw9).all (by rw [zal];kernel_rfl)⟩) (⟨rfl,(Ext.own (hEl.trans hEw8) hCw9 (by omega))⟩))))
end Go.Proofs.YtkmhgepdhilllaaGreatDoor
namespace Go.Proofs.YtkmhgepdhilllaaGreatDoor
open Go Go.RowKit Go.Cs
set_option maxRecDepth 100000
theorem zsR {lo_b hi_b:Nat} {a_b:Option Addr} {n_b c_b:Nat} {b:List UInt8} (w:World) (h_b:Bs lo_b hi_b w a_b n_b c_b b) (hp0:n_b≤1099511627776):
  Calls Tryz.prog 83 #[(.slice a_b n_b c_b)] w (Ret fun r w'=>r=(vA (zO (zU b)))∧Ext w w'):=by
 refine zI (n:=69) (σ:= [(0,(.slice a_b n_b c_b))]) Tryz.func83 rfl ?_
 replace h_b:=h_b.now;have hle_b:=h_b.le
 refine ze (zd (za (zo (some 2) (Instr.alloc 59 true (.tuple #[])) (vP w.heap.size 0) (zO Dig.zero) 59 ?_)))
 intro w1 hBw1 hEw1
 have hzw1:=hEw1.size;have hlw1:=hBw1.lt
 refine zf (zb (ze (zd (za (zo (some 11) (Instr.buildSlice 23 0 #[]) (.slice (pA w1.heap.size 0) 0 0) [] 5 ?_)))))
 intro w2 hBw2 hEw2
 have hzw2:=hEw2.size;have hlw2:=hBw2.lt
 have hSw2:Bs w1.heap.size (w1.heap.size+1) w2 (pA w1.heap.size 0) 0 0 []:=Bs.of_blk hBw2 (by kernel_rfl) rfl (Nat.le_refl _) (by decide) (Nat.le_refl _) (Nat.lt_succ_self _)
 refine zc 1 [(12,(.slice a_b n_b c_b))] ?_
 have hO1:Cs.Own u8v w1.heap.size (w1.heap.size+1) w2 (pA w1.heap.size 0) 0 0 5 ([]):=Cs.Own.of_blk hBw2 (by simp) (by first | rfl | exact rfl) hSw2.len_eq (Nat.le_refl _) (by simp only [maxLen];omega) (Nat.le_refl _) (Nat.lt_succ_self _)
 refine za (zbc (some 13) 23 23 5 1 (.int .u8 0) hO1 (((h_b.ext hEw1)).ext hEw2).es (fun _=>rfl) ?_)
 intro a1 c1 w3 hOw3 hCw3
 have hzw3:=hCw3.size
 have hSw3:=hOw3.bs
 refine za (zo (some 14) (Instr.buildSlice 23 1 #[(0,(vB 128))]) (.slice (pA w3.heap.size 0) 1 1) [(vB 128)] 5 ?_)
 intro w4 hBw4 hEw4
 have hzw4:=hEw4.size;have hlw4:=hBw4.lt
 have hSw4:Bs w3.heap.size (w3.heap.size+1) w4 (pA w3.heap.size 0) 1 1 [128]:=Bs.of_blk hBw4 (by kernel_rfl) rfl (Nat.le_refl _) (by decide) (Nat.le_refl _) (Nat.lt_succ_self _)
 refine za (zbc (some 15) 23 23 5 1 (.int .u8 0) (hOw3.ext hEw4) hSw4.es (fun _=>rfl) ?_)
 intro a2 c2 w5 hOw5 hCw5
 have hzw5:=hCw5.size
 have hSw5:=hOw5.bs
 refine zc 1 [(3,(.slice a2 (0+n_b+1) c2))] (zf (zb (ze (zy ?_))))
 have hK1:=(((((((hBw1.ext hEw2)).chg hCw3 (fun hs=>by have hn:=hO1.ne hs;omega))).ext hEw4)).chg hCw5 (fun hs=>by have hn:=(hOw3.ext hEw4).ne hs;omega))
 have hX1:Ext w1 w5:=(Ext.ownS ((Ext.ownS hEw2 hCw3 (fun k hs hk=>by have hn:=hO1.ne hs;omega)).trans hEw4) hCw5 (fun k hs hk=>by have hn:=(hOw3.ext hEw4).ne hs;omega))
 refine zY (X:=Nat×Option Addr×Nat) (fun ⟨z,p,cp⟩=> [(3,(.slice p (0+n_b+1+z) cp))]) [16,17,18,19,20,21,22] (fun ⟨z,p,cp⟩ w6=>z≤zcY b.length∧Cs.Own u8v w1.heap.size w6.heap.size w6 p (0+n_b+1+z) cp 5 (b++ [128]++List.replicate z 0)∧Blk w6 w.heap.size (zO Dig.zero) 59∧Ext w1 w6) (fun ⟨z,p,cp⟩=>zcY b.length-z) (0,a2,c2) (by kernel_rfl) ⟨Nat.zero_le _,by rw [List.replicate_zero,List.append_nil];exact (hOw5).mono (by omega) (Nat.le_refl _),hK1,hX1⟩ ?_
 rintro ⟨z,p,cp⟩ dw6 w6 ⟨hz,hO,hB2,hEl⟩
 have hzl:=hEl.size
 have hlen:=h_b.len_eq
 have hl2:=hB2.lt
 have hle:=hO.es.le
 have hpz:zcY b.length=(119-b.length%64)%64:=rfl
 refine ze (ze (zd (zc 2 [(17,(vI (0+n_b+1+z))),(16,(.slice p (0+n_b+1+z) cp))] (za (zt (some 18) .i64 (((0+n_b+1+z:Nat):Int).tmod ((64:Nat):Int)) ((0+n_b+1+z)%64) (zcF _ _) ?_)))))
 refine za (zK (some 19) (((((0+n_b+1+z)%64:Nat):Int) !=((56:Nat):Int))) (fun hc19=> ?_) (fun hc19=> ?_))
 ·replace hc19:¬((0+n_b+1+z)%64=56):=by have:=zbE hc19;omega
  refine zf (zb (zC (zu (zb (zy (zd (zc 1 [(20,(.slice p (0+n_b+1+z) cp))] (za (zo (some 21) (Instr.buildSlice 23 1 #[(0,(vB 0))]) (.slice (pA w6.heap.size 0) 1 1) [(vB 0)] 5 ?_)))))))))
  intro w7 hBw7 hEw7
  have hzw7:=hEw7.size;have hlw7:=hBw7.lt
  have hSw7:Bs w6.heap.size (w6.heap.size+1) w7 (pA w6.heap.size 0) 1 1 [0]:=Bs.of_blk hBw7 (by kernel_rfl) rfl (Nat.le_refl _) (by decide) (Nat.le_refl _) (Nat.lt_succ_self _)
  refine za (zbc (some 22) 23 23 5 1 (.int .u8 0) (hO.ext hEw7) hSw7.es (fun _=>rfl) ?_)
  intro a3 c3 w8 hOw8 hCw8
  have hzw8:=hCw8.size
  have hSw8:=hOw8.bs
  refine zc 1 [(3,(.slice a3 (0+n_b+1+z+1) c3))] (zf (zp (zF (zR (z+1,a3,c3) ?_ ?_))))
  ·exact ⟨by omega,by have hz:=hOw8;rw [List.append_assoc] at hz;rw [List.replicate_succ'];exact hz,(((hB2.ext hEw7)).chg hCw8 (fun hs=>by have hn:=(hO.ext hEw7).ne hs;omega)),(Ext.ownS (hEl.trans hEw7) hCw8 (fun k hs hk=>by have hn:=(hO.ext hEw7).ne hs;omega))⟩
  ·first | omega |(dsimp only;omega)
 ·replace hc19:(0+n_b+1+z)%64=56:=by have:=zbG hc19;omega
  refine zf (zb (zn (zW (zx (zx (zL (zb (ze (zd ?_)))))))))
  refine zc 3 [(25,(vI n_b)),(24,(.slice a_b n_b c_b)),(23,(.slice p (0+n_b+1+z) cp))] (za (zt (some 26) .u64 (IntKind.u64.wrap ((n_b:Nat):Int)) n_b (zbm rfl rfl (by show _<2^64;omega)) ?_))
  refine za (zt (some 27) .u64 (IntKind.u64.wrap (((8:Nat):Int)*((n_b:Nat):Int))) ((8*n_b)%2^64) (zb2 rfl (by simp)) ?_)
  refine za (zl (some 28) (zkO ((8*n_b)%2^64) _ (Nat.mod_lt _ (by decide))) ?_)
  rintro _ w9 ⟨a4,rfl,hFz1_0,hFz1_1,hFz1_2,hFz1_3,hEw9⟩
  have hzw9:=hEw9.size
  have hla4:=hFz1_1.lt;have hna4:=hFz1_3
  have hSa4:Bs a4 (a4+1) w9 (pA a4 0) 8 8 (be ((8*n_b)%2^64) 8):=Bs.of_blk hFz1_1 rfl hFz1_2 (Nat.le_refl _) (zcd hna4) (Nat.le_refl _) (Nat.lt_succ_self _)
  refine za (zbc (some 29) 23 23 5 1 (.int .u8 0) (hO.ext hEw9) hSa4.es (fun _=>rfl) ?_)
  intro a5 c4 w10 hOw10 hCw10
  have hzw10:=hCw10.size
  have hSw10:=hOw10.bs
  refine zc 1 [(3,(.slice a5 (0+n_b+1+z+8) c4))] (zf (zb (ze (zd (za (zl (some 31) (zjK _) ?_))))))
  rintro _ w11 ⟨rfl,hEw11⟩
  have hzw11:=hEw11.size
  refine zc 3 [(33,(vA (w8C za6))),(32,(vA (zar kA))),(30,(.tuple #[(vA (zar kA)),(vA (w8C za6))]))] (za (zo (some 4) (Instr.alloc 167 true (.tuple #[])) (vP w11.heap.size 0) (zar (WA.zero 64)) 167 ?_))
  intro w12 hBw12 hEw12
  have hzw12:=hEw12.size;have hlw12:=hBw12.lt
  refine za (zo (some 5) (Instr.alloc 168 true (.tuple #[])) (vP w12.heap.size 0) (w8C (WA.zero 8)) 168 ?_)
  intro w13 hBw13 hEw13
  have hzw13:=hEw13.size;have hlw13:=hBw13.lt
  refine za (zv 167 w11.heap.size 0 167 (vA (zar kA)) (zar (WA.zero 64)) (zar kA) (hBw12.ext hEw13) (by rw [zdd];kernel_rfl) (by first |(simp;done)|(simp;omega)) (zfx _) ?_)
  intro w14 hBw14 hCw14
  have hzw14:=hCw14.size
  rw [zm _ _ (by simp)] at hBw14
  refine za (zv 168 w12.heap.size 0 168 (vA (w8C za6)) (w8C (WA.zero 8)) (w8C za6) ((hBw13).chg hCw14 (fun hs=>by have h:_=_:=hs;omega)) (by rw [zbA];kernel_rfl) (by first |(simp;done)|(simp;omega)) (zdo _) ?_)
  intro w15 hBw15 hCw15
  have hzw15:=hCw15.size
  rw [zm _ _ (by simp)] at hBw15
  refine zf (zb (ze (ze (zd (zc 1 [(6,(vI 0))] (zf (zb (zy ?_))))))))
  obtain rfl:z=zcY b.length:=by omega
  have hK2:=(((((((((hSw10.ext hEw11)).ext hEw12)).ext hEw13)).chg hCw14 (fun k h1 h2 hs=>by have h:k=_:=hs;omega))).chg hCw15 (fun k h1 h2 hs=>by have h:k=_:=hs;omega))
  have hSp:Bs w1.heap.size w10.heap.size w15 a5 (0+n_b+1+(zcY b.length)+8) c4 (zbU b):=by have hq:=hK2;rw [zr7 hlen rfl] at hq;exact hq
  have hpl:(zbU b).length=0+n_b+1+(zcY b.length)+8:=hSp.len_eq.symm
  have hp64:=zpq b
  have hK3:=(((((((((((((hB2.ext hEw9)).chg hCw10 (fun hs=>by have hn:=(hO.ext hEw9).ne hs;omega))).ext hEw11)).ext hEw12)).ext hEw13)).chg hCw14 (fun hs=>by have h:_=_:=hs;omega))).chg hCw15 (fun hs=>by have h:_=_:=hs;omega))
  have hX2:Ext w1 w15:=(Ext.own (Ext.own ((((Ext.ownS (hEl.trans hEw9) hCw10 (fun k hs hk=>by have hn:=(hO.ext hEw9).ne hs;omega)).trans hEw11).trans hEw12).trans hEw13) hCw14 (by omega)) hCw15 (by omega))
  refine zY (X:=Nat) (fun k=> [(6,(vI (64*k)))]) [34,35,36,37,38,39,40,41,42,43,44,45,46] (fun k w16=>k≤(zbU b).length/64∧Bs w1.heap.size w10.heap.size w16 a5 (0+n_b+1+(zcY b.length)+8) c4 (zbU b)∧Blk w16 w12.heap.size (w8C (zda (zbU b) k)) 168∧Blk w16 w.heap.size (zO Dig.zero) 59∧Ext w1 w16) (fun k=>(zbU b).length/64-k) 0 (by kernel_rfl) ⟨Nat.zero_le _,hSp,hBw15,hK3,hX2⟩ ?_
  rintro k dw16 w16 ⟨hk,hSk,hB5,hB2b,hEm⟩
  have hzm:=hEm.size
  have hl5:=hB5.lt;have hl2b:=hB2b.lt
  have hlk:=hSk.le
  refine ze (ze (zd (zc 3 [(36,(vI (0+n_b+1+(zcY b.length)+8))),(35,(.slice a5 (0+n_b+1+(zcY b.length)+8) c4)),(34,(vI (64*k)))] (za (zK (some 37) (decide (((64*k:Nat):Int)<((0+n_b+1+(zcY b.length)+8:Nat):Int))) (fun hc37=> ?_) (fun hc37=> ?_))))))
  ·replace hc37:64*k<0+n_b+1+(zcY b.length)+8:=by have:=zaf hc37;omega
   refine zf (zb (zC (zu (zb (ze (zy (zT (Ext w16.drew) 8 [(41,32,0),(42,8,0),(43,64,0),(44,64,0),(45,8796093022208,8),(46,24189255811072,22),(47,36283883716608,33),(0,70368744177696,127)] (fun hT155=> ?_))))))))
   have hEw17:Ext w16 w16.drew:=Ext.drew w16
   generalize w16.drew=w17 at hEw17⊢
   have hzw17:=hEw17.size
   refine zg hT155 0 1 (some 40) (vA (w8C (zda (zbU b) k))) (zi (Instr.loadAt 168 (vP w12.heap.size 0)) (fun w' hC=>zw (vs:=w8C (zda (zbU b) k)) (((hB5.ext hEw17).ext hC).all) (by rw [zbA];kernel_rfl))) (zh hT155 [(1,41,(.slice a5 (0+n_b+1+(zcY b.length)+8) c4)),(2,42,(vI (64*k))),(3,43,(vI (64*k)))] 3 15 (zg hT155 4 31 (some 44) (vI (64*k+64)) (zaa .i64 (IntKind.i64.wrap (((64*k:Nat):Int)+((64:Nat):Int))) (zA (by omega) (by omega) (by omega))) ?_))
   obtain ⟨a6,hR1,hS1⟩:=(hSk.ext hEw17).slice Tryz.prog 23 5 (64*k) (64*k+64) c4 (some (vI (64*k))) (some (vI (64*k+64))) none
   refine zg hT155 5 63 (some 45) (.slice a6 (64*k+64-(64*k)) (c4-(64*k))) (zi (Instr.sliceAt 23 (.slice a5 (0+n_b+1+(zcY b.length)+8) c4) (some (vI (64*k))) (some (vI (64*k+64))) none) (fun w' hC=>hR1 _)) (zz 6 127 (zl (some 46) (zrY (zda (zbU b) k) _ hS1 (by first | omega | decide)) ?_))
   rintro _ w18 ⟨rfl,hEw18⟩
   have hzw18:=hEw18.size
   refine ⟨.inr hEw18, ?_⟩
   refine zz 7 255 (zv 168 w12.heap.size 0 168 (vA (w8C (zey (zda (zbU b) k) (((zbU b).drop (64*k)).take (64*k+64-(64*k)))))) (w8C (zda (zbU b) k)) (w8C (zey (zda (zbU b) k) (((zbU b).drop (64*k)).take (64*k+64-(64*k))))) (((hB5.ext hEw17)).ext hEw18) (by rw [zbA];kernel_rfl) (by first |(simp;done)|(simp;omega)) (zdo _) ?_)
   intro w19 hBw19 hCw19
   have hzw19:=hCw19.size
   rw [zm _ _ (by simp)] at hBw19
   refine ⟨.inl (by kernel_rfl), ?_⟩
   refine zJ (zp (zb (zd (zc 1 [(38,(vI (64*k)))] (za (zt (some 39) .i64 (IntKind.i64.wrap (((64*k:Nat):Int)+((64:Nat):Int))) (64*k+64) (zA (by omega) (by omega) (by omega)) ?_))))))
   refine zc 1 [(6,(vI (64*k+64)))] (zf (zF ?_))
   have hK4:=(((((hSk.ext hEw17)).ext hEw18)).chg hCw19 (fun k h1 h2 hs=>by have h:k=_:=hs;omega))
   have hK5:=(((((hB2b.ext hEw17)).ext hEw18)).chg hCw19 (fun hs=>by have h:_=_:=hs;omega))
   have hX3:Ext w1 w19:=(Ext.own ((hEm.trans hEw17).trans hEw18) hCw19 (by omega))
   refine zR (k+1) ?_ ?_
   ·exact ⟨by omega,hK4,by have hz:=hBw19;rw [show 64*k+64-(64*k)=64 from by omega] at hz;exact hz,hK5,hX3⟩
   ·first | omega |(dsimp only;omega)
  ·replace hc37:¬(64*k<0+n_b+1+(zcY b.length)+8):=by have:=zae hc37;omega
   refine zf (zb (zn (zW (zx (zx (zL (zb (ze (zd ?_)))))))))
   refine za (zo (some 7) (Instr.alloc 59 true (.tuple #[])) (vP w16.heap.size 0) (zO Dig.zero) 59 ?_)
   intro w20 hBw20 hEw20
   have hzw20:=hEw20.size;have hlw20:=hBw20.lt
   refine zf (zb (ze (ze (zd (zc 1 [(8,(vI 0))] (zf (zb (zy ?_))))))))
   obtain rfl:k=(zbU b).length/64:=by omega
   obtain ⟨H,hH⟩:∃H,H=zda (zbU b) ((zbU b).length/64):=⟨_,rfl⟩
   have hBH:Blk w20 w12.heap.size (w8C H) 168:=by rw [hH];exact (hB5.ext hEw20)
   refine zY (X:=Nat) (fun i=> [(8,(vI i))]) [9,10,47,48,49,50,51,52,53,54,55,56,57,58,59,60,61,62,63,64,65,66,67] (fun i w21=>i≤8∧Blk w21 w12.heap.size (w8C H) 168∧Blk w21 w16.heap.size (u8s (dgP H i)) 59∧Blk w21 w.heap.size (zO Dig.zero) 59∧Ext w1 w21) (fun i=>8-i) 0 (by kernel_rfl) ⟨by omega,hBH,(zjM H).symm▸hBw20,(hB2b.ext hEw20),(hEm.trans hEw20)⟩ ?_
   rintro i dw21 w21 ⟨hi,hBh,hBd,hB2c,hEn⟩
   have hzn:=hEn.size
   have hlh:=hBh.lt;have hld:=hBd.lt;have hl2c:=hB2c.lt
   have hdl:=ziE H hi
   refine ze (ze (zd (zc 1 [(47,(vI i))] (za (zK (some 48) (decide (((i:Nat):Int)<((8:Nat):Int))) (fun hc48=> ?_) (fun hc48=> ?_))))))
   ·replace hc48:i<8:=by have:=zaf hc48;omega
    refine zf (zb (zC (zu (zb (ze (zy (ze (zd (zc 1 [(51,(vI i))] ?_)))))))))
    refine za (zj (some 52) (Instr.indexAt 168 (vP w12.heap.size 0) (vI i)) (vP w12.heap.size (0+i*1)) (zag (E:=53) (sz:=1) (m:=8) (by omega)) ?_)
    refine za (zj (some 53) (Instr.loadAt 53 (vP w12.heap.size (0+i*1))) (vW ((H.get i).toNat)) (zk (hBh.cell (zaM i (by omega)))) ?_)
    refine za (zl (some 54) (zjX ((H.get i).toNat) _ (UInt32.toNat_lt _)) ?_)
    rintro _ w22 ⟨a7,rfl,hFz4_0,hFz4_1,hFz4_2,hFz4_3,hEw22⟩
    have hzw22:=hEw22.size
    have hla7:=hFz4_1.lt;have hna7:=hFz4_3
    have hSa7:Bs a7 (a7+1) w22 (pA a7 0) 4 4 (be ((H.get i).toNat) 4):=Bs.of_blk hFz4_1 rfl hFz4_2 (Nat.le_refl _) (zcd hna7) (Nat.le_refl _) (Nat.lt_succ_self _)
    refine zc 1 [(9,(.slice (pA a7 0) 4 4))] (zf (zb (ze (zd (zc 1 [(10,(vI 0))] (zf (zb (zy (zY (X:=Nat) (fun j=> [(10,(vI j))]) [55,56,57,58,59,60,61,62,63,64,65,66,67] (fun j w23=>j≤4∧Blk w23 w16.heap.size (u8s (dgQ H i j)) 59∧Chg (fun q=>q=w16.heap.size) w22 w23) (fun j=>4-j) 0 (by kernel_rfl) ⟨by omega,by rw [zpK];exact (hBd.ext hEw22),Chg.refl _ _⟩ ?_)))))))))
    rintro j dw23 w23 ⟨hj,hBq,hCj⟩
    have hzj:=hCj.size
    refine ze (ze (zd (zc 1 [(55,(vI j))] (za (zK (some 56) (decide (((j:Nat):Int)<((4:Nat):Int))) (fun hc56=> ?_) (fun hc56=> ?_))))))
    ·replace hc56:j<4:=by have:=zaf hc56;omega
     refine zf (zb (zC (zu (zb (ze (zy (zd (zc 1 [(59,(vI i))] (za (zt (some 60) .i64 (IntKind.i64.wrap (((4:Nat):Int)*((i:Nat):Int))) (4*i) (zA (by omega) (by omega) (by omega)) ?_))))))))))
     refine zc 1 [(61,(vI j))] (za (zt (some 62) .i64 (IntKind.i64.wrap (((4*i:Nat):Int)+((j:Nat):Int))) (4*i+j) (zA (by omega) (by omega) (by omega)) ?_))
     refine zc 2 [(64,(vI j)),(63,(.slice (pA a7 0) 4 4))] (za (zj (some 65) (Instr.indexAt 23 (.slice (pA a7 0) 4 4) (vI j)) (vP a7 (0+j*1)) (zP (E:=5) (sz:=1) (by omega)) ?_))
     refine za (zj (some 66) (Instr.loadAt 5 (vP a7 (0+j*1))) (vB (byt (be ((H.get i).toNat) 4) j)) (zk (((hSa7).chg hCj (fun k h1 h2 hs=>by have h:k=_:=hs;omega)).cell1 (by omega))) ?_)
     refine za (zj (some 67) (Instr.indexAt 59 (vP w16.heap.size 0) (vI (4*i+j))) (vP w16.heap.size (0+(4*i+j)*1)) (zag (E:=5) (sz:=1) (m:=32) (by omega)) ?_)
     refine za (zah 5 w16.heap.size (0+(4*i+j)*1) 59 (vB (byt (be ((H.get i).toNat) 4) j)) (u8s (dgQ H i j)) hBq (by rw [zaV,zrc H (by omega) (by omega)];omega) ?_)
     intro w24 hBw24 hCw24
     have hzw24:=hCw24.size
     rw [show ((u8s (dgQ H i j)).set (0+(4*i+j)*1) (vB (byt (be ((H.get i).toNat) 4) j)):List Value)=u8s (dgQ H i (j+1)) from zrd (by omega) (by omega)] at hBw24
     refine zf (zp (zb (zd (zc 1 [(57,(vI j))] (za (zt (some 58) .i64 (IntKind.i64.wrap (((j:Nat):Int)+((1:Nat):Int))) (j+1) (zA (by omega) (by omega) (by omega)) ?_))))))
     refine zc 1 [(10,(vI (j+1)))] (zf (zF (zR (j+1) ?_ ?_)))
     ·exact ⟨by omega,hBw24,(Chg.then (Chg.then (Chg.refl (fun q=>q=w16.heap.size) w22) hCj (fun k hk hs=>by have h:k=_:=hs;first | exact hs | exact .inl h | exact .inr h |(exfalso;omega))) hCw24 (fun k hk hs=>by have h:k=_:=hs;first | exact hs | exact .inl h | exact .inr h |(exfalso;omega)))⟩
     ·first | omega |(dsimp only;omega)
    ·replace hc56:¬(j<4):=by have:=zae hc56;omega
     refine zf (zb (zn (zW (zx (zx (zL (zp (zb (zd ?_)))))))))
     refine zc 1 [(49,(vI i))] (za (zt (some 50) .i64 (IntKind.i64.wrap (((i:Nat):Int)+((1:Nat):Int))) (i+1) (zA (by omega) (by omega) (by omega)) ?_))
     refine zc 1 [(8,(vI (i+1)))] (zf (zF (zR (i+1) ?_ ?_)))
     ·exact ⟨by omega,(((hBh.ext hEw22)).chg hCj (fun hs=>by have h:_=_:=hs;omega)),by have hz:=hBq;rw [show j=4 from by omega,zpX] at hz;exact hz,(((hB2c.ext hEw22)).chg hCj (fun hs=>by have h:_=_:=hs;omega)),(Ext.own (hEn.trans hEw22) hCj (by omega))⟩
     ·first | omega |(dsimp only;omega)
   ·replace hc48:¬(i<8):=by have:=zae hc48;omega
    refine zf (zb (zn (zW (zx (zx (zL (zb (ze (zd ?_)))))))))
    obtain rfl:i=8:=by omega
    have hBe:Blk w21 w16.heap.size (zO (zU b)) 59:=by have hq:=hBd;rw [hH,zlX] at hq;exact hq
    refine za (zj (some 68) (Instr.loadAt 59 (vP w16.heap.size 0)) (vA (zO (zU b))) (zw (vs:=zO (zU b)) hBe.all (by rw [zal];kernel_rfl)) ?_)
    refine za (zv 59 w.heap.size 0 59 (vA (zO (zU b))) (zO Dig.zero) (zO (zU b)) hB2c (by rw [zal];kernel_rfl) (by first |(simp;done)|(simp;omega)) (zbH _) ?_)
    intro w25 hBw25 hCw25
    have hzw25:=hCw25.size
    rw [zm _ _ (by simp)] at hBw25
    exact zf (zb (zq (zaB (show zZ Tryz.prog 69 _ _ (.cell 2 59) (vA (zO (zU b))) from ⟨⟨w.heap.size,0,none⟩,(by kernel_rfl),zN (T:=59) (vs:=zO (zU b)) (hBw25).all (by rw [zal];kernel_rfl)⟩) (⟨rfl,(Ext.own (hEw1.trans hEn) hCw25 (by omega))⟩))))
end Go.Proofs.YtkmhgepdhilllaaGreatDoor
namespace Go.Proofs.YtkmhgepdhilllaaGreatDoor
open Go Go.RowKit Go.Cs
set_option maxRecDepth 100000
theorem zeU (x:Nod) (w:World) (hp0:zay x=0) (hg0:Gl 0 [vI 45,vI 33] w) (hg1:Gl 1 (w8C za6) w) (hg2:Gl 3 (zar kA) w):
  Calls Tryz.prog 66 #[(vA (zH x))] w (Ret fun r w'=>r=(.tuple #[(vA (zO (zU (zS x)))),(vI 0)])∧Ext w w'):=by
 refine zI (n:=18) (σ:= [(0,(vA (zH x)))]) Tryz.func66 rfl ?_
 have hgl0:=hg0.lt
 have hgl1:=hg1.lt
 have hgl2:=hg2.lt
 refine ze (zd (za (zo (some 1) (Instr.box 74 (vA (zH x))) (vP w.heap.size 0) (zH x) 74 ?_)))
 intro w1 hBw1 hEw1
 have hzw1:=hEw1.size;have hlw1:=hBw1.lt
 refine za (zo (some 2) (Instr.alloc 59 true (.tuple #[])) (vP w1.heap.size 0) (zO Dig.zero) 59 ?_)
 intro w2 hBw2 hEw2
 have hzw2:=hEw2.size;have hlw2:=hBw2.lt
 refine zc 1 [(3,(vI 0))] (zf (zb (ze (zd (za (zj (some 7) (Instr.loadAt 74 (vP w.heap.size 0)) (vA (zH x)) (zw (vs:=zH x) ((hBw1.ext hEw2).all) (by rw [zV];kernel_rfl)) ?_))))))
 refine za (zl (some 8) (zsP x _ (by assumption) (((hg0.ext hEw1)).ext hEw2)) ?_)
 rintro _ w3 ⟨a1,rfl,hFz1_0,hFz1_1,hFz1_2,hFz1_3,hEw3⟩
 have hzw3:=hEw3.size
 have hla1:=hFz1_1.lt;have hna1:=hFz1_3
 have hSa1:Bs a1 (a1+1) w3 (pA a1 0) (zbM x) (zbM x) (zS x):=Bs.of_blk hFz1_1 rfl hFz1_2 (Nat.le_refl _) (zcd hna1) (Nat.le_refl _) (Nat.lt_succ_self _)
 refine zc 5 [(5,(vI 0)),(4,(.slice (pA a1 0) (zbM x) (zbM x))),(10,(vI 0)),(9,(.slice (pA a1 0) (zbM x) (zbM x))),(6,(.tuple #[(.slice (pA a1 0) (zbM x) (zbM x)),(vI 0)]))] (zf (zb (ze (ze (zd (zc 1 [(11,(vI 0))] (za (zai (some 12) (((0:Nat):Int) !=((0:Nat):Int)) false (zaA (by omega)) ?_))))))))
 refine zf (zb (zn (zu (zb (ze (zd (zc 1 [(15,(.slice (pA a1 0) (zbM x) (zbM x)))] (za (zo (some 16) (Instr.buildSlice 190 1 #[(0,(.slice (pA a1 0) (zbM x) (zbM x)))]) (.slice (pA w3.heap.size 0) 1 1) [(.slice (pA a1 0) (zbM x) (zbM x))] 23 ?_)))))))))
 intro w4 hBw4 hEw4
 have hzw4:=hEw4.size;have hlw4:=hBw4.lt
 have hSw4:Ps 0 w4.heap.size w4 (pA w3.heap.size 0) 1 1 [(.slice (pA a1 0) (zbM x) (zbM x))] [zS x]:=Ps.of_new hBw4 rfl (by decide) (zaZ.cons (zcK.at (hSa1.ext hEw4)) zaZ.nil)
 have hK1:=(((((((hg1.ext hEw1)).ext hEw2)).ext hEw3)).ext hEw4)
 have hK2:=(((((((hg2.ext hEw1)).ext hEw2)).ext hEw3)).ext hEw4)
 refine za (zl (some 17) (ztT _ hSw4 (by simp [zX,zs6];unfold zbM;split<;>decide) hK1 hK2) ?_)
 rintro _ w5 ⟨rfl,hEw5⟩
 have hzw5:=hEw5.size
 rw [show zU ([zS x]).flatten=zU (zS x) from by simp]
 have hK3:=(((((hBw2.ext hEw3)).ext hEw4)).ext hEw5)
 refine za (zv 59 w1.heap.size 0 59 (vA (zO (zU (zS x)))) (zO Dig.zero) (zO (zU (zS x))) hK3 (by rw [zal];kernel_rfl) (by first |(simp;done)|(simp;omega)) (zbH _) ?_)
 have hK4:=(((((hBw2.ext hEw3)).ext hEw4)).ext hEw5)
 intro w6 hBw6 hCw6
 have hzw6:=hCw6.size
 rw [zm _ _ (by simp)] at hBw6
 refine zc 1 [(3,(vI 0))] (zf (zb (zq (zaX (show zZ Tryz.prog 18 _ _ (.cell 2 59) (vA (zO (zU (zS x)))) from ⟨⟨w1.heap.size,0,none⟩,(by kernel_rfl),zN (T:=59) (vs:=zO (zU (zS x))) (hBw6).all (by rw [zal];kernel_rfl)⟩) (show zZ Tryz.prog 18 _ _ (.tmp 3) (vI 0) by (show _=_;kernel_rfl)) ?_))))
 have hX1:Ext w w6:=(Ext.own ((((hEw1.trans hEw2).trans hEw3).trans hEw4).trans hEw5) hCw6 (by omega))
 exact ⟨rfl,hX1⟩
theorem zfe (x:Nod) (w:World):
  Calls Tryz.prog 56 #[(vA (zH x))] w (Ret fun r w'=>r=(vA (zO (zU (zS x))))∧Ext w w'):=by
 refine zI (n:=6) (σ:= [(0,(vA (zH x)))]) Tryz.func56 rfl ?_
 refine ze (zd (za (zo (some 1) (Instr.box 74 (vA (zH x))) (vP w.heap.size 0) (zH x) 74 ?_)))
 intro w1 hBw1 hEw1
 have hzw1:=hEw1.size;have hlw1:=hBw1.lt
 refine za (zo (some 2) (Instr.alloc 59 true (.tuple #[])) (vP w1.heap.size 0) (zO Dig.zero) 59 ?_)
 intro w2 hBw2 hEw2
 have hzw2:=hEw2.size;have hlw2:=hBw2.lt
 refine zf (zb (ze (zd (za (zj (some 3) (Instr.loadAt 74 (vP w.heap.size 0)) (vA (zH x)) (zw (vs:=zH x) ((hBw1.ext hEw2).all) (by rw [zV];kernel_rfl)) ?_)))))
 refine za (zl (some 4) (znI x _) ?_)
 rintro _ w3 ⟨a1,ca1,rfl,hFz1_0,hEw3⟩
 have hzw3:=hEw3.size
 have hlea1:=hFz1_0.le
 have hba1:=hFz1_0.bs
 refine za (zl (some 5) (zsR _ hba1 (by unfold zbM;split<;>decide)) ?_)
 rintro _ w4 ⟨rfl,hEw4⟩
 have hzw4:=hEw4.size
 refine za (zv 59 w1.heap.size 0 59 (vA (zO (zU (zS x)))) (zO Dig.zero) (zO (zU (zS x))) (((hBw2.ext hEw3)).ext hEw4) (by rw [zal];kernel_rfl) (by first |(simp;done)|(simp;omega)) (zbH _) ?_)
 intro w5 hBw5 hCw5
 have hzw5:=hCw5.size
 rw [zm _ _ (by simp)] at hBw5
 refine zf (zb (zq (zaB (show zZ Tryz.prog 6 _ _ (.cell 2 59) (vA (zO (zU (zS x)))) from ⟨⟨w1.heap.size,0,none⟩,(by kernel_rfl),zN (T:=59) (vs:=zO (zU (zS x))) (hBw5).all (by rw [zal];kernel_rfl)⟩) ?_)))
 have hX1:Ext w w5:=(Ext.own (((hEw1.trans hEw2).trans hEw3).trans hEw4) hCw5 (by omega))
 exact ⟨rfl,hX1⟩
end Go.Proofs.YtkmhgepdhilllaaGreatDoor
