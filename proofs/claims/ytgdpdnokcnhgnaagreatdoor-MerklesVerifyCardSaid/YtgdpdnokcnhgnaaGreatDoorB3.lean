/- Lemmas and walks: what each function does, by its own code. No condition beyond those of each statement. -/
import Derived.Test.YtgdpdnokcnhgnaaGreatDoorB2
set_option linter.all false
set_option linter.unusedVariables false
namespace Go.Proofs.YtgdpdnokcnhgnaaGreatDoor
open Go Go.RowKit Go.Cs
set_option maxRecDepth 100000
theorem zjL (w:World):
  Calls Tryz.prog 76 #[] w (Ret fun r w'=>r=(.tuple #[(vA (zV kA)),(vA (w8C zbc))])∧Ext w w'):=by
 refine zK (n:=4) (σ:= []) Tryz.func76 rfl ?_
 refine zf (ze (za (zz (some 0) (Instr.alloc 149 true (.tuple #[])) (vP w.heap.size 0) (zV (WA.zero 64)) 149 ?_)))
 intro w1 hBw1 hEw1
 have hzw1:=hEw1.size;have hlw1:=hBw1.lt
 refine za (zz (some 1) (Instr.alloc 150 true (.tuple #[])) (vP w1.heap.size 0) (w8C (WA.zero 8)) 150 ?_)
 intro w2 hBw2 hEw2
 have hzw2:=hEw2.size;have hlw2:=hBw2.lt
 refine zg (zb (zf (ze (zd 2 [(3,(vA (w8C zbc))),(2,(vA (zV kA)))] (za (zE 149 w.heap.size 0 149 (vA (zV kA)) (zV (WA.zero 64)) (zV kA) (hBw1.ext hEw2) (by rw [zcS];kernel_rfl) (by first |(simp;done)|(simp;omega)) (zeI _) ?_))))))
 intro w3 hBw3 hCw3
 have hzw3:=hCw3.size
 rw [zq _ _ (by simp)] at hBw3
 refine za (zE 150 w1.heap.size 0 150 (vA (w8C zbc)) (w8C (WA.zero 8)) (w8C zbc) ((hBw2).chg hCw3 (fun hs=>by have h:_=_:=hs;omega)) (by rw [zbf];kernel_rfl) (by first |(simp;done)|(simp;omega)) (zcZ _) ?_)
 intro w4 hBw4 hCw4
 have hzw4:=hCw4.size
 rw [zq _ _ (by simp)] at hBw4
 refine zg (zb (zp (zam (show zS Tryz.prog 4 _ _ (.cell 0 149) (vA (zV kA)) from ⟨⟨w.heap.size,0,none⟩,(by kernel_rfl),zM (T:=149) (vs:=zV kA) (((hBw3).chg hCw4 (fun hs=>by have h:_=_:=hs;omega))).all (by rw [zcS];kernel_rfl)⟩) (show zS Tryz.prog 4 _ _ (.cell 1 150) (vA (w8C zbc)) from ⟨⟨w1.heap.size,0,none⟩,(by kernel_rfl),zM (T:=150) (vs:=w8C zbc) (hBw4).all (by rw [zbf];kernel_rfl)⟩) ?_)))
 have hX1:Ext w w4:=(Ext.own (Ext.own (hEw1.trans hEw2) hCw3 (by omega)) hCw4 (by omega))
 exact ⟨rfl,hX1⟩
theorem zpx (h:(WA 8)) {lo_b hi_b:Nat} {a_b:Option Addr} {n_b c_b:Nat} {b:List UInt8} (w:World) (h_b:Bs lo_b hi_b w a_b n_b c_b b) (hp0:n_b=64):
  Calls Tryz.prog 77 #[(vA (w8C h)),(.slice a_b n_b c_b)] w (Ret fun r w'=>r=(vA (w8C (zdZ h b)))∧Ext w w'):=by
 refine zK (n:=202) (σ:= [(0,(vA (w8C h))),(1,(.slice a_b n_b c_b))]) Tryz.func77 rfl ?_
 replace h_b:=h_b.now;have hle_b:=h_b.le
 refine zf (ze (za (zz (some 2) (Instr.box 150 (vA (w8C h))) (vP w.heap.size 0) (w8C h) 150 ?_)))
 intro w1 hBw1 hEw1
 have hzw1:=hEw1.size;have hlw1:=hBw1.lt
 refine za (zz (some 4) (Instr.alloc 150 true (.tuple #[])) (vP w1.heap.size 0) (w8C (WA.zero 8)) 150 ?_)
 intro w2 hBw2 hEw2
 have hzw2:=hEw2.size;have hlw2:=hBw2.lt
 refine zg (zb (zf (ze (za (zk (some 27) (zjL _) ?_)))))
 rintro _ w3 ⟨rfl,hEw3⟩
 have hzw3:=hEw3.size
 refine zd 3 [(29,(vA (w8C zbc))),(28,(vA (zV kA))),(26,(.tuple #[(vA (zV kA)),(vA (w8C zbc))]))] (za (zz (some 5) (Instr.alloc 149 true (.tuple #[])) (vP w3.heap.size 0) (zV (WA.zero 64)) 149 ?_))
 intro w4 hBw4 hEw4
 have hzw4:=hEw4.size;have hlw4:=hBw4.lt
 refine za (zz (some 6) (Instr.alloc 150 true (.tuple #[])) (vP w4.heap.size 0) (w8C (WA.zero 8)) 150 ?_)
 intro w5 hBw5 hEw5
 have hzw5:=hEw5.size;have hlw5:=hBw5.lt
 refine za (zE 149 w3.heap.size 0 149 (vA (zV kA)) (zV (WA.zero 64)) (zV kA) (hBw4.ext hEw5) (by rw [zcS];kernel_rfl) (by first |(simp;done)|(simp;omega)) (zeI _) ?_)
 intro w6 hBw6 hCw6
 have hzw6:=hCw6.size
 rw [zq _ _ (by simp)] at hBw6
 refine za (zE 150 w4.heap.size 0 150 (vA (w8C zbc)) (w8C (WA.zero 8)) (w8C zbc) ((hBw5).chg hCw6 (fun hs=>by have h:_=_:=hs;omega)) (by rw [zbf];kernel_rfl) (by first |(simp;done)|(simp;omega)) (zcZ _) ?_)
 intro w7 hBw7 hCw7
 have hzw7:=hCw7.size
 rw [zq _ _ (by simp)] at hBw7
 refine zg (zb (zf (ze (za (zz (some 7) (Instr.alloc 149 true (.tuple #[])) (vP w7.heap.size 0) (zV (WA.zero 64)) 149 ?_)))))
 intro w8 hBw8 hEw8
 have hzw8:=hEw8.size;have hlw8:=hBw8.lt
 refine zg (zb (zf (zf (ze (zd 1 [(8,(vI 0))] (zg (zb (zJ ?_))))))))
 have hK1:=(((((((((((((hBw1.ext hEw2)).ext hEw3)).ext hEw4)).ext hEw5)).chg hCw6 (fun hs=>by have h:_=_:=hs;omega))).chg hCw7 (fun hs=>by have h:_=_:=hs;omega))).ext hEw8)
 have hK2:=(((((((((((hBw2.ext hEw3)).ext hEw4)).ext hEw5)).chg hCw6 (fun hs=>by have h:_=_:=hs;omega))).chg hCw7 (fun hs=>by have h:_=_:=hs;omega))).ext hEw8)
 have hX1:Ext w w8:=((Ext.own (Ext.own ((((hEw1.trans hEw2).trans hEw3).trans hEw4).trans hEw5) hCw6 (by omega)) hCw7 (by omega)).trans hEw8)
 refine zaj (X:=Nat) (fun t=> [(8,(vI t))]) [9,10,11,12,30,31,32,33,34,35,36,37,38,39,40,41,42,43,44,45,46,47,48,49,50,51,52,53,54,55,56,57,58,59,60,61,62,63,64,65,66,67,68,69,70,71,72,73,74,75,76,77,78,79,80,81,82,83,84,85,86,87] (fun t w9=>t≤64∧Blk w9 w.heap.size (w8C h) 150∧Blk w9 w7.heap.size (zV (zc b t)) 149∧Blk w9 w3.heap.size (zV kA) 149∧Blk w9 w1.heap.size (w8C (WA.zero 8)) 150∧Ext w w9) (fun t=>64-t) 0 (by kernel_rfl) ⟨by omega,hK1,hBw8,((((hBw6).chg hCw7 (fun hs=>by have h:_=_:=hs;omega))).ext hEw8),hK2,hX1⟩ ?_
 rintro t dw9 w9 ⟨ht,hA,hB,hK,hZ4,hEl⟩
 have hzl:=hEl.size
 have hlb:=h_b.len_eq
 have hlthA:=hA.lt
 have hlthB:=hB.lt
 have hlthK:=hK.lt
 have hlthZ4:=hZ4.lt
 refine zf (zf (ze (zd 1 [(30,(vI t))] (za (zG (some 31) (decide (((t:Nat):Int)<((64:Nat):Int))) (fun hc31=> ?_) (fun hc31=> ?_))))))
 ·replace hc31:t<64:=by have:=zal hc31;omega
  refine zg (zb (zx (zA (zb (zf (zJ (zf (zf (ze ?_)))))))))
  refine zd 1 [(34,(vI t))] (za (zG (some 35) (decide (((t:Nat):Int)<((16:Nat):Int))) (fun hc35=> ?_) (fun hc35=> ?_)))
  ·replace hc35:t<16:=by have:=zal hc35;omega
   refine zg (zb (zx (zf (ze (zd 2 [(38,(vI t)),(37,(.slice a_b n_b c_b))] (za (zB (some 39) .i64 (IntKind.i64.wrap (((4:Nat):Int)*((t:Nat):Int))) (4*t) (zF (by omega) (by omega) (by omega)) ?_)))))))
   refine zd 1 [(40,(vI t))] (za (zB (some 41) .i64 (IntKind.i64.wrap (((4:Nat):Int)*((t:Nat):Int))) (4*t) (zF (by omega) (by omega) (by omega)) ?_))
   refine za (zB (some 42) .i64 (IntKind.i64.wrap (((4*t:Nat):Int)+((4:Nat):Int))) (4*t+4) (zF (by omega) (by omega) (by omega)) ?_)
   obtain ⟨a1,hR1,hS1⟩:=(h_b.ext hEl).slice Tryz.prog 57 5 (4*t) (4*t+4) c_b (some (vI (4*t))) (some (vI (4*t+4))) none
   refine za (zi (some 43) (Instr.sliceAt 57 (.slice a_b n_b c_b) (some (vI (4*t))) (some (vI (4*t+4))) none) (.slice a1 (4*t+4-(4*t)) (c_b-(4*t))) (hR1 _) ?_)
   refine za (zk (some 44) (zqO 4 _ hS1 (by first | omega | decide)) ?_)
   rintro _ _ ⟨rfl,rfl⟩
   refine zd 5 [(10,(vI (zb9 ((b.drop (4*t)).take (4*t+4-(4*t))) 4))),(9,(vQ (zaJ ((b.drop (4*t)).take (4*t+4-(4*t))) 4))),(46,(vI (zb9 ((b.drop (4*t)).take (4*t+4-(4*t))) 4))),(45,(vQ (zaJ ((b.drop (4*t)).take (4*t+4-(4*t))) 4))),(36,(.tuple #[(vQ (zaJ ((b.drop (4*t)).take (4*t+4-(4*t))) 4)),(vI (zb9 ((b.drop (4*t)).take (4*t+4-(4*t))) 4))]))] (zg (zb (zf (ze (zd 2 [(48,(vQ (zaJ ((b.drop (4*t)).take (4*t+4-(4*t))) 4))),(47,(vI t))] (za (zB (some 49) .u32 (IntKind.u32.wrap ((zaJ ((b.drop (4*t)).take (4*t+4-(4*t))) 4:Nat):Int)) ((UInt32.ofNat (zaJ ((b.drop (4*t)).take 4) 4)).toNat) (by rw [show 4*t+4-4*t=4 from by omega,UInt32.toNat_ofNat',Nat.mod_eq_of_lt (zc2 _ 4)];exact zbh rfl rfl (show _<2^32 from zc2 _ 4)) ?_)))))))
   refine za (zi (some 50) (Instr.indexAt 149 (vP w7.heap.size 0) (vI t)) (vP w7.heap.size (0+t*1)) (zW (E:=28) (sz:=1) (m:=64) (by omega)) ?_)
   refine za (zY 28 w7.heap.size (0+t*1) 149 (vW ((UInt32.ofNat (zaJ ((b.drop (4*t)).take 4) 4)).toNat)) (zV (zc b t)) hB (by first | decide |(simp;done)|(simp;omega)) ?_)
   intro w10 hBw10 hCw10
   have hzw10:=hCw10.size
   rw [show ((zV (zc b t)).set (0+t*1) (vW ((UInt32.ofNat (zaJ ((b.drop (4*t)).take 4) 4)).toNat)):List Value)=zV ((zc b t).set t (UInt32.ofNat (zaJ ((b.drop (4*t)).take 4) 4))) from zaG t (UInt32.ofNat (zaJ ((b.drop (4*t)).take 4) 4))] at hBw10
   refine zg (zb (zag (zH (zT (zb (ze (zd 1 [(32,(vI t))] (za (zB (some 33) .i64 (IntKind.i64.wrap (((t:Nat):Int)+((1:Nat):Int))) (t+1) (zF (by omega) (by omega) (by omega)) ?_)))))))))
   refine zd 1 [(8,(vI (t+1)))] (zg (zD (zR (t+1) ?_ ?_)))
   ·exact ⟨by omega,((hA).chg hCw10 (fun hs=>by have h:_=_:=hs;omega)),by have hz:=hBw10;rwa [show (zc b t).set t _=zc b (t+1) from ziQ (by omega) rfl] at hz,((hK).chg hCw10 (fun hs=>by have h:_=_:=hs;omega)),((hZ4).chg hCw10 (fun hs=>by have h:_=_:=hs;omega)),(Ext.own hEl hCw10 (by omega))⟩
   ·first | omega |(dsimp only;omega)
  ·replace hc35:¬(t<16):=by have:=zak hc35;omega
   refine zg (zb (zn (zA (zb (zf (zah (Ext w9.drew) 10 [(52,256,0),(53,2251799813685248,1),(54,4503599627370624,2),(55,9007199254740992,4),(56,256,0),(57,36028797018963968,16),(58,72057594037928064,32),(59,144115188075855872,64),(12,18014398509481984,15),(13,288230376151711744,511)] (fun hT149=> ?_)))))))
   have hEw11:Ext w9 w9.drew:=Ext.drew w9
   generalize w9.drew=w11 at hEw11⊢
   have hzw11:=hEw11.size
   refine zl hT149 [(0,51,(vI t))] 1 1 (zh hT149 1 3 (some 52) (vI (t-15)) (zw .i64 (IntKind.i64.wrap (((t:Nat):Int)-((15:Nat):Int))) (zF (by omega) (by omega) (by omega))) (zh hT149 2 7 (some 53) (vP w7.heap.size (0+(t-15)*1)) (zm (Instr.indexAt 149 (vP w7.heap.size 0) (vI (t-15))) (fun w' hC=>zW (E:=28) (sz:=1) (m:=64) (by omega))) (zh hT149 3 15 (some 54) (vW (((zc b t).get (t-15)).toNat)) (zm (Instr.loadAt 28 (vP w7.heap.size (0+(t-15)*1))) (fun w' hC=>zo (((hB.ext hEw11).ext hC).cell (zan (t-15) (by omega))))) (zl hT149 [(4,55,(vI t))] 1 31 (zh hT149 5 63 (some 56) (vI (t-2)) (zw .i64 (IntKind.i64.wrap (((t:Nat):Int)-((2:Nat):Int))) (zF (by omega) (by omega) (by omega))) (zh hT149 6 127 (some 57) (vP w7.heap.size (0+(t-2)*1)) (zm (Instr.indexAt 149 (vP w7.heap.size 0) (vI (t-2))) (fun w' hC=>zW (E:=28) (sz:=1) (m:=64) (by omega))) (zh hT149 7 255 (some 58) (vW (((zc b t).get (t-2)).toNat)) (zm (Instr.loadAt 28 (vP w7.heap.size (0+(t-2)*1))) (fun w' hC=>zo (((hB.ext hEw11).ext hC).cell (zan (t-2) (by omega))))) (zl hT149 [(8,11,(vW (((zc b t).get (t-15)).toNat))),(9,12,(vW (((zc b t).get (t-2)).toNat)))] 2 1023 (zL ?_)))))))))
   refine zb (zah (Chg (fun k=>k=w7.heap.size) w11.drew) 30 [(60,256,0),(61,256,0),(62,1152921504606846976,2),(63,2305843009213694080,4),(64,4611686018427387904,8),(65,256,0),(66,18446744073709551616,32),(67,36893488147419103360,64),(68,73786976294838206464,128),(69,156797324626531188736,272),(70,2048,0),(71,590295810358705651712,1024),(72,2048,0),(73,2361183241434822606848,6144),(74,5902958103587056517120,10240),(75,2048,0),(76,18889465931478580854784,32768),(77,47223664828696452136960,81920),(78,75853011631093676244992,131584),(79,4096,0),(80,302231454903657293676544,532480),(81,4096,0),(82,1208925819614629174706176,3145728),(83,3022314549036572936765440,5242880),(84,4096,0),(85,9671406556917033397649408,16777216),(86,24178516392292583494123520,41943040),(87,38836741955119962237435904,67371008),(88,576460752303423616,268435455),(0,232113757366008801543585792,536870911)] (fun hT164=> ?_))
   have hEw12:Ext w11 w11.drew:=Ext.drew w11
   generalize w11.drew=w12 at hEw12⊢
   have hzw12:=hEw12.size
   refine zl (hw:=show Chg (fun k=>k=w7.heap.size) w12 w12 from (Chg.refl (fun k=>k=w7.heap.size) w12)) hT164 [(0,59,(vI t)),(1,60,(vI t))] 2 3 (zh (hw:=show Chg (fun k=>k=w7.heap.size) w12 w12 from (Chg.refl (fun k=>k=w7.heap.size) w12)) hT164 2 7 (some 61) (vI (t-16)) (zw .i64 (IntKind.i64.wrap (((t:Nat):Int)-((16:Nat):Int))) (zF (by omega) (by omega) (by omega))) (zh (hw:=show Chg (fun k=>k=w7.heap.size) w12 w12 from (Chg.refl (fun k=>k=w7.heap.size) w12)) hT164 3 15 (some 62) (vP w7.heap.size (0+(t-16)*1)) (zm (Instr.indexAt 149 (vP w7.heap.size 0) (vI (t-16))) (fun w' hC=>zW (E:=28) (sz:=1) (m:=64) (by omega))) (zl (hw:=show Chg (fun k=>k=w7.heap.size) w12 w12 from (Chg.refl (fun k=>k=w7.heap.size) w12)) hT164 [(5,64,(vI t))] 1 47 (zh (hw:=show Chg (fun k=>k=w7.heap.size) w12 w12 from (Chg.refl (fun k=>k=w7.heap.size) w12)) hT164 6 111 (some 65) (vI (t-7)) (zw .i64 (IntKind.i64.wrap (((t:Nat):Int)-((7:Nat):Int))) (zF (by omega) (by omega) (by omega))) (zh (hw:=show Chg (fun k=>k=w7.heap.size) w12 w12 from (Chg.refl (fun k=>k=w7.heap.size) w12)) hT164 7 239 (some 66) (vP w7.heap.size (0+(t-7)*1)) (zm (Instr.indexAt 149 (vP w7.heap.size 0) (vI (t-7))) (fun w' hC=>zW (E:=28) (sz:=1) (m:=64) (by omega))) ?_)))))
   refine zl (hw:=show Chg (fun k=>k=w7.heap.size) w12 w12 from (Chg.refl (fun k=>k=w7.heap.size) w12)) hT164 [(10,69,(vW (((zc b t).get (t-15)).toNat))),(12,71,(vW (((zc b t).get (t-15)).toNat))),(15,74,(vW (((zc b t).get (t-15)).toNat)))] 3 38127 (zh (hw:=show Chg (fun k=>k=w7.heap.size) w12 w12 from (Chg.refl (fun k=>k=w7.heap.size) w12)) hT164 16 103663 (some 75) (vW ((((zc b t).get (t-15))>>>UInt32.ofNat 3).toNat)) (zw .u32 _ (zhH ((zc b t).get (t-15)) 3 (by decide))) (zl (hw:=show Chg (fun k=>k=w7.heap.size) w12 w12 from (Chg.refl (fun k=>k=w7.heap.size) w12)) hT164 [(19,78,(vW (((zc b t).get (t-2)).toNat))),(21,80,(vW (((zc b t).get (t-2)).toNat))),(24,83,(vW (((zc b t).get (t-2)).toNat)))] 3 19502319 (zh (hw:=show Chg (fun k=>k=w7.heap.size) w12 w12 from (Chg.refl (fun k=>k=w7.heap.size) w12)) hT164 25 53056751 (some 84) (vW ((((zc b t).get (t-2))>>>UInt32.ofNat 10).toNat)) (zw .u32 _ (zhH ((zc b t).get (t-2)) 10 (by decide))) (zex 4 8 11 53056767 53057007 53058799 ?_ ?_ ?_))))
   ·refine zi (some 63) (Instr.loadAt 28 (vP w7.heap.size (0+(t-16)*1))) (vW (((zc b t).get (t-16)).toNat)) (zo ((((hB.ext hEw11)).ext hEw12).cell (zan (t-16) (by omega)))) (⟨.inr (Chg.refl (fun k=>k=w7.heap.size) w12), ?_⟩)
    refine zaB 8 11 53057023 53058815 ?_ ?_
    ·refine zi (some 67) (Instr.loadAt 28 (vP w7.heap.size (0+(t-7)*1))) (vW (((zc b t).get (t-7)).toNat)) (zo ((((hB.ext hEw11)).ext hEw12).cell (zan (t-7) (by omega)))) (⟨.inr (Chg.refl (fun k=>k=w7.heap.size) w12), ?_⟩)
     refine zh (hw:=show Chg (fun k=>k=w7.heap.size) w12 w12 from (Chg.refl (fun k=>k=w7.heap.size) w12)) hT164 9 53057535 (some 68) (vW ((((zc b t).get (t-16))+((zc b t).get (t-7))).toNat)) (zw .u32 _ (zU ((zc b t).get (t-16)) ((zc b t).get (t-7)))) (zu 11 53059583 (zk (some 70) (zae ((zc b t).get (t-15)) 7 _ (by decide) (by decide)) ?_))
     rintro _ w13 ⟨rfl,hEw13⟩
     have hzw13:=hEw13.size
     refine ⟨.inr ((Chg.refl (fun k=>k=w7.heap.size) w12).trans hEw13.chg), ?_⟩
     refine zu 13 53067775 (zk (some 72) (zae ((zc b t).get (t-15)) 18 _ (by decide) (by decide)) ?_)
     rintro _ w14 ⟨rfl,hEw14⟩
     have hzw14:=hEw14.size
     refine ⟨.inr (((Chg.refl (fun k=>k=w7.heap.size) w12).trans hEw13.chg).trans hEw14.chg), ?_⟩
     refine zh (hw:=show Chg (fun k=>k=w7.heap.size) w12 w14 from (((Chg.refl (fun k=>k=w7.heap.size) w12).trans hEw13.chg).trans hEw14.chg)) hT164 14 53084159 (some 73) (vW (((rr ((zc b t).get (t-15)) 7)^^^(rr ((zc b t).get (t-15)) 18)).toNat)) (zw .u32 _ (zZ (rr ((zc b t).get (t-15)) 7) (rr ((zc b t).get (t-15)) 18))) (zh (hw:=show Chg (fun k=>k=w7.heap.size) w12 w14 from (((Chg.refl (fun k=>k=w7.heap.size) w12).trans hEw13.chg).trans hEw14.chg)) hT164 17 53215231 (some 76) (vW ((((rr ((zc b t).get (t-15)) 7)^^^(rr ((zc b t).get (t-15)) 18))^^^(((zc b t).get (t-15))>>>UInt32.ofNat 3)).toNat)) (zw .u32 _ (zZ ((rr ((zc b t).get (t-15)) 7)^^^(rr ((zc b t).get (t-15)) 18)) (((zc b t).get (t-15))>>>UInt32.ofNat 3))) (zh (hw:=show Chg (fun k=>k=w7.heap.size) w12 w14 from (((Chg.refl (fun k=>k=w7.heap.size) w12).trans hEw13.chg).trans hEw14.chg)) hT164 18 53477375 (some 77) (vW (((((zc b t).get (t-16))+((zc b t).get (t-7)))+(((rr ((zc b t).get (t-15)) 7)^^^(rr ((zc b t).get (t-15)) 18))^^^(((zc b t).get (t-15))>>>UInt32.ofNat 3))).toNat)) (zw .u32 _ (zU (((zc b t).get (t-16))+((zc b t).get (t-7))) (((rr ((zc b t).get (t-15)) 7)^^^(rr ((zc b t).get (t-15)) 18))^^^(((zc b t).get (t-15))>>>UInt32.ofNat 3)))) (zu 20 54525951 (zk (some 79) (zae ((zc b t).get (t-2)) 17 _ (by decide) (by decide)) ?_))))
     rintro _ w15 ⟨rfl,hEw15⟩
     have hzw15:=hEw15.size
     refine ⟨.inr ((((Chg.refl (fun k=>k=w7.heap.size) w12).trans hEw13.chg).trans hEw14.chg).trans hEw15.chg), ?_⟩
     refine zu 22 58720255 (zk (some 81) (zae ((zc b t).get (t-2)) 19 _ (by decide) (by decide)) ?_)
     rintro _ w16 ⟨rfl,hEw16⟩
     have hzw16:=hEw16.size
     refine ⟨.inr (((((Chg.refl (fun k=>k=w7.heap.size) w12).trans hEw13.chg).trans hEw14.chg).trans hEw15.chg).trans hEw16.chg), ?_⟩
     refine zh (hw:=show Chg (fun k=>k=w7.heap.size) w12 w16 from (((((Chg.refl (fun k=>k=w7.heap.size) w12).trans hEw13.chg).trans hEw14.chg).trans hEw15.chg).trans hEw16.chg)) hT164 23 67108863 (some 82) (vW (((rr ((zc b t).get (t-2)) 17)^^^(rr ((zc b t).get (t-2)) 19)).toNat)) (zw .u32 _ (zZ (rr ((zc b t).get (t-2)) 17) (rr ((zc b t).get (t-2)) 19))) (zh (hw:=show Chg (fun k=>k=w7.heap.size) w12 w16 from (((((Chg.refl (fun k=>k=w7.heap.size) w12).trans hEw13.chg).trans hEw14.chg).trans hEw15.chg).trans hEw16.chg)) hT164 26 134217727 (some 85) (vW ((((rr ((zc b t).get (t-2)) 17)^^^(rr ((zc b t).get (t-2)) 19))^^^(((zc b t).get (t-2))>>>UInt32.ofNat 10)).toNat)) (zw .u32 _ (zZ ((rr ((zc b t).get (t-2)) 17)^^^(rr ((zc b t).get (t-2)) 19)) (((zc b t).get (t-2))>>>UInt32.ofNat 10))) ?_)
     refine zh (hw:=show Chg (fun k=>k=w7.heap.size) w12 w16 from (((((Chg.refl (fun k=>k=w7.heap.size) w12).trans hEw13.chg).trans hEw14.chg).trans hEw15.chg).trans hEw16.chg)) hT164 27 268435455 (some 86) (vW ((((((zc b t).get (t-16))+((zc b t).get (t-7)))+(((rr ((zc b t).get (t-15)) 7)^^^(rr ((zc b t).get (t-15)) 18))^^^(((zc b t).get (t-15))>>>UInt32.ofNat 3)))+(((rr ((zc b t).get (t-2)) 17)^^^(rr ((zc b t).get (t-2)) 19))^^^(((zc b t).get (t-2))>>>UInt32.ofNat 10))).toNat)) (zw .u32 _ (zU ((((zc b t).get (t-16))+((zc b t).get (t-7)))+(((rr ((zc b t).get (t-15)) 7)^^^(rr ((zc b t).get (t-15)) 18))^^^(((zc b t).get (t-15))>>>UInt32.ofNat 3))) (((rr ((zc b t).get (t-2)) 17)^^^(rr ((zc b t).get (t-2)) 19))^^^(((zc b t).get (t-2))>>>UInt32.ofNat 10)))) (zh (hw:=show Chg (fun k=>k=w7.heap.size) w12 w16 from (((((Chg.refl (fun k=>k=w7.heap.size) w12).trans hEw13.chg).trans hEw14.chg).trans hEw15.chg).trans hEw16.chg)) hT164 28 536870911 (some 87) (vP w7.heap.size (0+t*1)) (zm (Instr.indexAt 149 (vP w7.heap.size 0) (vI t)) (fun w' hC=>zW (E:=28) (sz:=1) (m:=64) (by omega))) ?_)
     have hK3:=(((((((((((hB.ext hEw11)).ext hEw12)).ext hEw13)).ext hEw14)).ext hEw15)).ext hEw16)
     refine zu 29 1073741823 (zY 28 w7.heap.size (0+t*1) 149 (vW ((((((zc b t).get (t-16))+((zc b t).get (t-7)))+(((rr ((zc b t).get (t-15)) 7)^^^(rr ((zc b t).get (t-15)) 18))^^^(((zc b t).get (t-15))>>>UInt32.ofNat 3)))+(((rr ((zc b t).get (t-2)) 17)^^^(rr ((zc b t).get (t-2)) 19))^^^(((zc b t).get (t-2))>>>UInt32.ofNat 10))).toNat)) (zV (zc b t)) hK3 (by first | decide |(simp;done)|(simp;omega)) ?_)
     have hK4:=(((((((((((hB.ext hEw11)).ext hEw12)).ext hEw13)).ext hEw14)).ext hEw15)).ext hEw16)
     intro w17 hBw17 hCw17
     have hzw17:=hCw17.size
     rw [show ((zV (zc b t)).set (0+t*1) (vW ((((((zc b t).get (t-16))+((zc b t).get (t-7)))+(((rr ((zc b t).get (t-15)) 7)^^^(rr ((zc b t).get (t-15)) 18))^^^(((zc b t).get (t-15))>>>UInt32.ofNat 3)))+(((rr ((zc b t).get (t-2)) 17)^^^(rr ((zc b t).get (t-2)) 19))^^^(((zc b t).get (t-2))>>>UInt32.ofNat 10))).toNat)):List Value)=zV ((zc b t).set t (((((zc b t).get (t-16))+((zc b t).get (t-7)))+(((rr ((zc b t).get (t-15)) 7)^^^(rr ((zc b t).get (t-15)) 18))^^^(((zc b t).get (t-15))>>>UInt32.ofNat 3)))+(((rr ((zc b t).get (t-2)) 17)^^^(rr ((zc b t).get (t-2)) 19))^^^(((zc b t).get (t-2))>>>UInt32.ofNat 10)))) from zaG t (((((zc b t).get (t-16))+((zc b t).get (t-7)))+(((rr ((zc b t).get (t-15)) 7)^^^(rr ((zc b t).get (t-15)) 18))^^^(((zc b t).get (t-15))>>>UInt32.ofNat 3)))+(((rr ((zc b t).get (t-2)) 17)^^^(rr ((zc b t).get (t-2)) 19))^^^(((zc b t).get (t-2))>>>UInt32.ofNat 10)))] at hBw17
     refine ⟨.inl (by kernel_rfl), ?_⟩
     refine zL (zr (zb (ze (zd 1 [(32,(vI t))] (za (zB (some 33) .i64 (IntKind.i64.wrap (((t:Nat):Int)+((1:Nat):Int))) (t+1) (zF (by omega) (by omega) (by omega)) ?_))))))
     refine zd 1 [(8,(vI (t+1)))] (zg (zD ?_))
     have hK5:=(((((((((((((hA.ext hEw11)).ext hEw12)).ext hEw13)).ext hEw14)).ext hEw15)).ext hEw16)).chg hCw17 (fun hs=>by have h:_=_:=hs;omega))
     have hK6:=(((((((((((((hK.ext hEw11)).ext hEw12)).ext hEw13)).ext hEw14)).ext hEw15)).ext hEw16)).chg hCw17 (fun hs=>by have h:_=_:=hs;omega))
     have hK7:=(((((((((((((hZ4.ext hEw11)).ext hEw12)).ext hEw13)).ext hEw14)).ext hEw15)).ext hEw16)).chg hCw17 (fun hs=>by have h:_=_:=hs;omega))
     have hX2:Ext w w17:=(Ext.own ((((((hEl.trans hEw11).trans hEw12).trans hEw13).trans hEw14).trans hEw15).trans hEw16) hCw17 (by omega))
     refine zR (t+1) ?_ ?_
     ·exact ⟨by omega,hK5,by have hz:=hBw17;rwa [show (zc b t).set t _=zc b (t+1) from zaA (by omega) (by unfold zbq zbo;ac_rfl)] at hz,hK6,hK7,hX2⟩
     ·first | omega |(dsimp only;omega)
    ·refine zk (some 70) (zae ((zc b t).get (t-15)) 7 _ (by decide) (by decide)) ?_
     rintro _ w18 ⟨rfl,hEw18⟩
     have hzw18:=hEw18.size
     refine ⟨.inr ((Chg.refl (fun k=>k=w7.heap.size) w12).trans hEw18.chg), ?_⟩
     refine zaB 8 13 53059071 53067007 ?_ ?_
     ·have hK8:=(((((hB.ext hEw11)).ext hEw12)).ext hEw18)
      refine zi (some 67) (Instr.loadAt 28 (vP w7.heap.size (0+(t-7)*1))) (vW (((zc b t).get (t-7)).toNat)) (zo (hK8.cell (zan (t-7) (by omega)))) (⟨.inr ((Chg.refl (fun k=>k=w7.heap.size) w12).trans hEw18.chg), ?_⟩)
      refine zh (hw:=show Chg (fun k=>k=w7.heap.size) w12 w18 from ((Chg.refl (fun k=>k=w7.heap.size) w12).trans hEw18.chg)) hT164 9 53059583 (some 68) (vW ((((zc b t).get (t-16))+((zc b t).get (t-7))).toNat)) (zw .u32 _ (zU ((zc b t).get (t-16)) ((zc b t).get (t-7)))) (zu 13 53067775 (zk (some 72) (zae ((zc b t).get (t-15)) 18 _ (by decide) (by decide)) ?_))
      rintro _ w19 ⟨rfl,hEw19⟩
      have hzw19:=hEw19.size
      refine ⟨.inr (((Chg.refl (fun k=>k=w7.heap.size) w12).trans hEw18.chg).trans hEw19.chg), ?_⟩
      refine zh (hw:=show Chg (fun k=>k=w7.heap.size) w12 w19 from (((Chg.refl (fun k=>k=w7.heap.size) w12).trans hEw18.chg).trans hEw19.chg)) hT164 14 53084159 (some 73) (vW (((rr ((zc b t).get (t-15)) 7)^^^(rr ((zc b t).get (t-15)) 18)).toNat)) (zw .u32 _ (zZ (rr ((zc b t).get (t-15)) 7) (rr ((zc b t).get (t-15)) 18))) (zh (hw:=show Chg (fun k=>k=w7.heap.size) w12 w19 from (((Chg.refl (fun k=>k=w7.heap.size) w12).trans hEw18.chg).trans hEw19.chg)) hT164 17 53215231 (some 76) (vW ((((rr ((zc b t).get (t-15)) 7)^^^(rr ((zc b t).get (t-15)) 18))^^^(((zc b t).get (t-15))>>>UInt32.ofNat 3)).toNat)) (zw .u32 _ (zZ ((rr ((zc b t).get (t-15)) 7)^^^(rr ((zc b t).get (t-15)) 18)) (((zc b t).get (t-15))>>>UInt32.ofNat 3))) (zh (hw:=show Chg (fun k=>k=w7.heap.size) w12 w19 from (((Chg.refl (fun k=>k=w7.heap.size) w12).trans hEw18.chg).trans hEw19.chg)) hT164 18 53477375 (some 77) (vW (((((zc b t).get (t-16))+((zc b t).get (t-7)))+(((rr ((zc b t).get (t-15)) 7)^^^(rr ((zc b t).get (t-15)) 18))^^^(((zc b t).get (t-15))>>>UInt32.ofNat 3))).toNat)) (zw .u32 _ (zU (((zc b t).get (t-16))+((zc b t).get (t-7))) (((rr ((zc b t).get (t-15)) 7)^^^(rr ((zc b t).get (t-15)) 18))^^^(((zc b t).get (t-15))>>>UInt32.ofNat 3)))) (zu 20 54525951 (zk (some 79) (zae ((zc b t).get (t-2)) 17 _ (by decide) (by decide)) ?_))))
      rintro _ w20 ⟨rfl,hEw20⟩
      have hzw20:=hEw20.size
      refine ⟨.inr ((((Chg.refl (fun k=>k=w7.heap.size) w12).trans hEw18.chg).trans hEw19.chg).trans hEw20.chg), ?_⟩
      refine zu 22 58720255 (zk (some 81) (zae ((zc b t).get (t-2)) 19 _ (by decide) (by decide)) ?_)
      rintro _ w21 ⟨rfl,hEw21⟩
      have hzw21:=hEw21.size
      refine ⟨.inr (((((Chg.refl (fun k=>k=w7.heap.size) w12).trans hEw18.chg).trans hEw19.chg).trans hEw20.chg).trans hEw21.chg), ?_⟩
      refine zh (hw:=show Chg (fun k=>k=w7.heap.size) w12 w21 from (((((Chg.refl (fun k=>k=w7.heap.size) w12).trans hEw18.chg).trans hEw19.chg).trans hEw20.chg).trans hEw21.chg)) hT164 23 67108863 (some 82) (vW (((rr ((zc b t).get (t-2)) 17)^^^(rr ((zc b t).get (t-2)) 19)).toNat)) (zw .u32 _ (zZ (rr ((zc b t).get (t-2)) 17) (rr ((zc b t).get (t-2)) 19))) (zh (hw:=show Chg (fun k=>k=w7.heap.size) w12 w21 from (((((Chg.refl (fun k=>k=w7.heap.size) w12).trans hEw18.chg).trans hEw19.chg).trans hEw20.chg).trans hEw21.chg)) hT164 26 134217727 (some 85) (vW ((((rr ((zc b t).get (t-2)) 17)^^^(rr ((zc b t).get (t-2)) 19))^^^(((zc b t).get (t-2))>>>UInt32.ofNat 10)).toNat)) (zw .u32 _ (zZ ((rr ((zc b t).get (t-2)) 17)^^^(rr ((zc b t).get (t-2)) 19)) (((zc b t).get (t-2))>>>UInt32.ofNat 10))) ?_)
      refine zh (hw:=show Chg (fun k=>k=w7.heap.size) w12 w21 from (((((Chg.refl (fun k=>k=w7.heap.size) w12).trans hEw18.chg).trans hEw19.chg).trans hEw20.chg).trans hEw21.chg)) hT164 27 268435455 (some 86) (vW ((((((zc b t).get (t-16))+((zc b t).get (t-7)))+(((rr ((zc b t).get (t-15)) 7)^^^(rr ((zc b t).get (t-15)) 18))^^^(((zc b t).get (t-15))>>>UInt32.ofNat 3)))+(((rr ((zc b t).get (t-2)) 17)^^^(rr ((zc b t).get (t-2)) 19))^^^(((zc b t).get (t-2))>>>UInt32.ofNat 10))).toNat)) (zw .u32 _ (zU ((((zc b t).get (t-16))+((zc b t).get (t-7)))+(((rr ((zc b t).get (t-15)) 7)^^^(rr ((zc b t).get (t-15)) 18))^^^(((zc b t).get (t-15))>>>UInt32.ofNat 3))) (((rr ((zc b t).get (t-2)) 17)^^^(rr ((zc b t).get (t-2)) 19))^^^(((zc b t).get (t-2))>>>UInt32.ofNat 10)))) (zh (hw:=show Chg (fun k=>k=w7.heap.size) w12 w21 from (((((Chg.refl (fun k=>k=w7.heap.size) w12).trans hEw18.chg).trans hEw19.chg).trans hEw20.chg).trans hEw21.chg)) hT164 28 536870911 (some 87) (vP w7.heap.size (0+t*1)) (zm (Instr.indexAt 149 (vP w7.heap.size 0) (vI t)) (fun w' hC=>zW (E:=28) (sz:=1) (m:=64) (by omega))) ?_)
      have hK9:=(((((hK8.ext hEw19)).ext hEw20)).ext hEw21)
      refine zu 29 1073741823 (zY 28 w7.heap.size (0+t*1) 149 (vW ((((((zc b t).get (t-16))+((zc b t).get (t-7)))+(((rr ((zc b t).get (t-15)) 7)^^^(rr ((zc b t).get (t-15)) 18))^^^(((zc b t).get (t-15))>>>UInt32.ofNat 3)))+(((rr ((zc b t).get (t-2)) 17)^^^(rr ((zc b t).get (t-2)) 19))^^^(((zc b t).get (t-2))>>>UInt32.ofNat 10))).toNat)) (zV (zc b t)) hK9 (by first | decide |(simp;done)|(simp;omega)) ?_)
      have hK10:=(((((hK8.ext hEw19)).ext hEw20)).ext hEw21)
      intro w22 hBw22 hCw22
      have hzw22:=hCw22.size
      rw [show ((zV (zc b t)).set (0+t*1) (vW ((((((zc b t).get (t-16))+((zc b t).get (t-7)))+(((rr ((zc b t).get (t-15)) 7)^^^(rr ((zc b t).get (t-15)) 18))^^^(((zc b t).get (t-15))>>>UInt32.ofNat 3)))+(((rr ((zc b t).get (t-2)) 17)^^^(rr ((zc b t).get (t-2)) 19))^^^(((zc b t).get (t-2))>>>UInt32.ofNat 10))).toNat)):List Value)=zV ((zc b t).set t (((((zc b t).get (t-16))+((zc b t).get (t-7)))+(((rr ((zc b t).get (t-15)) 7)^^^(rr ((zc b t).get (t-15)) 18))^^^(((zc b t).get (t-15))>>>UInt32.ofNat 3)))+(((rr ((zc b t).get (t-2)) 17)^^^(rr ((zc b t).get (t-2)) 19))^^^(((zc b t).get (t-2))>>>UInt32.ofNat 10)))) from zaG t (((((zc b t).get (t-16))+((zc b t).get (t-7)))+(((rr ((zc b t).get (t-15)) 7)^^^(rr ((zc b t).get (t-15)) 18))^^^(((zc b t).get (t-15))>>>UInt32.ofNat 3)))+(((rr ((zc b t).get (t-2)) 17)^^^(rr ((zc b t).get (t-2)) 19))^^^(((zc b t).get (t-2))>>>UInt32.ofNat 10)))] at hBw22
      refine ⟨.inl (by kernel_rfl), ?_⟩
      refine zL (zr (zb (ze (zd 1 [(32,(vI t))] (za (zB (some 33) .i64 (IntKind.i64.wrap (((t:Nat):Int)+((1:Nat):Int))) (t+1) (zF (by omega) (by omega) (by omega)) ?_))))))
      refine zd 1 [(8,(vI (t+1)))] (zg (zD ?_))
      have hK11:=(((((((((((((hA.ext hEw11)).ext hEw12)).ext hEw18)).ext hEw19)).ext hEw20)).ext hEw21)).chg hCw22 (fun hs=>by have h:_=_:=hs;omega))
      have hK12:=(((((((((((((hK.ext hEw11)).ext hEw12)).ext hEw18)).ext hEw19)).ext hEw20)).ext hEw21)).chg hCw22 (fun hs=>by have h:_=_:=hs;omega))
      have hK13:=(((((((((((((hZ4.ext hEw11)).ext hEw12)).ext hEw18)).ext hEw19)).ext hEw20)).ext hEw21)).chg hCw22 (fun hs=>by have h:_=_:=hs;omega))
      have hX3:Ext w w22:=(Ext.own ((((((hEl.trans hEw11).trans hEw12).trans hEw18).trans hEw19).trans hEw20).trans hEw21) hCw22 (by omega))
      refine zR (t+1) ?_ ?_
      ·exact ⟨by omega,hK11,by have hz:=hBw22;rwa [show (zc b t).set t _=zc b (t+1) from zaA (by omega) (by unfold zbq zbo;ac_rfl)] at hz,hK12,hK13,hX3⟩
      ·first | omega |(dsimp only;omega)
     ·refine zk (some 72) (zae ((zc b t).get (t-15)) 18 _ (by decide) (by decide)) ?_
      rintro _ w23 ⟨rfl,hEw23⟩
      have hzw23:=hEw23.size
      refine ⟨.inr (((Chg.refl (fun k=>k=w7.heap.size) w12).trans hEw18.chg).trans hEw23.chg), ?_⟩
      refine zh (hw:=show Chg (fun k=>k=w7.heap.size) w12 w23 from (((Chg.refl (fun k=>k=w7.heap.size) w12).trans hEw18.chg).trans hEw23.chg)) hT164 14 53083391 (some 73) (vW (((rr ((zc b t).get (t-15)) 7)^^^(rr ((zc b t).get (t-15)) 18)).toNat)) (zw .u32 _ (zZ (rr ((zc b t).get (t-15)) 7) (rr ((zc b t).get (t-15)) 18))) (zh (hw:=show Chg (fun k=>k=w7.heap.size) w12 w23 from (((Chg.refl (fun k=>k=w7.heap.size) w12).trans hEw18.chg).trans hEw23.chg)) hT164 17 53214463 (some 76) (vW ((((rr ((zc b t).get (t-15)) 7)^^^(rr ((zc b t).get (t-15)) 18))^^^(((zc b t).get (t-15))>>>UInt32.ofNat 3)).toNat)) (zw .u32 _ (zZ ((rr ((zc b t).get (t-15)) 7)^^^(rr ((zc b t).get (t-15)) 18)) (((zc b t).get (t-15))>>>UInt32.ofNat 3))) (zaB 8 20 53214719 54263039 ?_ ?_))
      ·have hK14:=(((((((hB.ext hEw11)).ext hEw12)).ext hEw18)).ext hEw23)
       refine zi (some 67) (Instr.loadAt 28 (vP w7.heap.size (0+(t-7)*1))) (vW (((zc b t).get (t-7)).toNat)) (zo (hK14.cell (zan (t-7) (by omega)))) (⟨.inr (((Chg.refl (fun k=>k=w7.heap.size) w12).trans hEw18.chg).trans hEw23.chg), ?_⟩)
       refine zh (hw:=show Chg (fun k=>k=w7.heap.size) w12 w23 from (((Chg.refl (fun k=>k=w7.heap.size) w12).trans hEw18.chg).trans hEw23.chg)) hT164 9 53215231 (some 68) (vW ((((zc b t).get (t-16))+((zc b t).get (t-7))).toNat)) (zw .u32 _ (zU ((zc b t).get (t-16)) ((zc b t).get (t-7)))) (zh (hw:=show Chg (fun k=>k=w7.heap.size) w12 w23 from (((Chg.refl (fun k=>k=w7.heap.size) w12).trans hEw18.chg).trans hEw23.chg)) hT164 18 53477375 (some 77) (vW (((((zc b t).get (t-16))+((zc b t).get (t-7)))+(((rr ((zc b t).get (t-15)) 7)^^^(rr ((zc b t).get (t-15)) 18))^^^(((zc b t).get (t-15))>>>UInt32.ofNat 3))).toNat)) (zw .u32 _ (zU (((zc b t).get (t-16))+((zc b t).get (t-7))) (((rr ((zc b t).get (t-15)) 7)^^^(rr ((zc b t).get (t-15)) 18))^^^(((zc b t).get (t-15))>>>UInt32.ofNat 3)))) (zu 20 54525951 (zk (some 79) (zae ((zc b t).get (t-2)) 17 _ (by decide) (by decide)) ?_)))
       rintro _ w24 ⟨rfl,hEw24⟩
       have hzw24:=hEw24.size
       refine ⟨.inr ((((Chg.refl (fun k=>k=w7.heap.size) w12).trans hEw18.chg).trans hEw23.chg).trans hEw24.chg), ?_⟩
       refine zu 22 58720255 (zk (some 81) (zae ((zc b t).get (t-2)) 19 _ (by decide) (by decide)) ?_)
       rintro _ w25 ⟨rfl,hEw25⟩
       have hzw25:=hEw25.size
       refine ⟨.inr (((((Chg.refl (fun k=>k=w7.heap.size) w12).trans hEw18.chg).trans hEw23.chg).trans hEw24.chg).trans hEw25.chg), ?_⟩
       refine zh (hw:=show Chg (fun k=>k=w7.heap.size) w12 w25 from (((((Chg.refl (fun k=>k=w7.heap.size) w12).trans hEw18.chg).trans hEw23.chg).trans hEw24.chg).trans hEw25.chg)) hT164 23 67108863 (some 82) (vW (((rr ((zc b t).get (t-2)) 17)^^^(rr ((zc b t).get (t-2)) 19)).toNat)) (zw .u32 _ (zZ (rr ((zc b t).get (t-2)) 17) (rr ((zc b t).get (t-2)) 19))) (zh (hw:=show Chg (fun k=>k=w7.heap.size) w12 w25 from (((((Chg.refl (fun k=>k=w7.heap.size) w12).trans hEw18.chg).trans hEw23.chg).trans hEw24.chg).trans hEw25.chg)) hT164 26 134217727 (some 85) (vW ((((rr ((zc b t).get (t-2)) 17)^^^(rr ((zc b t).get (t-2)) 19))^^^(((zc b t).get (t-2))>>>UInt32.ofNat 10)).toNat)) (zw .u32 _ (zZ ((rr ((zc b t).get (t-2)) 17)^^^(rr ((zc b t).get (t-2)) 19)) (((zc b t).get (t-2))>>>UInt32.ofNat 10))) ?_)
       refine zh (hw:=show Chg (fun k=>k=w7.heap.size) w12 w25 from (((((Chg.refl (fun k=>k=w7.heap.size) w12).trans hEw18.chg).trans hEw23.chg).trans hEw24.chg).trans hEw25.chg)) hT164 27 268435455 (some 86) (vW ((((((zc b t).get (t-16))+((zc b t).get (t-7)))+(((rr ((zc b t).get (t-15)) 7)^^^(rr ((zc b t).get (t-15)) 18))^^^(((zc b t).get (t-15))>>>UInt32.ofNat 3)))+(((rr ((zc b t).get (t-2)) 17)^^^(rr ((zc b t).get (t-2)) 19))^^^(((zc b t).get (t-2))>>>UInt32.ofNat 10))).toNat)) (zw .u32 _ (zU ((((zc b t).get (t-16))+((zc b t).get (t-7)))+(((rr ((zc b t).get (t-15)) 7)^^^(rr ((zc b t).get (t-15)) 18))^^^(((zc b t).get (t-15))>>>UInt32.ofNat 3))) (((rr ((zc b t).get (t-2)) 17)^^^(rr ((zc b t).get (t-2)) 19))^^^(((zc b t).get (t-2))>>>UInt32.ofNat 10)))) (zh (hw:=show Chg (fun k=>k=w7.heap.size) w12 w25 from (((((Chg.refl (fun k=>k=w7.heap.size) w12).trans hEw18.chg).trans hEw23.chg).trans hEw24.chg).trans hEw25.chg)) hT164 28 536870911 (some 87) (vP w7.heap.size (0+t*1)) (zm (Instr.indexAt 149 (vP w7.heap.size 0) (vI t)) (fun w' hC=>zW (E:=28) (sz:=1) (m:=64) (by omega))) ?_)
       refine zu 29 1073741823 (zY 28 w7.heap.size (0+t*1) 149 (vW ((((((zc b t).get (t-16))+((zc b t).get (t-7)))+(((rr ((zc b t).get (t-15)) 7)^^^(rr ((zc b t).get (t-15)) 18))^^^(((zc b t).get (t-15))>>>UInt32.ofNat 3)))+(((rr ((zc b t).get (t-2)) 17)^^^(rr ((zc b t).get (t-2)) 19))^^^(((zc b t).get (t-2))>>>UInt32.ofNat 10))).toNat)) (zV (zc b t)) (((hK14.ext hEw24)).ext hEw25) (by first | decide |(simp;done)|(simp;omega)) ?_)
       intro w26 hBw26 hCw26
       have hzw26:=hCw26.size
       rw [show ((zV (zc b t)).set (0+t*1) (vW ((((((zc b t).get (t-16))+((zc b t).get (t-7)))+(((rr ((zc b t).get (t-15)) 7)^^^(rr ((zc b t).get (t-15)) 18))^^^(((zc b t).get (t-15))>>>UInt32.ofNat 3)))+(((rr ((zc b t).get (t-2)) 17)^^^(rr ((zc b t).get (t-2)) 19))^^^(((zc b t).get (t-2))>>>UInt32.ofNat 10))).toNat)):List Value)=zV ((zc b t).set t (((((zc b t).get (t-16))+((zc b t).get (t-7)))+(((rr ((zc b t).get (t-15)) 7)^^^(rr ((zc b t).get (t-15)) 18))^^^(((zc b t).get (t-15))>>>UInt32.ofNat 3)))+(((rr ((zc b t).get (t-2)) 17)^^^(rr ((zc b t).get (t-2)) 19))^^^(((zc b t).get (t-2))>>>UInt32.ofNat 10)))) from zaG t (((((zc b t).get (t-16))+((zc b t).get (t-7)))+(((rr ((zc b t).get (t-15)) 7)^^^(rr ((zc b t).get (t-15)) 18))^^^(((zc b t).get (t-15))>>>UInt32.ofNat 3)))+(((rr ((zc b t).get (t-2)) 17)^^^(rr ((zc b t).get (t-2)) 19))^^^(((zc b t).get (t-2))>>>UInt32.ofNat 10)))] at hBw26
       refine ⟨.inl (by kernel_rfl), ?_⟩
       refine zL (zr (zb (ze (zd 1 [(32,(vI t))] (za (zB (some 33) .i64 (IntKind.i64.wrap (((t:Nat):Int)+((1:Nat):Int))) (t+1) (zF (by omega) (by omega) (by omega)) ?_))))))
       refine zd 1 [(8,(vI (t+1)))] (zg (zD ?_))
       have hK15:=(((((((((((((hA.ext hEw11)).ext hEw12)).ext hEw18)).ext hEw23)).ext hEw24)).ext hEw25)).chg hCw26 (fun hs=>by have h:_=_:=hs;omega))
       have hK16:=(((((((((((((hK.ext hEw11)).ext hEw12)).ext hEw18)).ext hEw23)).ext hEw24)).ext hEw25)).chg hCw26 (fun hs=>by have h:_=_:=hs;omega))
       have hK17:=(((((((((((((hZ4.ext hEw11)).ext hEw12)).ext hEw18)).ext hEw23)).ext hEw24)).ext hEw25)).chg hCw26 (fun hs=>by have h:_=_:=hs;omega))
       have hX4:Ext w w26:=(Ext.own ((((((hEl.trans hEw11).trans hEw12).trans hEw18).trans hEw23).trans hEw24).trans hEw25) hCw26 (by omega))
       refine zR (t+1) ?_ ?_
       ·exact ⟨by omega,hK15,by have hz:=hBw26;rwa [show (zc b t).set t _=zc b (t+1) from zaA (by omega) (by unfold zbq zbo;ac_rfl)] at hz,hK16,hK17,hX4⟩
       ·first | omega |(dsimp only;omega)
      ·refine zk (some 79) (zae ((zc b t).get (t-2)) 17 _ (by decide) (by decide)) ?_
       rintro _ w27 ⟨rfl,hEw27⟩
       have hzw27:=hEw27.size
       refine ⟨.inr ((((Chg.refl (fun k=>k=w7.heap.size) w12).trans hEw18.chg).trans hEw23.chg).trans hEw27.chg), ?_⟩
       refine zaB 8 22 54263295 58457343 ?_ ?_
       ·have hK18:=(((((((((hB.ext hEw11)).ext hEw12)).ext hEw18)).ext hEw23)).ext hEw27)
        refine zi (some 67) (Instr.loadAt 28 (vP w7.heap.size (0+(t-7)*1))) (vW (((zc b t).get (t-7)).toNat)) (zo (hK18.cell (zan (t-7) (by omega)))) (⟨.inr ((((Chg.refl (fun k=>k=w7.heap.size) w12).trans hEw18.chg).trans hEw23.chg).trans hEw27.chg), ?_⟩)
        refine zh (hw:=show Chg (fun k=>k=w7.heap.size) w12 w27 from ((((Chg.refl (fun k=>k=w7.heap.size) w12).trans hEw18.chg).trans hEw23.chg).trans hEw27.chg)) hT164 9 54263807 (some 68) (vW ((((zc b t).get (t-16))+((zc b t).get (t-7))).toNat)) (zw .u32 _ (zU ((zc b t).get (t-16)) ((zc b t).get (t-7)))) (zh (hw:=show Chg (fun k=>k=w7.heap.size) w12 w27 from ((((Chg.refl (fun k=>k=w7.heap.size) w12).trans hEw18.chg).trans hEw23.chg).trans hEw27.chg)) hT164 18 54525951 (some 77) (vW (((((zc b t).get (t-16))+((zc b t).get (t-7)))+(((rr ((zc b t).get (t-15)) 7)^^^(rr ((zc b t).get (t-15)) 18))^^^(((zc b t).get (t-15))>>>UInt32.ofNat 3))).toNat)) (zw .u32 _ (zU (((zc b t).get (t-16))+((zc b t).get (t-7))) (((rr ((zc b t).get (t-15)) 7)^^^(rr ((zc b t).get (t-15)) 18))^^^(((zc b t).get (t-15))>>>UInt32.ofNat 3)))) (zu 22 58720255 (zk (some 81) (zae ((zc b t).get (t-2)) 19 _ (by decide) (by decide)) ?_)))
        rintro _ w28 ⟨rfl,hEw28⟩
        have hzw28:=hEw28.size
        refine ⟨.inr (((((Chg.refl (fun k=>k=w7.heap.size) w12).trans hEw18.chg).trans hEw23.chg).trans hEw27.chg).trans hEw28.chg), ?_⟩
        refine zh (hw:=show Chg (fun k=>k=w7.heap.size) w12 w28 from (((((Chg.refl (fun k=>k=w7.heap.size) w12).trans hEw18.chg).trans hEw23.chg).trans hEw27.chg).trans hEw28.chg)) hT164 23 67108863 (some 82) (vW (((rr ((zc b t).get (t-2)) 17)^^^(rr ((zc b t).get (t-2)) 19)).toNat)) (zw .u32 _ (zZ (rr ((zc b t).get (t-2)) 17) (rr ((zc b t).get (t-2)) 19))) (zh (hw:=show Chg (fun k=>k=w7.heap.size) w12 w28 from (((((Chg.refl (fun k=>k=w7.heap.size) w12).trans hEw18.chg).trans hEw23.chg).trans hEw27.chg).trans hEw28.chg)) hT164 26 134217727 (some 85) (vW ((((rr ((zc b t).get (t-2)) 17)^^^(rr ((zc b t).get (t-2)) 19))^^^(((zc b t).get (t-2))>>>UInt32.ofNat 10)).toNat)) (zw .u32 _ (zZ ((rr ((zc b t).get (t-2)) 17)^^^(rr ((zc b t).get (t-2)) 19)) (((zc b t).get (t-2))>>>UInt32.ofNat 10))) ?_)
        refine zh (hw:=show Chg (fun k=>k=w7.heap.size) w12 w28 from (((((Chg.refl (fun k=>k=w7.heap.size) w12).trans hEw18.chg).trans hEw23.chg).trans hEw27.chg).trans hEw28.chg)) hT164 27 268435455 (some 86) (vW ((((((zc b t).get (t-16))+((zc b t).get (t-7)))+(((rr ((zc b t).get (t-15)) 7)^^^(rr ((zc b t).get (t-15)) 18))^^^(((zc b t).get (t-15))>>>UInt32.ofNat 3)))+(((rr ((zc b t).get (t-2)) 17)^^^(rr ((zc b t).get (t-2)) 19))^^^(((zc b t).get (t-2))>>>UInt32.ofNat 10))).toNat)) (zw .u32 _ (zU ((((zc b t).get (t-16))+((zc b t).get (t-7)))+(((rr ((zc b t).get (t-15)) 7)^^^(rr ((zc b t).get (t-15)) 18))^^^(((zc b t).get (t-15))>>>UInt32.ofNat 3))) (((rr ((zc b t).get (t-2)) 17)^^^(rr ((zc b t).get (t-2)) 19))^^^(((zc b t).get (t-2))>>>UInt32.ofNat 10)))) (zh (hw:=show Chg (fun k=>k=w7.heap.size) w12 w28 from (((((Chg.refl (fun k=>k=w7.heap.size) w12).trans hEw18.chg).trans hEw23.chg).trans hEw27.chg).trans hEw28.chg)) hT164 28 536870911 (some 87) (vP w7.heap.size (0+t*1)) (zm (Instr.indexAt 149 (vP w7.heap.size 0) (vI t)) (fun w' hC=>zW (E:=28) (sz:=1) (m:=64) (by omega))) ?_)
        refine zu 29 1073741823 (zY 28 w7.heap.size (0+t*1) 149 (vW ((((((zc b t).get (t-16))+((zc b t).get (t-7)))+(((rr ((zc b t).get (t-15)) 7)^^^(rr ((zc b t).get (t-15)) 18))^^^(((zc b t).get (t-15))>>>UInt32.ofNat 3)))+(((rr ((zc b t).get (t-2)) 17)^^^(rr ((zc b t).get (t-2)) 19))^^^(((zc b t).get (t-2))>>>UInt32.ofNat 10))).toNat)) (zV (zc b t)) (hK18.ext hEw28) (by first | decide |(simp;done)|(simp;omega)) ?_)
        intro w29 hBw29 hCw29
        have hzw29:=hCw29.size
        rw [show ((zV (zc b t)).set (0+t*1) (vW ((((((zc b t).get (t-16))+((zc b t).get (t-7)))+(((rr ((zc b t).get (t-15)) 7)^^^(rr ((zc b t).get (t-15)) 18))^^^(((zc b t).get (t-15))>>>UInt32.ofNat 3)))+(((rr ((zc b t).get (t-2)) 17)^^^(rr ((zc b t).get (t-2)) 19))^^^(((zc b t).get (t-2))>>>UInt32.ofNat 10))).toNat)):List Value)=zV ((zc b t).set t (((((zc b t).get (t-16))+((zc b t).get (t-7)))+(((rr ((zc b t).get (t-15)) 7)^^^(rr ((zc b t).get (t-15)) 18))^^^(((zc b t).get (t-15))>>>UInt32.ofNat 3)))+(((rr ((zc b t).get (t-2)) 17)^^^(rr ((zc b t).get (t-2)) 19))^^^(((zc b t).get (t-2))>>>UInt32.ofNat 10)))) from zaG t (((((zc b t).get (t-16))+((zc b t).get (t-7)))+(((rr ((zc b t).get (t-15)) 7)^^^(rr ((zc b t).get (t-15)) 18))^^^(((zc b t).get (t-15))>>>UInt32.ofNat 3)))+(((rr ((zc b t).get (t-2)) 17)^^^(rr ((zc b t).get (t-2)) 19))^^^(((zc b t).get (t-2))>>>UInt32.ofNat 10)))] at hBw29
        refine ⟨.inl (by kernel_rfl), ?_⟩
        refine zL (zr (zb (ze (zd 1 [(32,(vI t))] (za (zB (some 33) .i64 (IntKind.i64.wrap (((t:Nat):Int)+((1:Nat):Int))) (t+1) (zF (by omega) (by omega) (by omega)) ?_))))))
        refine zd 1 [(8,(vI (t+1)))] (zg (zD ?_))
        have hK19:=(((((((((((((hA.ext hEw11)).ext hEw12)).ext hEw18)).ext hEw23)).ext hEw27)).ext hEw28)).chg hCw29 (fun hs=>by have h:_=_:=hs;omega))
        have hK20:=(((((((((((((hK.ext hEw11)).ext hEw12)).ext hEw18)).ext hEw23)).ext hEw27)).ext hEw28)).chg hCw29 (fun hs=>by have h:_=_:=hs;omega))
        have hK21:=(((((((((((((hZ4.ext hEw11)).ext hEw12)).ext hEw18)).ext hEw23)).ext hEw27)).ext hEw28)).chg hCw29 (fun hs=>by have h:_=_:=hs;omega))
        have hX5:Ext w w29:=(Ext.own ((((((hEl.trans hEw11).trans hEw12).trans hEw18).trans hEw23).trans hEw27).trans hEw28) hCw29 (by omega))
        refine zR (t+1) ?_ ?_
        ·exact ⟨by omega,hK19,by have hz:=hBw29;rwa [show (zc b t).set t _=zc b (t+1) from zaA (by omega) (by unfold zbq zbo;ac_rfl)] at hz,hK20,hK21,hX5⟩
        ·first | omega |(dsimp only;omega)
       ·refine zk (some 81) (zae ((zc b t).get (t-2)) 19 _ (by decide) (by decide)) ?_
        rintro _ w30 ⟨rfl,hEw30⟩
        have hzw30:=hEw30.size
        refine ⟨.inr (((((Chg.refl (fun k=>k=w7.heap.size) w12).trans hEw18.chg).trans hEw23.chg).trans hEw27.chg).trans hEw30.chg), ?_⟩
        refine zh (hw:=show Chg (fun k=>k=w7.heap.size) w12 w30 from (((((Chg.refl (fun k=>k=w7.heap.size) w12).trans hEw18.chg).trans hEw23.chg).trans hEw27.chg).trans hEw30.chg)) hT164 23 66845951 (some 82) (vW (((rr ((zc b t).get (t-2)) 17)^^^(rr ((zc b t).get (t-2)) 19)).toNat)) (zw .u32 _ (zZ (rr ((zc b t).get (t-2)) 17) (rr ((zc b t).get (t-2)) 19))) (zh (hw:=show Chg (fun k=>k=w7.heap.size) w12 w30 from (((((Chg.refl (fun k=>k=w7.heap.size) w12).trans hEw18.chg).trans hEw23.chg).trans hEw27.chg).trans hEw30.chg)) hT164 26 133954815 (some 85) (vW ((((rr ((zc b t).get (t-2)) 17)^^^(rr ((zc b t).get (t-2)) 19))^^^(((zc b t).get (t-2))>>>UInt32.ofNat 10)).toNat)) (zw .u32 _ (zZ ((rr ((zc b t).get (t-2)) 17)^^^(rr ((zc b t).get (t-2)) 19)) (((zc b t).get (t-2))>>>UInt32.ofNat 10))) ?_)
        have hK22:=(((((((((((hB.ext hEw11)).ext hEw12)).ext hEw18)).ext hEw23)).ext hEw27)).ext hEw30)
        refine zu 8 133955071 (zi (some 67) (Instr.loadAt 28 (vP w7.heap.size (0+(t-7)*1))) (vW (((zc b t).get (t-7)).toNat)) (zo (hK22.cell (zan (t-7) (by omega)))) ?_)
        refine ⟨.inr (((((Chg.refl (fun k=>k=w7.heap.size) w12).trans hEw18.chg).trans hEw23.chg).trans hEw27.chg).trans hEw30.chg), ?_⟩
        refine zh (hw:=show Chg (fun k=>k=w7.heap.size) w12 w30 from (((((Chg.refl (fun k=>k=w7.heap.size) w12).trans hEw18.chg).trans hEw23.chg).trans hEw27.chg).trans hEw30.chg)) hT164 9 133955583 (some 68) (vW ((((zc b t).get (t-16))+((zc b t).get (t-7))).toNat)) (zw .u32 _ (zU ((zc b t).get (t-16)) ((zc b t).get (t-7)))) (zh (hw:=show Chg (fun k=>k=w7.heap.size) w12 w30 from (((((Chg.refl (fun k=>k=w7.heap.size) w12).trans hEw18.chg).trans hEw23.chg).trans hEw27.chg).trans hEw30.chg)) hT164 18 134217727 (some 77) (vW (((((zc b t).get (t-16))+((zc b t).get (t-7)))+(((rr ((zc b t).get (t-15)) 7)^^^(rr ((zc b t).get (t-15)) 18))^^^(((zc b t).get (t-15))>>>UInt32.ofNat 3))).toNat)) (zw .u32 _ (zU (((zc b t).get (t-16))+((zc b t).get (t-7))) (((rr ((zc b t).get (t-15)) 7)^^^(rr ((zc b t).get (t-15)) 18))^^^(((zc b t).get (t-15))>>>UInt32.ofNat 3)))) ?_)
        refine zh (hw:=show Chg (fun k=>k=w7.heap.size) w12 w30 from (((((Chg.refl (fun k=>k=w7.heap.size) w12).trans hEw18.chg).trans hEw23.chg).trans hEw27.chg).trans hEw30.chg)) hT164 27 268435455 (some 86) (vW ((((((zc b t).get (t-16))+((zc b t).get (t-7)))+(((rr ((zc b t).get (t-15)) 7)^^^(rr ((zc b t).get (t-15)) 18))^^^(((zc b t).get (t-15))>>>UInt32.ofNat 3)))+(((rr ((zc b t).get (t-2)) 17)^^^(rr ((zc b t).get (t-2)) 19))^^^(((zc b t).get (t-2))>>>UInt32.ofNat 10))).toNat)) (zw .u32 _ (zU ((((zc b t).get (t-16))+((zc b t).get (t-7)))+(((rr ((zc b t).get (t-15)) 7)^^^(rr ((zc b t).get (t-15)) 18))^^^(((zc b t).get (t-15))>>>UInt32.ofNat 3))) (((rr ((zc b t).get (t-2)) 17)^^^(rr ((zc b t).get (t-2)) 19))^^^(((zc b t).get (t-2))>>>UInt32.ofNat 10)))) (zh (hw:=show Chg (fun k=>k=w7.heap.size) w12 w30 from (((((Chg.refl (fun k=>k=w7.heap.size) w12).trans hEw18.chg).trans hEw23.chg).trans hEw27.chg).trans hEw30.chg)) hT164 28 536870911 (some 87) (vP w7.heap.size (0+t*1)) (zm (Instr.indexAt 149 (vP w7.heap.size 0) (vI t)) (fun w' hC=>zW (E:=28) (sz:=1) (m:=64) (by omega))) ?_)
        refine zu 29 1073741823 (zY 28 w7.heap.size (0+t*1) 149 (vW ((((((zc b t).get (t-16))+((zc b t).get (t-7)))+(((rr ((zc b t).get (t-15)) 7)^^^(rr ((zc b t).get (t-15)) 18))^^^(((zc b t).get (t-15))>>>UInt32.ofNat 3)))+(((rr ((zc b t).get (t-2)) 17)^^^(rr ((zc b t).get (t-2)) 19))^^^(((zc b t).get (t-2))>>>UInt32.ofNat 10))).toNat)) (zV (zc b t)) hK22 (by first | decide |(simp;done)|(simp;omega)) ?_)
        intro w31 hBw31 hCw31
        have hzw31:=hCw31.size
        rw [show ((zV (zc b t)).set (0+t*1) (vW ((((((zc b t).get (t-16))+((zc b t).get (t-7)))+(((rr ((zc b t).get (t-15)) 7)^^^(rr ((zc b t).get (t-15)) 18))^^^(((zc b t).get (t-15))>>>UInt32.ofNat 3)))+(((rr ((zc b t).get (t-2)) 17)^^^(rr ((zc b t).get (t-2)) 19))^^^(((zc b t).get (t-2))>>>UInt32.ofNat 10))).toNat)):List Value)=zV ((zc b t).set t (((((zc b t).get (t-16))+((zc b t).get (t-7)))+(((rr ((zc b t).get (t-15)) 7)^^^(rr ((zc b t).get (t-15)) 18))^^^(((zc b t).get (t-15))>>>UInt32.ofNat 3)))+(((rr ((zc b t).get (t-2)) 17)^^^(rr ((zc b t).get (t-2)) 19))^^^(((zc b t).get (t-2))>>>UInt32.ofNat 10)))) from zaG t (((((zc b t).get (t-16))+((zc b t).get (t-7)))+(((rr ((zc b t).get (t-15)) 7)^^^(rr ((zc b t).get (t-15)) 18))^^^(((zc b t).get (t-15))>>>UInt32.ofNat 3)))+(((rr ((zc b t).get (t-2)) 17)^^^(rr ((zc b t).get (t-2)) 19))^^^(((zc b t).get (t-2))>>>UInt32.ofNat 10)))] at hBw31
        refine ⟨.inl (by kernel_rfl), ?_⟩
        refine zL (zr (zb (ze (zd 1 [(32,(vI t))] (za (zB (some 33) .i64 (IntKind.i64.wrap (((t:Nat):Int)+((1:Nat):Int))) (t+1) (zF (by omega) (by omega) (by omega)) ?_))))))
        refine zd 1 [(8,(vI (t+1)))] (zg (zD ?_))
        have hK23:=(((((((((((((hA.ext hEw11)).ext hEw12)).ext hEw18)).ext hEw23)).ext hEw27)).ext hEw30)).chg hCw31 (fun hs=>by have h:_=_:=hs;omega))
        have hK24:=(((((((((((((hK.ext hEw11)).ext hEw12)).ext hEw18)).ext hEw23)).ext hEw27)).ext hEw30)).chg hCw31 (fun hs=>by have h:_=_:=hs;omega))
        have hK25:=(((((((((((((hZ4.ext hEw11)).ext hEw12)).ext hEw18)).ext hEw23)).ext hEw27)).ext hEw30)).chg hCw31 (fun hs=>by have h:_=_:=hs;omega))
        have hX6:Ext w w31:=(Ext.own ((((((hEl.trans hEw11).trans hEw12).trans hEw18).trans hEw23).trans hEw27).trans hEw30) hCw31 (by omega))
        refine zR (t+1) ?_ ?_
        ·exact ⟨by omega,hK23,by have hz:=hBw31;rwa [show (zc b t).set t _=zc b (t+1) from zaA (by omega) (by unfold zbq zbo;ac_rfl)] at hz,hK24,hK25,hX6⟩
        ·first | omega |(dsimp only;omega)
   ·refine zi (some 67) (Instr.loadAt 28 (vP w7.heap.size (0+(t-7)*1))) (vW (((zc b t).get (t-7)).toNat)) (zo ((((hB.ext hEw11)).ext hEw12).cell (zan (t-7) (by omega)))) (⟨.inr (Chg.refl (fun k=>k=w7.heap.size) w12), ?_⟩)
    refine zaB 4 11 53057023 53059055 ?_ ?_
    ·refine zi (some 63) (Instr.loadAt 28 (vP w7.heap.size (0+(t-16)*1))) (vW (((zc b t).get (t-16)).toNat)) (zo ((((hB.ext hEw11)).ext hEw12).cell (zan (t-16) (by omega)))) (⟨.inr (Chg.refl (fun k=>k=w7.heap.size) w12), ?_⟩)
     refine zh (hw:=show Chg (fun k=>k=w7.heap.size) w12 w12 from (Chg.refl (fun k=>k=w7.heap.size) w12)) hT164 9 53057535 (some 68) (vW ((((zc b t).get (t-16))+((zc b t).get (t-7))).toNat)) (zw .u32 _ (zU ((zc b t).get (t-16)) ((zc b t).get (t-7)))) (zu 11 53059583 (zk (some 70) (zae ((zc b t).get (t-15)) 7 _ (by decide) (by decide)) ?_))
     rintro _ w32 ⟨rfl,hEw32⟩
     have hzw32:=hEw32.size
     refine ⟨.inr ((Chg.refl (fun k=>k=w7.heap.size) w12).trans hEw32.chg), ?_⟩
     refine zu 13 53067775 (zk (some 72) (zae ((zc b t).get (t-15)) 18 _ (by decide) (by decide)) ?_)
     rintro _ w33 ⟨rfl,hEw33⟩
     have hzw33:=hEw33.size
     refine ⟨.inr (((Chg.refl (fun k=>k=w7.heap.size) w12).trans hEw32.chg).trans hEw33.chg), ?_⟩
     refine zh (hw:=show Chg (fun k=>k=w7.heap.size) w12 w33 from (((Chg.refl (fun k=>k=w7.heap.size) w12).trans hEw32.chg).trans hEw33.chg)) hT164 14 53084159 (some 73) (vW (((rr ((zc b t).get (t-15)) 7)^^^(rr ((zc b t).get (t-15)) 18)).toNat)) (zw .u32 _ (zZ (rr ((zc b t).get (t-15)) 7) (rr ((zc b t).get (t-15)) 18))) (zh (hw:=show Chg (fun k=>k=w7.heap.size) w12 w33 from (((Chg.refl (fun k=>k=w7.heap.size) w12).trans hEw32.chg).trans hEw33.chg)) hT164 17 53215231 (some 76) (vW ((((rr ((zc b t).get (t-15)) 7)^^^(rr ((zc b t).get (t-15)) 18))^^^(((zc b t).get (t-15))>>>UInt32.ofNat 3)).toNat)) (zw .u32 _ (zZ ((rr ((zc b t).get (t-15)) 7)^^^(rr ((zc b t).get (t-15)) 18)) (((zc b t).get (t-15))>>>UInt32.ofNat 3))) (zh (hw:=show Chg (fun k=>k=w7.heap.size) w12 w33 from (((Chg.refl (fun k=>k=w7.heap.size) w12).trans hEw32.chg).trans hEw33.chg)) hT164 18 53477375 (some 77) (vW (((((zc b t).get (t-16))+((zc b t).get (t-7)))+(((rr ((zc b t).get (t-15)) 7)^^^(rr ((zc b t).get (t-15)) 18))^^^(((zc b t).get (t-15))>>>UInt32.ofNat 3))).toNat)) (zw .u32 _ (zU (((zc b t).get (t-16))+((zc b t).get (t-7))) (((rr ((zc b t).get (t-15)) 7)^^^(rr ((zc b t).get (t-15)) 18))^^^(((zc b t).get (t-15))>>>UInt32.ofNat 3)))) (zu 20 54525951 (zk (some 79) (zae ((zc b t).get (t-2)) 17 _ (by decide) (by decide)) ?_))))
     rintro _ w34 ⟨rfl,hEw34⟩
     have hzw34:=hEw34.size
     refine ⟨.inr ((((Chg.refl (fun k=>k=w7.heap.size) w12).trans hEw32.chg).trans hEw33.chg).trans hEw34.chg), ?_⟩
     refine zu 22 58720255 (zk (some 81) (zae ((zc b t).get (t-2)) 19 _ (by decide) (by decide)) ?_)
     rintro _ w35 ⟨rfl,hEw35⟩
     have hzw35:=hEw35.size
     refine ⟨.inr (((((Chg.refl (fun k=>k=w7.heap.size) w12).trans hEw32.chg).trans hEw33.chg).trans hEw34.chg).trans hEw35.chg), ?_⟩
     refine zh (hw:=show Chg (fun k=>k=w7.heap.size) w12 w35 from (((((Chg.refl (fun k=>k=w7.heap.size) w12).trans hEw32.chg).trans hEw33.chg).trans hEw34.chg).trans hEw35.chg)) hT164 23 67108863 (some 82) (vW (((rr ((zc b t).get (t-2)) 17)^^^(rr ((zc b t).get (t-2)) 19)).toNat)) (zw .u32 _ (zZ (rr ((zc b t).get (t-2)) 17) (rr ((zc b t).get (t-2)) 19))) (zh (hw:=show Chg (fun k=>k=w7.heap.size) w12 w35 from (((((Chg.refl (fun k=>k=w7.heap.size) w12).trans hEw32.chg).trans hEw33.chg).trans hEw34.chg).trans hEw35.chg)) hT164 26 134217727 (some 85) (vW ((((rr ((zc b t).get (t-2)) 17)^^^(rr ((zc b t).get (t-2)) 19))^^^(((zc b t).get (t-2))>>>UInt32.ofNat 10)).toNat)) (zw .u32 _ (zZ ((rr ((zc b t).get (t-2)) 17)^^^(rr ((zc b t).get (t-2)) 19)) (((zc b t).get (t-2))>>>UInt32.ofNat 10))) ?_)
     refine zh (hw:=show Chg (fun k=>k=w7.heap.size) w12 w35 from (((((Chg.refl (fun k=>k=w7.heap.size) w12).trans hEw32.chg).trans hEw33.chg).trans hEw34.chg).trans hEw35.chg)) hT164 27 268435455 (some 86) (vW ((((((zc b t).get (t-16))+((zc b t).get (t-7)))+(((rr ((zc b t).get (t-15)) 7)^^^(rr ((zc b t).get (t-15)) 18))^^^(((zc b t).get (t-15))>>>UInt32.ofNat 3)))+(((rr ((zc b t).get (t-2)) 17)^^^(rr ((zc b t).get (t-2)) 19))^^^(((zc b t).get (t-2))>>>UInt32.ofNat 10))).toNat)) (zw .u32 _ (zU ((((zc b t).get (t-16))+((zc b t).get (t-7)))+(((rr ((zc b t).get (t-15)) 7)^^^(rr ((zc b t).get (t-15)) 18))^^^(((zc b t).get (t-15))>>>UInt32.ofNat 3))) (((rr ((zc b t).get (t-2)) 17)^^^(rr ((zc b t).get (t-2)) 19))^^^(((zc b t).get (t-2))>>>UInt32.ofNat 10)))) (zh (hw:=show Chg (fun k=>k=w7.heap.size) w12 w35 from (((((Chg.refl (fun k=>k=w7.heap.size) w12).trans hEw32.chg).trans hEw33.chg).trans hEw34.chg).trans hEw35.chg)) hT164 28 536870911 (some 87) (vP w7.heap.size (0+t*1)) (zm (Instr.indexAt 149 (vP w7.heap.size 0) (vI t)) (fun w' hC=>zW (E:=28) (sz:=1) (m:=64) (by omega))) ?_)
     have hK26:=(((((((((((hB.ext hEw11)).ext hEw12)).ext hEw32)).ext hEw33)).ext hEw34)).ext hEw35)
     refine zu 29 1073741823 (zY 28 w7.heap.size (0+t*1) 149 (vW ((((((zc b t).get (t-16))+((zc b t).get (t-7)))+(((rr ((zc b t).get (t-15)) 7)^^^(rr ((zc b t).get (t-15)) 18))^^^(((zc b t).get (t-15))>>>UInt32.ofNat 3)))+(((rr ((zc b t).get (t-2)) 17)^^^(rr ((zc b t).get (t-2)) 19))^^^(((zc b t).get (t-2))>>>UInt32.ofNat 10))).toNat)) (zV (zc b t)) hK26 (by first | decide |(simp;done)|(simp;omega)) ?_)
     have hK27:=(((((((((((hB.ext hEw11)).ext hEw12)).ext hEw32)).ext hEw33)).ext hEw34)).ext hEw35)
     intro w36 hBw36 hCw36
     have hzw36:=hCw36.size
     rw [show ((zV (zc b t)).set (0+t*1) (vW ((((((zc b t).get (t-16))+((zc b t).get (t-7)))+(((rr ((zc b t).get (t-15)) 7)^^^(rr ((zc b t).get (t-15)) 18))^^^(((zc b t).get (t-15))>>>UInt32.ofNat 3)))+(((rr ((zc b t).get (t-2)) 17)^^^(rr ((zc b t).get (t-2)) 19))^^^(((zc b t).get (t-2))>>>UInt32.ofNat 10))).toNat)):List Value)=zV ((zc b t).set t (((((zc b t).get (t-16))+((zc b t).get (t-7)))+(((rr ((zc b t).get (t-15)) 7)^^^(rr ((zc b t).get (t-15)) 18))^^^(((zc b t).get (t-15))>>>UInt32.ofNat 3)))+(((rr ((zc b t).get (t-2)) 17)^^^(rr ((zc b t).get (t-2)) 19))^^^(((zc b t).get (t-2))>>>UInt32.ofNat 10)))) from zaG t (((((zc b t).get (t-16))+((zc b t).get (t-7)))+(((rr ((zc b t).get (t-15)) 7)^^^(rr ((zc b t).get (t-15)) 18))^^^(((zc b t).get (t-15))>>>UInt32.ofNat 3)))+(((rr ((zc b t).get (t-2)) 17)^^^(rr ((zc b t).get (t-2)) 19))^^^(((zc b t).get (t-2))>>>UInt32.ofNat 10)))] at hBw36
     refine ⟨.inl (by kernel_rfl), ?_⟩
     refine zL (zr (zb (ze (zd 1 [(32,(vI t))] (za (zB (some 33) .i64 (IntKind.i64.wrap (((t:Nat):Int)+((1:Nat):Int))) (t+1) (zF (by omega) (by omega) (by omega)) ?_))))))
     refine zd 1 [(8,(vI (t+1)))] (zg (zD ?_))
     have hK28:=(((((((((((((hA.ext hEw11)).ext hEw12)).ext hEw32)).ext hEw33)).ext hEw34)).ext hEw35)).chg hCw36 (fun hs=>by have h:_=_:=hs;omega))
     have hK29:=(((((((((((((hK.ext hEw11)).ext hEw12)).ext hEw32)).ext hEw33)).ext hEw34)).ext hEw35)).chg hCw36 (fun hs=>by have h:_=_:=hs;omega))
     have hK30:=(((((((((((((hZ4.ext hEw11)).ext hEw12)).ext hEw32)).ext hEw33)).ext hEw34)).ext hEw35)).chg hCw36 (fun hs=>by have h:_=_:=hs;omega))
     have hX7:Ext w w36:=(Ext.own ((((((hEl.trans hEw11).trans hEw12).trans hEw32).trans hEw33).trans hEw34).trans hEw35) hCw36 (by omega))
     refine zR (t+1) ?_ ?_
     ·exact ⟨by omega,hK28,by have hz:=hBw36;rwa [show (zc b t).set t _=zc b (t+1) from zaA (by omega) (by unfold zbq zbo;ac_rfl)] at hz,hK29,hK30,hX7⟩
     ·first | omega |(dsimp only;omega)
    ·refine zk (some 70) (zae ((zc b t).get (t-15)) 7 _ (by decide) (by decide)) ?_
     rintro _ w37 ⟨rfl,hEw37⟩
     have hzw37:=hEw37.size
     refine ⟨.inr ((Chg.refl (fun k=>k=w7.heap.size) w12).trans hEw37.chg), ?_⟩
     refine zaB 4 13 53059071 53067247 ?_ ?_
     ·have hK31:=(((((hB.ext hEw11)).ext hEw12)).ext hEw37)
      refine zi (some 63) (Instr.loadAt 28 (vP w7.heap.size (0+(t-16)*1))) (vW (((zc b t).get (t-16)).toNat)) (zo (hK31.cell (zan (t-16) (by omega)))) (⟨.inr ((Chg.refl (fun k=>k=w7.heap.size) w12).trans hEw37.chg), ?_⟩)
      refine zh (hw:=show Chg (fun k=>k=w7.heap.size) w12 w37 from ((Chg.refl (fun k=>k=w7.heap.size) w12).trans hEw37.chg)) hT164 9 53059583 (some 68) (vW ((((zc b t).get (t-16))+((zc b t).get (t-7))).toNat)) (zw .u32 _ (zU ((zc b t).get (t-16)) ((zc b t).get (t-7)))) (zu 13 53067775 (zk (some 72) (zae ((zc b t).get (t-15)) 18 _ (by decide) (by decide)) ?_))
      rintro _ w38 ⟨rfl,hEw38⟩
      have hzw38:=hEw38.size
      refine ⟨.inr (((Chg.refl (fun k=>k=w7.heap.size) w12).trans hEw37.chg).trans hEw38.chg), ?_⟩
      refine zh (hw:=show Chg (fun k=>k=w7.heap.size) w12 w38 from (((Chg.refl (fun k=>k=w7.heap.size) w12).trans hEw37.chg).trans hEw38.chg)) hT164 14 53084159 (some 73) (vW (((rr ((zc b t).get (t-15)) 7)^^^(rr ((zc b t).get (t-15)) 18)).toNat)) (zw .u32 _ (zZ (rr ((zc b t).get (t-15)) 7) (rr ((zc b t).get (t-15)) 18))) (zh (hw:=show Chg (fun k=>k=w7.heap.size) w12 w38 from (((Chg.refl (fun k=>k=w7.heap.size) w12).trans hEw37.chg).trans hEw38.chg)) hT164 17 53215231 (some 76) (vW ((((rr ((zc b t).get (t-15)) 7)^^^(rr ((zc b t).get (t-15)) 18))^^^(((zc b t).get (t-15))>>>UInt32.ofNat 3)).toNat)) (zw .u32 _ (zZ ((rr ((zc b t).get (t-15)) 7)^^^(rr ((zc b t).get (t-15)) 18)) (((zc b t).get (t-15))>>>UInt32.ofNat 3))) (zh (hw:=show Chg (fun k=>k=w7.heap.size) w12 w38 from (((Chg.refl (fun k=>k=w7.heap.size) w12).trans hEw37.chg).trans hEw38.chg)) hT164 18 53477375 (some 77) (vW (((((zc b t).get (t-16))+((zc b t).get (t-7)))+(((rr ((zc b t).get (t-15)) 7)^^^(rr ((zc b t).get (t-15)) 18))^^^(((zc b t).get (t-15))>>>UInt32.ofNat 3))).toNat)) (zw .u32 _ (zU (((zc b t).get (t-16))+((zc b t).get (t-7))) (((rr ((zc b t).get (t-15)) 7)^^^(rr ((zc b t).get (t-15)) 18))^^^(((zc b t).get (t-15))>>>UInt32.ofNat 3)))) (zu 20 54525951 (zk (some 79) (zae ((zc b t).get (t-2)) 17 _ (by decide) (by decide)) ?_))))
      rintro _ w39 ⟨rfl,hEw39⟩
      have hzw39:=hEw39.size
      refine ⟨.inr ((((Chg.refl (fun k=>k=w7.heap.size) w12).trans hEw37.chg).trans hEw38.chg).trans hEw39.chg), ?_⟩
      refine zu 22 58720255 (zk (some 81) (zae ((zc b t).get (t-2)) 19 _ (by decide) (by decide)) ?_)
      rintro _ w40 ⟨rfl,hEw40⟩
      have hzw40:=hEw40.size
      refine ⟨.inr (((((Chg.refl (fun k=>k=w7.heap.size) w12).trans hEw37.chg).trans hEw38.chg).trans hEw39.chg).trans hEw40.chg), ?_⟩
      refine zh (hw:=show Chg (fun k=>k=w7.heap.size) w12 w40 from (((((Chg.refl (fun k=>k=w7.heap.size) w12).trans hEw37.chg).trans hEw38.chg).trans hEw39.chg).trans hEw40.chg)) hT164 23 67108863 (some 82) (vW (((rr ((zc b t).get (t-2)) 17)^^^(rr ((zc b t).get (t-2)) 19)).toNat)) (zw .u32 _ (zZ (rr ((zc b t).get (t-2)) 17) (rr ((zc b t).get (t-2)) 19))) (zh (hw:=show Chg (fun k=>k=w7.heap.size) w12 w40 from (((((Chg.refl (fun k=>k=w7.heap.size) w12).trans hEw37.chg).trans hEw38.chg).trans hEw39.chg).trans hEw40.chg)) hT164 26 134217727 (some 85) (vW ((((rr ((zc b t).get (t-2)) 17)^^^(rr ((zc b t).get (t-2)) 19))^^^(((zc b t).get (t-2))>>>UInt32.ofNat 10)).toNat)) (zw .u32 _ (zZ ((rr ((zc b t).get (t-2)) 17)^^^(rr ((zc b t).get (t-2)) 19)) (((zc b t).get (t-2))>>>UInt32.ofNat 10))) ?_)
      refine zh (hw:=show Chg (fun k=>k=w7.heap.size) w12 w40 from (((((Chg.refl (fun k=>k=w7.heap.size) w12).trans hEw37.chg).trans hEw38.chg).trans hEw39.chg).trans hEw40.chg)) hT164 27 268435455 (some 86) (vW ((((((zc b t).get (t-16))+((zc b t).get (t-7)))+(((rr ((zc b t).get (t-15)) 7)^^^(rr ((zc b t).get (t-15)) 18))^^^(((zc b t).get (t-15))>>>UInt32.ofNat 3)))+(((rr ((zc b t).get (t-2)) 17)^^^(rr ((zc b t).get (t-2)) 19))^^^(((zc b t).get (t-2))>>>UInt32.ofNat 10))).toNat)) (zw .u32 _ (zU ((((zc b t).get (t-16))+((zc b t).get (t-7)))+(((rr ((zc b t).get (t-15)) 7)^^^(rr ((zc b t).get (t-15)) 18))^^^(((zc b t).get (t-15))>>>UInt32.ofNat 3))) (((rr ((zc b t).get (t-2)) 17)^^^(rr ((zc b t).get (t-2)) 19))^^^(((zc b t).get (t-2))>>>UInt32.ofNat 10)))) (zh (hw:=show Chg (fun k=>k=w7.heap.size) w12 w40 from (((((Chg.refl (fun k=>k=w7.heap.size) w12).trans hEw37.chg).trans hEw38.chg).trans hEw39.chg).trans hEw40.chg)) hT164 28 536870911 (some 87) (vP w7.heap.size (0+t*1)) (zm (Instr.indexAt 149 (vP w7.heap.size 0) (vI t)) (fun w' hC=>zW (E:=28) (sz:=1) (m:=64) (by omega))) ?_)
      have hK32:=(((((hK31.ext hEw38)).ext hEw39)).ext hEw40)
      refine zu 29 1073741823 (zY 28 w7.heap.size (0+t*1) 149 (vW ((((((zc b t).get (t-16))+((zc b t).get (t-7)))+(((rr ((zc b t).get (t-15)) 7)^^^(rr ((zc b t).get (t-15)) 18))^^^(((zc b t).get (t-15))>>>UInt32.ofNat 3)))+(((rr ((zc b t).get (t-2)) 17)^^^(rr ((zc b t).get (t-2)) 19))^^^(((zc b t).get (t-2))>>>UInt32.ofNat 10))).toNat)) (zV (zc b t)) hK32 (by first | decide |(simp;done)|(simp;omega)) ?_)
      have hK33:=(((((hK31.ext hEw38)).ext hEw39)).ext hEw40)
      intro w41 hBw41 hCw41
      have hzw41:=hCw41.size
      rw [show ((zV (zc b t)).set (0+t*1) (vW ((((((zc b t).get (t-16))+((zc b t).get (t-7)))+(((rr ((zc b t).get (t-15)) 7)^^^(rr ((zc b t).get (t-15)) 18))^^^(((zc b t).get (t-15))>>>UInt32.ofNat 3)))+(((rr ((zc b t).get (t-2)) 17)^^^(rr ((zc b t).get (t-2)) 19))^^^(((zc b t).get (t-2))>>>UInt32.ofNat 10))).toNat)):List Value)=zV ((zc b t).set t (((((zc b t).get (t-16))+((zc b t).get (t-7)))+(((rr ((zc b t).get (t-15)) 7)^^^(rr ((zc b t).get (t-15)) 18))^^^(((zc b t).get (t-15))>>>UInt32.ofNat 3)))+(((rr ((zc b t).get (t-2)) 17)^^^(rr ((zc b t).get (t-2)) 19))^^^(((zc b t).get (t-2))>>>UInt32.ofNat 10)))) from zaG t (((((zc b t).get (t-16))+((zc b t).get (t-7)))+(((rr ((zc b t).get (t-15)) 7)^^^(rr ((zc b t).get (t-15)) 18))^^^(((zc b t).get (t-15))>>>UInt32.ofNat 3)))+(((rr ((zc b t).get (t-2)) 17)^^^(rr ((zc b t).get (t-2)) 19))^^^(((zc b t).get (t-2))>>>UInt32.ofNat 10)))] at hBw41
      refine ⟨.inl (by kernel_rfl), ?_⟩
      refine zL (zr (zb (ze (zd 1 [(32,(vI t))] (za (zB (some 33) .i64 (IntKind.i64.wrap (((t:Nat):Int)+((1:Nat):Int))) (t+1) (zF (by omega) (by omega) (by omega)) ?_))))))
      refine zd 1 [(8,(vI (t+1)))] (zg (zD ?_))
      have hK34:=(((((((((((((hA.ext hEw11)).ext hEw12)).ext hEw37)).ext hEw38)).ext hEw39)).ext hEw40)).chg hCw41 (fun hs=>by have h:_=_:=hs;omega))
      have hK35:=(((((((((((((hK.ext hEw11)).ext hEw12)).ext hEw37)).ext hEw38)).ext hEw39)).ext hEw40)).chg hCw41 (fun hs=>by have h:_=_:=hs;omega))
      have hK36:=(((((((((((((hZ4.ext hEw11)).ext hEw12)).ext hEw37)).ext hEw38)).ext hEw39)).ext hEw40)).chg hCw41 (fun hs=>by have h:_=_:=hs;omega))
      have hX8:Ext w w41:=(Ext.own ((((((hEl.trans hEw11).trans hEw12).trans hEw37).trans hEw38).trans hEw39).trans hEw40) hCw41 (by omega))
      refine zR (t+1) ?_ ?_
      ·exact ⟨by omega,hK34,by have hz:=hBw41;rwa [show (zc b t).set t _=zc b (t+1) from zaA (by omega) (by unfold zbq zbo;ac_rfl)] at hz,hK35,hK36,hX8⟩
      ·first | omega |(dsimp only;omega)
     ·refine zk (some 72) (zae ((zc b t).get (t-15)) 18 _ (by decide) (by decide)) ?_
      rintro _ w42 ⟨rfl,hEw42⟩
      have hzw42:=hEw42.size
      refine ⟨.inr (((Chg.refl (fun k=>k=w7.heap.size) w12).trans hEw37.chg).trans hEw42.chg), ?_⟩
      refine zh (hw:=show Chg (fun k=>k=w7.heap.size) w12 w42 from (((Chg.refl (fun k=>k=w7.heap.size) w12).trans hEw37.chg).trans hEw42.chg)) hT164 14 53083631 (some 73) (vW (((rr ((zc b t).get (t-15)) 7)^^^(rr ((zc b t).get (t-15)) 18)).toNat)) (zw .u32 _ (zZ (rr ((zc b t).get (t-15)) 7) (rr ((zc b t).get (t-15)) 18))) (zh (hw:=show Chg (fun k=>k=w7.heap.size) w12 w42 from (((Chg.refl (fun k=>k=w7.heap.size) w12).trans hEw37.chg).trans hEw42.chg)) hT164 17 53214703 (some 76) (vW ((((rr ((zc b t).get (t-15)) 7)^^^(rr ((zc b t).get (t-15)) 18))^^^(((zc b t).get (t-15))>>>UInt32.ofNat 3)).toNat)) (zw .u32 _ (zZ ((rr ((zc b t).get (t-15)) 7)^^^(rr ((zc b t).get (t-15)) 18)) (((zc b t).get (t-15))>>>UInt32.ofNat 3))) (zaB 4 20 53214719 54263279 ?_ ?_))
      ·have hK37:=(((((((hB.ext hEw11)).ext hEw12)).ext hEw37)).ext hEw42)
       refine zi (some 63) (Instr.loadAt 28 (vP w7.heap.size (0+(t-16)*1))) (vW (((zc b t).get (t-16)).toNat)) (zo (hK37.cell (zan (t-16) (by omega)))) (⟨.inr (((Chg.refl (fun k=>k=w7.heap.size) w12).trans hEw37.chg).trans hEw42.chg), ?_⟩)
       refine zh (hw:=show Chg (fun k=>k=w7.heap.size) w12 w42 from (((Chg.refl (fun k=>k=w7.heap.size) w12).trans hEw37.chg).trans hEw42.chg)) hT164 9 53215231 (some 68) (vW ((((zc b t).get (t-16))+((zc b t).get (t-7))).toNat)) (zw .u32 _ (zU ((zc b t).get (t-16)) ((zc b t).get (t-7)))) (zh (hw:=show Chg (fun k=>k=w7.heap.size) w12 w42 from (((Chg.refl (fun k=>k=w7.heap.size) w12).trans hEw37.chg).trans hEw42.chg)) hT164 18 53477375 (some 77) (vW (((((zc b t).get (t-16))+((zc b t).get (t-7)))+(((rr ((zc b t).get (t-15)) 7)^^^(rr ((zc b t).get (t-15)) 18))^^^(((zc b t).get (t-15))>>>UInt32.ofNat 3))).toNat)) (zw .u32 _ (zU (((zc b t).get (t-16))+((zc b t).get (t-7))) (((rr ((zc b t).get (t-15)) 7)^^^(rr ((zc b t).get (t-15)) 18))^^^(((zc b t).get (t-15))>>>UInt32.ofNat 3)))) (zu 20 54525951 (zk (some 79) (zae ((zc b t).get (t-2)) 17 _ (by decide) (by decide)) ?_)))
       rintro _ w43 ⟨rfl,hEw43⟩
       have hzw43:=hEw43.size
       refine ⟨.inr ((((Chg.refl (fun k=>k=w7.heap.size) w12).trans hEw37.chg).trans hEw42.chg).trans hEw43.chg), ?_⟩
       refine zu 22 58720255 (zk (some 81) (zae ((zc b t).get (t-2)) 19 _ (by decide) (by decide)) ?_)
       rintro _ w44 ⟨rfl,hEw44⟩
       have hzw44:=hEw44.size
       refine ⟨.inr (((((Chg.refl (fun k=>k=w7.heap.size) w12).trans hEw37.chg).trans hEw42.chg).trans hEw43.chg).trans hEw44.chg), ?_⟩
       refine zh (hw:=show Chg (fun k=>k=w7.heap.size) w12 w44 from (((((Chg.refl (fun k=>k=w7.heap.size) w12).trans hEw37.chg).trans hEw42.chg).trans hEw43.chg).trans hEw44.chg)) hT164 23 67108863 (some 82) (vW (((rr ((zc b t).get (t-2)) 17)^^^(rr ((zc b t).get (t-2)) 19)).toNat)) (zw .u32 _ (zZ (rr ((zc b t).get (t-2)) 17) (rr ((zc b t).get (t-2)) 19))) (zh (hw:=show Chg (fun k=>k=w7.heap.size) w12 w44 from (((((Chg.refl (fun k=>k=w7.heap.size) w12).trans hEw37.chg).trans hEw42.chg).trans hEw43.chg).trans hEw44.chg)) hT164 26 134217727 (some 85) (vW ((((rr ((zc b t).get (t-2)) 17)^^^(rr ((zc b t).get (t-2)) 19))^^^(((zc b t).get (t-2))>>>UInt32.ofNat 10)).toNat)) (zw .u32 _ (zZ ((rr ((zc b t).get (t-2)) 17)^^^(rr ((zc b t).get (t-2)) 19)) (((zc b t).get (t-2))>>>UInt32.ofNat 10))) ?_)
       refine zh (hw:=show Chg (fun k=>k=w7.heap.size) w12 w44 from (((((Chg.refl (fun k=>k=w7.heap.size) w12).trans hEw37.chg).trans hEw42.chg).trans hEw43.chg).trans hEw44.chg)) hT164 27 268435455 (some 86) (vW ((((((zc b t).get (t-16))+((zc b t).get (t-7)))+(((rr ((zc b t).get (t-15)) 7)^^^(rr ((zc b t).get (t-15)) 18))^^^(((zc b t).get (t-15))>>>UInt32.ofNat 3)))+(((rr ((zc b t).get (t-2)) 17)^^^(rr ((zc b t).get (t-2)) 19))^^^(((zc b t).get (t-2))>>>UInt32.ofNat 10))).toNat)) (zw .u32 _ (zU ((((zc b t).get (t-16))+((zc b t).get (t-7)))+(((rr ((zc b t).get (t-15)) 7)^^^(rr ((zc b t).get (t-15)) 18))^^^(((zc b t).get (t-15))>>>UInt32.ofNat 3))) (((rr ((zc b t).get (t-2)) 17)^^^(rr ((zc b t).get (t-2)) 19))^^^(((zc b t).get (t-2))>>>UInt32.ofNat 10)))) (zh (hw:=show Chg (fun k=>k=w7.heap.size) w12 w44 from (((((Chg.refl (fun k=>k=w7.heap.size) w12).trans hEw37.chg).trans hEw42.chg).trans hEw43.chg).trans hEw44.chg)) hT164 28 536870911 (some 87) (vP w7.heap.size (0+t*1)) (zm (Instr.indexAt 149 (vP w7.heap.size 0) (vI t)) (fun w' hC=>zW (E:=28) (sz:=1) (m:=64) (by omega))) ?_)
       refine zu 29 1073741823 (zY 28 w7.heap.size (0+t*1) 149 (vW ((((((zc b t).get (t-16))+((zc b t).get (t-7)))+(((rr ((zc b t).get (t-15)) 7)^^^(rr ((zc b t).get (t-15)) 18))^^^(((zc b t).get (t-15))>>>UInt32.ofNat 3)))+(((rr ((zc b t).get (t-2)) 17)^^^(rr ((zc b t).get (t-2)) 19))^^^(((zc b t).get (t-2))>>>UInt32.ofNat 10))).toNat)) (zV (zc b t)) (((hK37.ext hEw43)).ext hEw44) (by first | decide |(simp;done)|(simp;omega)) ?_)
       intro w45 hBw45 hCw45
       have hzw45:=hCw45.size
       rw [show ((zV (zc b t)).set (0+t*1) (vW ((((((zc b t).get (t-16))+((zc b t).get (t-7)))+(((rr ((zc b t).get (t-15)) 7)^^^(rr ((zc b t).get (t-15)) 18))^^^(((zc b t).get (t-15))>>>UInt32.ofNat 3)))+(((rr ((zc b t).get (t-2)) 17)^^^(rr ((zc b t).get (t-2)) 19))^^^(((zc b t).get (t-2))>>>UInt32.ofNat 10))).toNat)):List Value)=zV ((zc b t).set t (((((zc b t).get (t-16))+((zc b t).get (t-7)))+(((rr ((zc b t).get (t-15)) 7)^^^(rr ((zc b t).get (t-15)) 18))^^^(((zc b t).get (t-15))>>>UInt32.ofNat 3)))+(((rr ((zc b t).get (t-2)) 17)^^^(rr ((zc b t).get (t-2)) 19))^^^(((zc b t).get (t-2))>>>UInt32.ofNat 10)))) from zaG t (((((zc b t).get (t-16))+((zc b t).get (t-7)))+(((rr ((zc b t).get (t-15)) 7)^^^(rr ((zc b t).get (t-15)) 18))^^^(((zc b t).get (t-15))>>>UInt32.ofNat 3)))+(((rr ((zc b t).get (t-2)) 17)^^^(rr ((zc b t).get (t-2)) 19))^^^(((zc b t).get (t-2))>>>UInt32.ofNat 10)))] at hBw45
       refine ⟨.inl (by kernel_rfl), ?_⟩
       refine zL (zr (zb (ze (zd 1 [(32,(vI t))] (za (zB (some 33) .i64 (IntKind.i64.wrap (((t:Nat):Int)+((1:Nat):Int))) (t+1) (zF (by omega) (by omega) (by omega)) ?_))))))
       refine zd 1 [(8,(vI (t+1)))] (zg (zD ?_))
       have hK38:=(((((((((((((hA.ext hEw11)).ext hEw12)).ext hEw37)).ext hEw42)).ext hEw43)).ext hEw44)).chg hCw45 (fun hs=>by have h:_=_:=hs;omega))
       have hK39:=(((((((((((((hK.ext hEw11)).ext hEw12)).ext hEw37)).ext hEw42)).ext hEw43)).ext hEw44)).chg hCw45 (fun hs=>by have h:_=_:=hs;omega))
       have hK40:=(((((((((((((hZ4.ext hEw11)).ext hEw12)).ext hEw37)).ext hEw42)).ext hEw43)).ext hEw44)).chg hCw45 (fun hs=>by have h:_=_:=hs;omega))
       have hX9:Ext w w45:=(Ext.own ((((((hEl.trans hEw11).trans hEw12).trans hEw37).trans hEw42).trans hEw43).trans hEw44) hCw45 (by omega))
       refine zR (t+1) ?_ ?_
       ·exact ⟨by omega,hK38,by have hz:=hBw45;rwa [show (zc b t).set t _=zc b (t+1) from zaA (by omega) (by unfold zbq zbo;ac_rfl)] at hz,hK39,hK40,hX9⟩
       ·first | omega |(dsimp only;omega)
      ·refine zk (some 79) (zae ((zc b t).get (t-2)) 17 _ (by decide) (by decide)) ?_
       rintro _ w46 ⟨rfl,hEw46⟩
       have hzw46:=hEw46.size
       refine ⟨.inr ((((Chg.refl (fun k=>k=w7.heap.size) w12).trans hEw37.chg).trans hEw42.chg).trans hEw46.chg), ?_⟩
       refine zaB 4 22 54263295 58457583 ?_ ?_
       ·have hK41:=(((((((((hB.ext hEw11)).ext hEw12)).ext hEw37)).ext hEw42)).ext hEw46)
        refine zi (some 63) (Instr.loadAt 28 (vP w7.heap.size (0+(t-16)*1))) (vW (((zc b t).get (t-16)).toNat)) (zo (hK41.cell (zan (t-16) (by omega)))) (⟨.inr ((((Chg.refl (fun k=>k=w7.heap.size) w12).trans hEw37.chg).trans hEw42.chg).trans hEw46.chg), ?_⟩)
        refine zh (hw:=show Chg (fun k=>k=w7.heap.size) w12 w46 from ((((Chg.refl (fun k=>k=w7.heap.size) w12).trans hEw37.chg).trans hEw42.chg).trans hEw46.chg)) hT164 9 54263807 (some 68) (vW ((((zc b t).get (t-16))+((zc b t).get (t-7))).toNat)) (zw .u32 _ (zU ((zc b t).get (t-16)) ((zc b t).get (t-7)))) (zh (hw:=show Chg (fun k=>k=w7.heap.size) w12 w46 from ((((Chg.refl (fun k=>k=w7.heap.size) w12).trans hEw37.chg).trans hEw42.chg).trans hEw46.chg)) hT164 18 54525951 (some 77) (vW (((((zc b t).get (t-16))+((zc b t).get (t-7)))+(((rr ((zc b t).get (t-15)) 7)^^^(rr ((zc b t).get (t-15)) 18))^^^(((zc b t).get (t-15))>>>UInt32.ofNat 3))).toNat)) (zw .u32 _ (zU (((zc b t).get (t-16))+((zc b t).get (t-7))) (((rr ((zc b t).get (t-15)) 7)^^^(rr ((zc b t).get (t-15)) 18))^^^(((zc b t).get (t-15))>>>UInt32.ofNat 3)))) (zu 22 58720255 (zk (some 81) (zae ((zc b t).get (t-2)) 19 _ (by decide) (by decide)) ?_)))
        rintro _ w47 ⟨rfl,hEw47⟩
        have hzw47:=hEw47.size
        refine ⟨.inr (((((Chg.refl (fun k=>k=w7.heap.size) w12).trans hEw37.chg).trans hEw42.chg).trans hEw46.chg).trans hEw47.chg), ?_⟩
        refine zh (hw:=show Chg (fun k=>k=w7.heap.size) w12 w47 from (((((Chg.refl (fun k=>k=w7.heap.size) w12).trans hEw37.chg).trans hEw42.chg).trans hEw46.chg).trans hEw47.chg)) hT164 23 67108863 (some 82) (vW (((rr ((zc b t).get (t-2)) 17)^^^(rr ((zc b t).get (t-2)) 19)).toNat)) (zw .u32 _ (zZ (rr ((zc b t).get (t-2)) 17) (rr ((zc b t).get (t-2)) 19))) (zh (hw:=show Chg (fun k=>k=w7.heap.size) w12 w47 from (((((Chg.refl (fun k=>k=w7.heap.size) w12).trans hEw37.chg).trans hEw42.chg).trans hEw46.chg).trans hEw47.chg)) hT164 26 134217727 (some 85) (vW ((((rr ((zc b t).get (t-2)) 17)^^^(rr ((zc b t).get (t-2)) 19))^^^(((zc b t).get (t-2))>>>UInt32.ofNat 10)).toNat)) (zw .u32 _ (zZ ((rr ((zc b t).get (t-2)) 17)^^^(rr ((zc b t).get (t-2)) 19)) (((zc b t).get (t-2))>>>UInt32.ofNat 10))) ?_)
        refine zh (hw:=show Chg (fun k=>k=w7.heap.size) w12 w47 from (((((Chg.refl (fun k=>k=w7.heap.size) w12).trans hEw37.chg).trans hEw42.chg).trans hEw46.chg).trans hEw47.chg)) hT164 27 268435455 (some 86) (vW ((((((zc b t).get (t-16))+((zc b t).get (t-7)))+(((rr ((zc b t).get (t-15)) 7)^^^(rr ((zc b t).get (t-15)) 18))^^^(((zc b t).get (t-15))>>>UInt32.ofNat 3)))+(((rr ((zc b t).get (t-2)) 17)^^^(rr ((zc b t).get (t-2)) 19))^^^(((zc b t).get (t-2))>>>UInt32.ofNat 10))).toNat)) (zw .u32 _ (zU ((((zc b t).get (t-16))+((zc b t).get (t-7)))+(((rr ((zc b t).get (t-15)) 7)^^^(rr ((zc b t).get (t-15)) 18))^^^(((zc b t).get (t-15))>>>UInt32.ofNat 3))) (((rr ((zc b t).get (t-2)) 17)^^^(rr ((zc b t).get (t-2)) 19))^^^(((zc b t).get (t-2))>>>UInt32.ofNat 10)))) (zh (hw:=show Chg (fun k=>k=w7.heap.size) w12 w47 from (((((Chg.refl (fun k=>k=w7.heap.size) w12).trans hEw37.chg).trans hEw42.chg).trans hEw46.chg).trans hEw47.chg)) hT164 28 536870911 (some 87) (vP w7.heap.size (0+t*1)) (zm (Instr.indexAt 149 (vP w7.heap.size 0) (vI t)) (fun w' hC=>zW (E:=28) (sz:=1) (m:=64) (by omega))) ?_)
        refine zu 29 1073741823 (zY 28 w7.heap.size (0+t*1) 149 (vW ((((((zc b t).get (t-16))+((zc b t).get (t-7)))+(((rr ((zc b t).get (t-15)) 7)^^^(rr ((zc b t).get (t-15)) 18))^^^(((zc b t).get (t-15))>>>UInt32.ofNat 3)))+(((rr ((zc b t).get (t-2)) 17)^^^(rr ((zc b t).get (t-2)) 19))^^^(((zc b t).get (t-2))>>>UInt32.ofNat 10))).toNat)) (zV (zc b t)) (hK41.ext hEw47) (by first | decide |(simp;done)|(simp;omega)) ?_)
        intro w48 hBw48 hCw48
        have hzw48:=hCw48.size
        rw [show ((zV (zc b t)).set (0+t*1) (vW ((((((zc b t).get (t-16))+((zc b t).get (t-7)))+(((rr ((zc b t).get (t-15)) 7)^^^(rr ((zc b t).get (t-15)) 18))^^^(((zc b t).get (t-15))>>>UInt32.ofNat 3)))+(((rr ((zc b t).get (t-2)) 17)^^^(rr ((zc b t).get (t-2)) 19))^^^(((zc b t).get (t-2))>>>UInt32.ofNat 10))).toNat)):List Value)=zV ((zc b t).set t (((((zc b t).get (t-16))+((zc b t).get (t-7)))+(((rr ((zc b t).get (t-15)) 7)^^^(rr ((zc b t).get (t-15)) 18))^^^(((zc b t).get (t-15))>>>UInt32.ofNat 3)))+(((rr ((zc b t).get (t-2)) 17)^^^(rr ((zc b t).get (t-2)) 19))^^^(((zc b t).get (t-2))>>>UInt32.ofNat 10)))) from zaG t (((((zc b t).get (t-16))+((zc b t).get (t-7)))+(((rr ((zc b t).get (t-15)) 7)^^^(rr ((zc b t).get (t-15)) 18))^^^(((zc b t).get (t-15))>>>UInt32.ofNat 3)))+(((rr ((zc b t).get (t-2)) 17)^^^(rr ((zc b t).get (t-2)) 19))^^^(((zc b t).get (t-2))>>>UInt32.ofNat 10)))] at hBw48
        refine ⟨.inl (by kernel_rfl), ?_⟩
        refine zL (zr (zb (ze (zd 1 [(32,(vI t))] (za (zB (some 33) .i64 (IntKind.i64.wrap (((t:Nat):Int)+((1:Nat):Int))) (t+1) (zF (by omega) (by omega) (by omega)) ?_))))))
        refine zd 1 [(8,(vI (t+1)))] (zg (zD ?_))
        have hK42:=(((((((((((((hA.ext hEw11)).ext hEw12)).ext hEw37)).ext hEw42)).ext hEw46)).ext hEw47)).chg hCw48 (fun hs=>by have h:_=_:=hs;omega))
        have hK43:=(((((((((((((hK.ext hEw11)).ext hEw12)).ext hEw37)).ext hEw42)).ext hEw46)).ext hEw47)).chg hCw48 (fun hs=>by have h:_=_:=hs;omega))
        have hK44:=(((((((((((((hZ4.ext hEw11)).ext hEw12)).ext hEw37)).ext hEw42)).ext hEw46)).ext hEw47)).chg hCw48 (fun hs=>by have h:_=_:=hs;omega))
        have hX10:Ext w w48:=(Ext.own ((((((hEl.trans hEw11).trans hEw12).trans hEw37).trans hEw42).trans hEw46).trans hEw47) hCw48 (by omega))
        refine zR (t+1) ?_ ?_
        ·exact ⟨by omega,hK42,by have hz:=hBw48;rwa [show (zc b t).set t _=zc b (t+1) from zaA (by omega) (by unfold zbq zbo;ac_rfl)] at hz,hK43,hK44,hX10⟩
        ·first | omega |(dsimp only;omega)
       ·refine zk (some 81) (zae ((zc b t).get (t-2)) 19 _ (by decide) (by decide)) ?_
        rintro _ w49 ⟨rfl,hEw49⟩
        have hzw49:=hEw49.size
        refine ⟨.inr (((((Chg.refl (fun k=>k=w7.heap.size) w12).trans hEw37.chg).trans hEw42.chg).trans hEw46.chg).trans hEw49.chg), ?_⟩
        refine zh (hw:=show Chg (fun k=>k=w7.heap.size) w12 w49 from (((((Chg.refl (fun k=>k=w7.heap.size) w12).trans hEw37.chg).trans hEw42.chg).trans hEw46.chg).trans hEw49.chg)) hT164 23 66846191 (some 82) (vW (((rr ((zc b t).get (t-2)) 17)^^^(rr ((zc b t).get (t-2)) 19)).toNat)) (zw .u32 _ (zZ (rr ((zc b t).get (t-2)) 17) (rr ((zc b t).get (t-2)) 19))) (zh (hw:=show Chg (fun k=>k=w7.heap.size) w12 w49 from (((((Chg.refl (fun k=>k=w7.heap.size) w12).trans hEw37.chg).trans hEw42.chg).trans hEw46.chg).trans hEw49.chg)) hT164 26 133955055 (some 85) (vW ((((rr ((zc b t).get (t-2)) 17)^^^(rr ((zc b t).get (t-2)) 19))^^^(((zc b t).get (t-2))>>>UInt32.ofNat 10)).toNat)) (zw .u32 _ (zZ ((rr ((zc b t).get (t-2)) 17)^^^(rr ((zc b t).get (t-2)) 19)) (((zc b t).get (t-2))>>>UInt32.ofNat 10))) ?_)
        have hK45:=(((((((((((hB.ext hEw11)).ext hEw12)).ext hEw37)).ext hEw42)).ext hEw46)).ext hEw49)
        refine zu 4 133955071 (zi (some 63) (Instr.loadAt 28 (vP w7.heap.size (0+(t-16)*1))) (vW (((zc b t).get (t-16)).toNat)) (zo (hK45.cell (zan (t-16) (by omega)))) ?_)
        refine ⟨.inr (((((Chg.refl (fun k=>k=w7.heap.size) w12).trans hEw37.chg).trans hEw42.chg).trans hEw46.chg).trans hEw49.chg), ?_⟩
        refine zh (hw:=show Chg (fun k=>k=w7.heap.size) w12 w49 from (((((Chg.refl (fun k=>k=w7.heap.size) w12).trans hEw37.chg).trans hEw42.chg).trans hEw46.chg).trans hEw49.chg)) hT164 9 133955583 (some 68) (vW ((((zc b t).get (t-16))+((zc b t).get (t-7))).toNat)) (zw .u32 _ (zU ((zc b t).get (t-16)) ((zc b t).get (t-7)))) (zh (hw:=show Chg (fun k=>k=w7.heap.size) w12 w49 from (((((Chg.refl (fun k=>k=w7.heap.size) w12).trans hEw37.chg).trans hEw42.chg).trans hEw46.chg).trans hEw49.chg)) hT164 18 134217727 (some 77) (vW (((((zc b t).get (t-16))+((zc b t).get (t-7)))+(((rr ((zc b t).get (t-15)) 7)^^^(rr ((zc b t).get (t-15)) 18))^^^(((zc b t).get (t-15))>>>UInt32.ofNat 3))).toNat)) (zw .u32 _ (zU (((zc b t).get (t-16))+((zc b t).get (t-7))) (((rr ((zc b t).get (t-15)) 7)^^^(rr ((zc b t).get (t-15)) 18))^^^(((zc b t).get (t-15))>>>UInt32.ofNat 3)))) ?_)
        refine zh (hw:=show Chg (fun k=>k=w7.heap.size) w12 w49 from (((((Chg.refl (fun k=>k=w7.heap.size) w12).trans hEw37.chg).trans hEw42.chg).trans hEw46.chg).trans hEw49.chg)) hT164 27 268435455 (some 86) (vW ((((((zc b t).get (t-16))+((zc b t).get (t-7)))+(((rr ((zc b t).get (t-15)) 7)^^^(rr ((zc b t).get (t-15)) 18))^^^(((zc b t).get (t-15))>>>UInt32.ofNat 3)))+(((rr ((zc b t).get (t-2)) 17)^^^(rr ((zc b t).get (t-2)) 19))^^^(((zc b t).get (t-2))>>>UInt32.ofNat 10))).toNat)) (zw .u32 _ (zU ((((zc b t).get (t-16))+((zc b t).get (t-7)))+(((rr ((zc b t).get (t-15)) 7)^^^(rr ((zc b t).get (t-15)) 18))^^^(((zc b t).get (t-15))>>>UInt32.ofNat 3))) (((rr ((zc b t).get (t-2)) 17)^^^(rr ((zc b t).get (t-2)) 19))^^^(((zc b t).get (t-2))>>>UInt32.ofNat 10)))) (zh (hw:=show Chg (fun k=>k=w7.heap.size) w12 w49 from (((((Chg.refl (fun k=>k=w7.heap.size) w12).trans hEw37.chg).trans hEw42.chg).trans hEw46.chg).trans hEw49.chg)) hT164 28 536870911 (some 87) (vP w7.heap.size (0+t*1)) (zm (Instr.indexAt 149 (vP w7.heap.size 0) (vI t)) (fun w' hC=>zW (E:=28) (sz:=1) (m:=64) (by omega))) ?_)
        refine zu 29 1073741823 (zY 28 w7.heap.size (0+t*1) 149 (vW ((((((zc b t).get (t-16))+((zc b t).get (t-7)))+(((rr ((zc b t).get (t-15)) 7)^^^(rr ((zc b t).get (t-15)) 18))^^^(((zc b t).get (t-15))>>>UInt32.ofNat 3)))+(((rr ((zc b t).get (t-2)) 17)^^^(rr ((zc b t).get (t-2)) 19))^^^(((zc b t).get (t-2))>>>UInt32.ofNat 10))).toNat)) (zV (zc b t)) hK45 (by first | decide |(simp;done)|(simp;omega)) ?_)
        intro w50 hBw50 hCw50
        have hzw50:=hCw50.size
        rw [show ((zV (zc b t)).set (0+t*1) (vW ((((((zc b t).get (t-16))+((zc b t).get (t-7)))+(((rr ((zc b t).get (t-15)) 7)^^^(rr ((zc b t).get (t-15)) 18))^^^(((zc b t).get (t-15))>>>UInt32.ofNat 3)))+(((rr ((zc b t).get (t-2)) 17)^^^(rr ((zc b t).get (t-2)) 19))^^^(((zc b t).get (t-2))>>>UInt32.ofNat 10))).toNat)):List Value)=zV ((zc b t).set t (((((zc b t).get (t-16))+((zc b t).get (t-7)))+(((rr ((zc b t).get (t-15)) 7)^^^(rr ((zc b t).get (t-15)) 18))^^^(((zc b t).get (t-15))>>>UInt32.ofNat 3)))+(((rr ((zc b t).get (t-2)) 17)^^^(rr ((zc b t).get (t-2)) 19))^^^(((zc b t).get (t-2))>>>UInt32.ofNat 10)))) from zaG t (((((zc b t).get (t-16))+((zc b t).get (t-7)))+(((rr ((zc b t).get (t-15)) 7)^^^(rr ((zc b t).get (t-15)) 18))^^^(((zc b t).get (t-15))>>>UInt32.ofNat 3)))+(((rr ((zc b t).get (t-2)) 17)^^^(rr ((zc b t).get (t-2)) 19))^^^(((zc b t).get (t-2))>>>UInt32.ofNat 10)))] at hBw50
        refine ⟨.inl (by kernel_rfl), ?_⟩
        refine zL (zr (zb (ze (zd 1 [(32,(vI t))] (za (zB (some 33) .i64 (IntKind.i64.wrap (((t:Nat):Int)+((1:Nat):Int))) (t+1) (zF (by omega) (by omega) (by omega)) ?_))))))
        refine zd 1 [(8,(vI (t+1)))] (zg (zD ?_))
        have hK46:=(((((((((((((hA.ext hEw11)).ext hEw12)).ext hEw37)).ext hEw42)).ext hEw46)).ext hEw49)).chg hCw50 (fun hs=>by have h:_=_:=hs;omega))
        have hK47:=(((((((((((((hK.ext hEw11)).ext hEw12)).ext hEw37)).ext hEw42)).ext hEw46)).ext hEw49)).chg hCw50 (fun hs=>by have h:_=_:=hs;omega))
        have hK48:=(((((((((((((hZ4.ext hEw11)).ext hEw12)).ext hEw37)).ext hEw42)).ext hEw46)).ext hEw49)).chg hCw50 (fun hs=>by have h:_=_:=hs;omega))
        have hX11:Ext w w50:=(Ext.own ((((((hEl.trans hEw11).trans hEw12).trans hEw37).trans hEw42).trans hEw46).trans hEw49) hCw50 (by omega))
        refine zR (t+1) ?_ ?_
        ·exact ⟨by omega,hK46,by have hz:=hBw50;rwa [show (zc b t).set t _=zc b (t+1) from zaA (by omega) (by unfold zbq zbo;ac_rfl)] at hz,hK47,hK48,hX11⟩
        ·first | omega |(dsimp only;omega)
   ·refine zk (some 70) (zae ((zc b t).get (t-15)) 7 _ (by decide) (by decide)) ?_
    rintro _ w51 ⟨rfl,hEw51⟩
    have hzw51:=hEw51.size
    refine ⟨.inr ((Chg.refl (fun k=>k=w7.heap.size) w12).trans hEw51.chg), ?_⟩
    refine zex 4 8 13 53058815 53059055 53066991 ?_ ?_ ?_
    ·have hK49:=(((((hB.ext hEw11)).ext hEw12)).ext hEw51)
     refine zi (some 63) (Instr.loadAt 28 (vP w7.heap.size (0+(t-16)*1))) (vW (((zc b t).get (t-16)).toNat)) (zo (hK49.cell (zan (t-16) (by omega)))) (⟨.inr ((Chg.refl (fun k=>k=w7.heap.size) w12).trans hEw51.chg), ?_⟩)
     refine zaB 8 13 53059071 53067007 ?_ ?_
     ·refine zi (some 67) (Instr.loadAt 28 (vP w7.heap.size (0+(t-7)*1))) (vW (((zc b t).get (t-7)).toNat)) (zo (hK49.cell (zan (t-7) (by omega)))) (⟨.inr ((Chg.refl (fun k=>k=w7.heap.size) w12).trans hEw51.chg), ?_⟩)
      refine zh (hw:=show Chg (fun k=>k=w7.heap.size) w12 w51 from ((Chg.refl (fun k=>k=w7.heap.size) w12).trans hEw51.chg)) hT164 9 53059583 (some 68) (vW ((((zc b t).get (t-16))+((zc b t).get (t-7))).toNat)) (zw .u32 _ (zU ((zc b t).get (t-16)) ((zc b t).get (t-7)))) (zu 13 53067775 (zk (some 72) (zae ((zc b t).get (t-15)) 18 _ (by decide) (by decide)) ?_))
      rintro _ w52 ⟨rfl,hEw52⟩
      have hzw52:=hEw52.size
      refine ⟨.inr (((Chg.refl (fun k=>k=w7.heap.size) w12).trans hEw51.chg).trans hEw52.chg), ?_⟩
      refine zh (hw:=show Chg (fun k=>k=w7.heap.size) w12 w52 from (((Chg.refl (fun k=>k=w7.heap.size) w12).trans hEw51.chg).trans hEw52.chg)) hT164 14 53084159 (some 73) (vW (((rr ((zc b t).get (t-15)) 7)^^^(rr ((zc b t).get (t-15)) 18)).toNat)) (zw .u32 _ (zZ (rr ((zc b t).get (t-15)) 7) (rr ((zc b t).get (t-15)) 18))) (zh (hw:=show Chg (fun k=>k=w7.heap.size) w12 w52 from (((Chg.refl (fun k=>k=w7.heap.size) w12).trans hEw51.chg).trans hEw52.chg)) hT164 17 53215231 (some 76) (vW ((((rr ((zc b t).get (t-15)) 7)^^^(rr ((zc b t).get (t-15)) 18))^^^(((zc b t).get (t-15))>>>UInt32.ofNat 3)).toNat)) (zw .u32 _ (zZ ((rr ((zc b t).get (t-15)) 7)^^^(rr ((zc b t).get (t-15)) 18)) (((zc b t).get (t-15))>>>UInt32.ofNat 3))) (zh (hw:=show Chg (fun k=>k=w7.heap.size) w12 w52 from (((Chg.refl (fun k=>k=w7.heap.size) w12).trans hEw51.chg).trans hEw52.chg)) hT164 18 53477375 (some 77) (vW (((((zc b t).get (t-16))+((zc b t).get (t-7)))+(((rr ((zc b t).get (t-15)) 7)^^^(rr ((zc b t).get (t-15)) 18))^^^(((zc b t).get (t-15))>>>UInt32.ofNat 3))).toNat)) (zw .u32 _ (zU (((zc b t).get (t-16))+((zc b t).get (t-7))) (((rr ((zc b t).get (t-15)) 7)^^^(rr ((zc b t).get (t-15)) 18))^^^(((zc b t).get (t-15))>>>UInt32.ofNat 3)))) (zu 20 54525951 (zk (some 79) (zae ((zc b t).get (t-2)) 17 _ (by decide) (by decide)) ?_))))
      rintro _ w53 ⟨rfl,hEw53⟩
      have hzw53:=hEw53.size
      refine ⟨.inr ((((Chg.refl (fun k=>k=w7.heap.size) w12).trans hEw51.chg).trans hEw52.chg).trans hEw53.chg), ?_⟩
      refine zu 22 58720255 (zk (some 81) (zae ((zc b t).get (t-2)) 19 _ (by decide) (by decide)) ?_)
      rintro _ w54 ⟨rfl,hEw54⟩
      have hzw54:=hEw54.size
      refine ⟨.inr (((((Chg.refl (fun k=>k=w7.heap.size) w12).trans hEw51.chg).trans hEw52.chg).trans hEw53.chg).trans hEw54.chg), ?_⟩
      refine zh (hw:=show Chg (fun k=>k=w7.heap.size) w12 w54 from (((((Chg.refl (fun k=>k=w7.heap.size) w12).trans hEw51.chg).trans hEw52.chg).trans hEw53.chg).trans hEw54.chg)) hT164 23 67108863 (some 82) (vW (((rr ((zc b t).get (t-2)) 17)^^^(rr ((zc b t).get (t-2)) 19)).toNat)) (zw .u32 _ (zZ (rr ((zc b t).get (t-2)) 17) (rr ((zc b t).get (t-2)) 19))) (zh (hw:=show Chg (fun k=>k=w7.heap.size) w12 w54 from (((((Chg.refl (fun k=>k=w7.heap.size) w12).trans hEw51.chg).trans hEw52.chg).trans hEw53.chg).trans hEw54.chg)) hT164 26 134217727 (some 85) (vW ((((rr ((zc b t).get (t-2)) 17)^^^(rr ((zc b t).get (t-2)) 19))^^^(((zc b t).get (t-2))>>>UInt32.ofNat 10)).toNat)) (zw .u32 _ (zZ ((rr ((zc b t).get (t-2)) 17)^^^(rr ((zc b t).get (t-2)) 19)) (((zc b t).get (t-2))>>>UInt32.ofNat 10))) ?_)
      refine zh (hw:=show Chg (fun k=>k=w7.heap.size) w12 w54 from (((((Chg.refl (fun k=>k=w7.heap.size) w12).trans hEw51.chg).trans hEw52.chg).trans hEw53.chg).trans hEw54.chg)) hT164 27 268435455 (some 86) (vW ((((((zc b t).get (t-16))+((zc b t).get (t-7)))+(((rr ((zc b t).get (t-15)) 7)^^^(rr ((zc b t).get (t-15)) 18))^^^(((zc b t).get (t-15))>>>UInt32.ofNat 3)))+(((rr ((zc b t).get (t-2)) 17)^^^(rr ((zc b t).get (t-2)) 19))^^^(((zc b t).get (t-2))>>>UInt32.ofNat 10))).toNat)) (zw .u32 _ (zU ((((zc b t).get (t-16))+((zc b t).get (t-7)))+(((rr ((zc b t).get (t-15)) 7)^^^(rr ((zc b t).get (t-15)) 18))^^^(((zc b t).get (t-15))>>>UInt32.ofNat 3))) (((rr ((zc b t).get (t-2)) 17)^^^(rr ((zc b t).get (t-2)) 19))^^^(((zc b t).get (t-2))>>>UInt32.ofNat 10)))) (zh (hw:=show Chg (fun k=>k=w7.heap.size) w12 w54 from (((((Chg.refl (fun k=>k=w7.heap.size) w12).trans hEw51.chg).trans hEw52.chg).trans hEw53.chg).trans hEw54.chg)) hT164 28 536870911 (some 87) (vP w7.heap.size (0+t*1)) (zm (Instr.indexAt 149 (vP w7.heap.size 0) (vI t)) (fun w' hC=>zW (E:=28) (sz:=1) (m:=64) (by omega))) ?_)
      have hK50:=(((((hK49.ext hEw52)).ext hEw53)).ext hEw54)
      refine zu 29 1073741823 (zY 28 w7.heap.size (0+t*1) 149 (vW ((((((zc b t).get (t-16))+((zc b t).get (t-7)))+(((rr ((zc b t).get (t-15)) 7)^^^(rr ((zc b t).get (t-15)) 18))^^^(((zc b t).get (t-15))>>>UInt32.ofNat 3)))+(((rr ((zc b t).get (t-2)) 17)^^^(rr ((zc b t).get (t-2)) 19))^^^(((zc b t).get (t-2))>>>UInt32.ofNat 10))).toNat)) (zV (zc b t)) hK50 (by first | decide |(simp;done)|(simp;omega)) ?_)
      have hK51:=(((((hK49.ext hEw52)).ext hEw53)).ext hEw54)
      intro w55 hBw55 hCw55
      have hzw55:=hCw55.size
      rw [show ((zV (zc b t)).set (0+t*1) (vW ((((((zc b t).get (t-16))+((zc b t).get (t-7)))+(((rr ((zc b t).get (t-15)) 7)^^^(rr ((zc b t).get (t-15)) 18))^^^(((zc b t).get (t-15))>>>UInt32.ofNat 3)))+(((rr ((zc b t).get (t-2)) 17)^^^(rr ((zc b t).get (t-2)) 19))^^^(((zc b t).get (t-2))>>>UInt32.ofNat 10))).toNat)):List Value)=zV ((zc b t).set t (((((zc b t).get (t-16))+((zc b t).get (t-7)))+(((rr ((zc b t).get (t-15)) 7)^^^(rr ((zc b t).get (t-15)) 18))^^^(((zc b t).get (t-15))>>>UInt32.ofNat 3)))+(((rr ((zc b t).get (t-2)) 17)^^^(rr ((zc b t).get (t-2)) 19))^^^(((zc b t).get (t-2))>>>UInt32.ofNat 10)))) from zaG t (((((zc b t).get (t-16))+((zc b t).get (t-7)))+(((rr ((zc b t).get (t-15)) 7)^^^(rr ((zc b t).get (t-15)) 18))^^^(((zc b t).get (t-15))>>>UInt32.ofNat 3)))+(((rr ((zc b t).get (t-2)) 17)^^^(rr ((zc b t).get (t-2)) 19))^^^(((zc b t).get (t-2))>>>UInt32.ofNat 10)))] at hBw55
      refine ⟨.inl (by kernel_rfl), ?_⟩
      refine zL (zr (zb (ze (zd 1 [(32,(vI t))] (za (zB (some 33) .i64 (IntKind.i64.wrap (((t:Nat):Int)+((1:Nat):Int))) (t+1) (zF (by omega) (by omega) (by omega)) ?_))))))
      refine zd 1 [(8,(vI (t+1)))] (zg (zD ?_))
      have hK52:=(((((((((((((hA.ext hEw11)).ext hEw12)).ext hEw51)).ext hEw52)).ext hEw53)).ext hEw54)).chg hCw55 (fun hs=>by have h:_=_:=hs;omega))
      have hK53:=(((((((((((((hK.ext hEw11)).ext hEw12)).ext hEw51)).ext hEw52)).ext hEw53)).ext hEw54)).chg hCw55 (fun hs=>by have h:_=_:=hs;omega))
      have hK54:=(((((((((((((hZ4.ext hEw11)).ext hEw12)).ext hEw51)).ext hEw52)).ext hEw53)).ext hEw54)).chg hCw55 (fun hs=>by have h:_=_:=hs;omega))
      have hX12:Ext w w55:=(Ext.own ((((((hEl.trans hEw11).trans hEw12).trans hEw51).trans hEw52).trans hEw53).trans hEw54) hCw55 (by omega))
      refine zR (t+1) ?_ ?_
      ·exact ⟨by omega,hK52,by have hz:=hBw55;rwa [show (zc b t).set t _=zc b (t+1) from zaA (by omega) (by unfold zbq zbo;ac_rfl)] at hz,hK53,hK54,hX12⟩
      ·first | omega |(dsimp only;omega)
     ·refine zk (some 72) (zae ((zc b t).get (t-15)) 18 _ (by decide) (by decide)) ?_
      rintro _ w56 ⟨rfl,hEw56⟩
      have hzw56:=hEw56.size
      refine ⟨.inr (((Chg.refl (fun k=>k=w7.heap.size) w12).trans hEw51.chg).trans hEw56.chg), ?_⟩
      refine zh (hw:=show Chg (fun k=>k=w7.heap.size) w12 w56 from (((Chg.refl (fun k=>k=w7.heap.size) w12).trans hEw51.chg).trans hEw56.chg)) hT164 14 53083391 (some 73) (vW (((rr ((zc b t).get (t-15)) 7)^^^(rr ((zc b t).get (t-15)) 18)).toNat)) (zw .u32 _ (zZ (rr ((zc b t).get (t-15)) 7) (rr ((zc b t).get (t-15)) 18))) (zh (hw:=show Chg (fun k=>k=w7.heap.size) w12 w56 from (((Chg.refl (fun k=>k=w7.heap.size) w12).trans hEw51.chg).trans hEw56.chg)) hT164 17 53214463 (some 76) (vW ((((rr ((zc b t).get (t-15)) 7)^^^(rr ((zc b t).get (t-15)) 18))^^^(((zc b t).get (t-15))>>>UInt32.ofNat 3)).toNat)) (zw .u32 _ (zZ ((rr ((zc b t).get (t-15)) 7)^^^(rr ((zc b t).get (t-15)) 18)) (((zc b t).get (t-15))>>>UInt32.ofNat 3))) (zaB 8 20 53214719 54263039 ?_ ?_))
      ·refine zi (some 67) (Instr.loadAt 28 (vP w7.heap.size (0+(t-7)*1))) (vW (((zc b t).get (t-7)).toNat)) (zo ((hK49.ext hEw56).cell (zan (t-7) (by omega)))) (⟨.inr (((Chg.refl (fun k=>k=w7.heap.size) w12).trans hEw51.chg).trans hEw56.chg), ?_⟩)
       refine zh (hw:=show Chg (fun k=>k=w7.heap.size) w12 w56 from (((Chg.refl (fun k=>k=w7.heap.size) w12).trans hEw51.chg).trans hEw56.chg)) hT164 9 53215231 (some 68) (vW ((((zc b t).get (t-16))+((zc b t).get (t-7))).toNat)) (zw .u32 _ (zU ((zc b t).get (t-16)) ((zc b t).get (t-7)))) (zh (hw:=show Chg (fun k=>k=w7.heap.size) w12 w56 from (((Chg.refl (fun k=>k=w7.heap.size) w12).trans hEw51.chg).trans hEw56.chg)) hT164 18 53477375 (some 77) (vW (((((zc b t).get (t-16))+((zc b t).get (t-7)))+(((rr ((zc b t).get (t-15)) 7)^^^(rr ((zc b t).get (t-15)) 18))^^^(((zc b t).get (t-15))>>>UInt32.ofNat 3))).toNat)) (zw .u32 _ (zU (((zc b t).get (t-16))+((zc b t).get (t-7))) (((rr ((zc b t).get (t-15)) 7)^^^(rr ((zc b t).get (t-15)) 18))^^^(((zc b t).get (t-15))>>>UInt32.ofNat 3)))) (zu 20 54525951 (zk (some 79) (zae ((zc b t).get (t-2)) 17 _ (by decide) (by decide)) ?_)))
       rintro _ w57 ⟨rfl,hEw57⟩
       have hzw57:=hEw57.size
       refine ⟨.inr ((((Chg.refl (fun k=>k=w7.heap.size) w12).trans hEw51.chg).trans hEw56.chg).trans hEw57.chg), ?_⟩
       refine zu 22 58720255 (zk (some 81) (zae ((zc b t).get (t-2)) 19 _ (by decide) (by decide)) ?_)
       rintro _ w58 ⟨rfl,hEw58⟩
       have hzw58:=hEw58.size
       refine ⟨.inr (((((Chg.refl (fun k=>k=w7.heap.size) w12).trans hEw51.chg).trans hEw56.chg).trans hEw57.chg).trans hEw58.chg), ?_⟩
       refine zh (hw:=show Chg (fun k=>k=w7.heap.size) w12 w58 from (((((Chg.refl (fun k=>k=w7.heap.size) w12).trans hEw51.chg).trans hEw56.chg).trans hEw57.chg).trans hEw58.chg)) hT164 23 67108863 (some 82) (vW (((rr ((zc b t).get (t-2)) 17)^^^(rr ((zc b t).get (t-2)) 19)).toNat)) (zw .u32 _ (zZ (rr ((zc b t).get (t-2)) 17) (rr ((zc b t).get (t-2)) 19))) (zh (hw:=show Chg (fun k=>k=w7.heap.size) w12 w58 from (((((Chg.refl (fun k=>k=w7.heap.size) w12).trans hEw51.chg).trans hEw56.chg).trans hEw57.chg).trans hEw58.chg)) hT164 26 134217727 (some 85) (vW ((((rr ((zc b t).get (t-2)) 17)^^^(rr ((zc b t).get (t-2)) 19))^^^(((zc b t).get (t-2))>>>UInt32.ofNat 10)).toNat)) (zw .u32 _ (zZ ((rr ((zc b t).get (t-2)) 17)^^^(rr ((zc b t).get (t-2)) 19)) (((zc b t).get (t-2))>>>UInt32.ofNat 10))) ?_)
       refine zh (hw:=show Chg (fun k=>k=w7.heap.size) w12 w58 from (((((Chg.refl (fun k=>k=w7.heap.size) w12).trans hEw51.chg).trans hEw56.chg).trans hEw57.chg).trans hEw58.chg)) hT164 27 268435455 (some 86) (vW ((((((zc b t).get (t-16))+((zc b t).get (t-7)))+(((rr ((zc b t).get (t-15)) 7)^^^(rr ((zc b t).get (t-15)) 18))^^^(((zc b t).get (t-15))>>>UInt32.ofNat 3)))+(((rr ((zc b t).get (t-2)) 17)^^^(rr ((zc b t).get (t-2)) 19))^^^(((zc b t).get (t-2))>>>UInt32.ofNat 10))).toNat)) (zw .u32 _ (zU ((((zc b t).get (t-16))+((zc b t).get (t-7)))+(((rr ((zc b t).get (t-15)) 7)^^^(rr ((zc b t).get (t-15)) 18))^^^(((zc b t).get (t-15))>>>UInt32.ofNat 3))) (((rr ((zc b t).get (t-2)) 17)^^^(rr ((zc b t).get (t-2)) 19))^^^(((zc b t).get (t-2))>>>UInt32.ofNat 10)))) (zh (hw:=show Chg (fun k=>k=w7.heap.size) w12 w58 from (((((Chg.refl (fun k=>k=w7.heap.size) w12).trans hEw51.chg).trans hEw56.chg).trans hEw57.chg).trans hEw58.chg)) hT164 28 536870911 (some 87) (vP w7.heap.size (0+t*1)) (zm (Instr.indexAt 149 (vP w7.heap.size 0) (vI t)) (fun w' hC=>zW (E:=28) (sz:=1) (m:=64) (by omega))) ?_)
       have hK55:=(((((hK49.ext hEw56)).ext hEw57)).ext hEw58)
       refine zu 29 1073741823 (zY 28 w7.heap.size (0+t*1) 149 (vW ((((((zc b t).get (t-16))+((zc b t).get (t-7)))+(((rr ((zc b t).get (t-15)) 7)^^^(rr ((zc b t).get (t-15)) 18))^^^(((zc b t).get (t-15))>>>UInt32.ofNat 3)))+(((rr ((zc b t).get (t-2)) 17)^^^(rr ((zc b t).get (t-2)) 19))^^^(((zc b t).get (t-2))>>>UInt32.ofNat 10))).toNat)) (zV (zc b t)) hK55 (by first | decide |(simp;done)|(simp;omega)) ?_)
       have hK56:=(((((hK49.ext hEw56)).ext hEw57)).ext hEw58)
       intro w59 hBw59 hCw59
       have hzw59:=hCw59.size
       rw [show ((zV (zc b t)).set (0+t*1) (vW ((((((zc b t).get (t-16))+((zc b t).get (t-7)))+(((rr ((zc b t).get (t-15)) 7)^^^(rr ((zc b t).get (t-15)) 18))^^^(((zc b t).get (t-15))>>>UInt32.ofNat 3)))+(((rr ((zc b t).get (t-2)) 17)^^^(rr ((zc b t).get (t-2)) 19))^^^(((zc b t).get (t-2))>>>UInt32.ofNat 10))).toNat)):List Value)=zV ((zc b t).set t (((((zc b t).get (t-16))+((zc b t).get (t-7)))+(((rr ((zc b t).get (t-15)) 7)^^^(rr ((zc b t).get (t-15)) 18))^^^(((zc b t).get (t-15))>>>UInt32.ofNat 3)))+(((rr ((zc b t).get (t-2)) 17)^^^(rr ((zc b t).get (t-2)) 19))^^^(((zc b t).get (t-2))>>>UInt32.ofNat 10)))) from zaG t (((((zc b t).get (t-16))+((zc b t).get (t-7)))+(((rr ((zc b t).get (t-15)) 7)^^^(rr ((zc b t).get (t-15)) 18))^^^(((zc b t).get (t-15))>>>UInt32.ofNat 3)))+(((rr ((zc b t).get (t-2)) 17)^^^(rr ((zc b t).get (t-2)) 19))^^^(((zc b t).get (t-2))>>>UInt32.ofNat 10)))] at hBw59
       refine ⟨.inl (by kernel_rfl), ?_⟩
       refine zL (zr (zb (ze (zd 1 [(32,(vI t))] (za (zB (some 33) .i64 (IntKind.i64.wrap (((t:Nat):Int)+((1:Nat):Int))) (t+1) (zF (by omega) (by omega) (by omega)) ?_))))))
       refine zd 1 [(8,(vI (t+1)))] (zg (zD ?_))
       have hK57:=(((((((((((((hA.ext hEw11)).ext hEw12)).ext hEw51)).ext hEw56)).ext hEw57)).ext hEw58)).chg hCw59 (fun hs=>by have h:_=_:=hs;omega))
       have hK58:=(((((((((((((hK.ext hEw11)).ext hEw12)).ext hEw51)).ext hEw56)).ext hEw57)).ext hEw58)).chg hCw59 (fun hs=>by have h:_=_:=hs;omega))
       have hK59:=(((((((((((((hZ4.ext hEw11)).ext hEw12)).ext hEw51)).ext hEw56)).ext hEw57)).ext hEw58)).chg hCw59 (fun hs=>by have h:_=_:=hs;omega))
       have hX13:Ext w w59:=(Ext.own ((((((hEl.trans hEw11).trans hEw12).trans hEw51).trans hEw56).trans hEw57).trans hEw58) hCw59 (by omega))
       refine zR (t+1) ?_ ?_
       ·exact ⟨by omega,hK57,by have hz:=hBw59;rwa [show (zc b t).set t _=zc b (t+1) from zaA (by omega) (by unfold zbq zbo;ac_rfl)] at hz,hK58,hK59,hX13⟩
       ·first | omega |(dsimp only;omega)
      ·refine zk (some 79) (zae ((zc b t).get (t-2)) 17 _ (by decide) (by decide)) ?_
       rintro _ w60 ⟨rfl,hEw60⟩
       have hzw60:=hEw60.size
       refine ⟨.inr ((((Chg.refl (fun k=>k=w7.heap.size) w12).trans hEw51.chg).trans hEw56.chg).trans hEw60.chg), ?_⟩
       refine zaB 8 22 54263295 58457343 ?_ ?_
       ·refine zi (some 67) (Instr.loadAt 28 (vP w7.heap.size (0+(t-7)*1))) (vW (((zc b t).get (t-7)).toNat)) (zo ((((hK49.ext hEw56)).ext hEw60).cell (zan (t-7) (by omega)))) (⟨.inr ((((Chg.refl (fun k=>k=w7.heap.size) w12).trans hEw51.chg).trans hEw56.chg).trans hEw60.chg), ?_⟩)
        refine zh (hw:=show Chg (fun k=>k=w7.heap.size) w12 w60 from ((((Chg.refl (fun k=>k=w7.heap.size) w12).trans hEw51.chg).trans hEw56.chg).trans hEw60.chg)) hT164 9 54263807 (some 68) (vW ((((zc b t).get (t-16))+((zc b t).get (t-7))).toNat)) (zw .u32 _ (zU ((zc b t).get (t-16)) ((zc b t).get (t-7)))) (zh (hw:=show Chg (fun k=>k=w7.heap.size) w12 w60 from ((((Chg.refl (fun k=>k=w7.heap.size) w12).trans hEw51.chg).trans hEw56.chg).trans hEw60.chg)) hT164 18 54525951 (some 77) (vW (((((zc b t).get (t-16))+((zc b t).get (t-7)))+(((rr ((zc b t).get (t-15)) 7)^^^(rr ((zc b t).get (t-15)) 18))^^^(((zc b t).get (t-15))>>>UInt32.ofNat 3))).toNat)) (zw .u32 _ (zU (((zc b t).get (t-16))+((zc b t).get (t-7))) (((rr ((zc b t).get (t-15)) 7)^^^(rr ((zc b t).get (t-15)) 18))^^^(((zc b t).get (t-15))>>>UInt32.ofNat 3)))) (zu 22 58720255 (zk (some 81) (zae ((zc b t).get (t-2)) 19 _ (by decide) (by decide)) ?_)))
        rintro _ w61 ⟨rfl,hEw61⟩
        have hzw61:=hEw61.size
        refine ⟨.inr (((((Chg.refl (fun k=>k=w7.heap.size) w12).trans hEw51.chg).trans hEw56.chg).trans hEw60.chg).trans hEw61.chg), ?_⟩
        refine zh (hw:=show Chg (fun k=>k=w7.heap.size) w12 w61 from (((((Chg.refl (fun k=>k=w7.heap.size) w12).trans hEw51.chg).trans hEw56.chg).trans hEw60.chg).trans hEw61.chg)) hT164 23 67108863 (some 82) (vW (((rr ((zc b t).get (t-2)) 17)^^^(rr ((zc b t).get (t-2)) 19)).toNat)) (zw .u32 _ (zZ (rr ((zc b t).get (t-2)) 17) (rr ((zc b t).get (t-2)) 19))) (zh (hw:=show Chg (fun k=>k=w7.heap.size) w12 w61 from (((((Chg.refl (fun k=>k=w7.heap.size) w12).trans hEw51.chg).trans hEw56.chg).trans hEw60.chg).trans hEw61.chg)) hT164 26 134217727 (some 85) (vW ((((rr ((zc b t).get (t-2)) 17)^^^(rr ((zc b t).get (t-2)) 19))^^^(((zc b t).get (t-2))>>>UInt32.ofNat 10)).toNat)) (zw .u32 _ (zZ ((rr ((zc b t).get (t-2)) 17)^^^(rr ((zc b t).get (t-2)) 19)) (((zc b t).get (t-2))>>>UInt32.ofNat 10))) ?_)
        refine zh (hw:=show Chg (fun k=>k=w7.heap.size) w12 w61 from (((((Chg.refl (fun k=>k=w7.heap.size) w12).trans hEw51.chg).trans hEw56.chg).trans hEw60.chg).trans hEw61.chg)) hT164 27 268435455 (some 86) (vW ((((((zc b t).get (t-16))+((zc b t).get (t-7)))+(((rr ((zc b t).get (t-15)) 7)^^^(rr ((zc b t).get (t-15)) 18))^^^(((zc b t).get (t-15))>>>UInt32.ofNat 3)))+(((rr ((zc b t).get (t-2)) 17)^^^(rr ((zc b t).get (t-2)) 19))^^^(((zc b t).get (t-2))>>>UInt32.ofNat 10))).toNat)) (zw .u32 _ (zU ((((zc b t).get (t-16))+((zc b t).get (t-7)))+(((rr ((zc b t).get (t-15)) 7)^^^(rr ((zc b t).get (t-15)) 18))^^^(((zc b t).get (t-15))>>>UInt32.ofNat 3))) (((rr ((zc b t).get (t-2)) 17)^^^(rr ((zc b t).get (t-2)) 19))^^^(((zc b t).get (t-2))>>>UInt32.ofNat 10)))) (zh (hw:=show Chg (fun k=>k=w7.heap.size) w12 w61 from (((((Chg.refl (fun k=>k=w7.heap.size) w12).trans hEw51.chg).trans hEw56.chg).trans hEw60.chg).trans hEw61.chg)) hT164 28 536870911 (some 87) (vP w7.heap.size (0+t*1)) (zm (Instr.indexAt 149 (vP w7.heap.size 0) (vI t)) (fun w' hC=>zW (E:=28) (sz:=1) (m:=64) (by omega))) ?_)
        have hK60:=(((((hK49.ext hEw56)).ext hEw60)).ext hEw61)
        refine zu 29 1073741823 (zY 28 w7.heap.size (0+t*1) 149 (vW ((((((zc b t).get (t-16))+((zc b t).get (t-7)))+(((rr ((zc b t).get (t-15)) 7)^^^(rr ((zc b t).get (t-15)) 18))^^^(((zc b t).get (t-15))>>>UInt32.ofNat 3)))+(((rr ((zc b t).get (t-2)) 17)^^^(rr ((zc b t).get (t-2)) 19))^^^(((zc b t).get (t-2))>>>UInt32.ofNat 10))).toNat)) (zV (zc b t)) hK60 (by first | decide |(simp;done)|(simp;omega)) ?_)
        have hK61:=(((((hK49.ext hEw56)).ext hEw60)).ext hEw61)
        intro w62 hBw62 hCw62
        have hzw62:=hCw62.size
        rw [show ((zV (zc b t)).set (0+t*1) (vW ((((((zc b t).get (t-16))+((zc b t).get (t-7)))+(((rr ((zc b t).get (t-15)) 7)^^^(rr ((zc b t).get (t-15)) 18))^^^(((zc b t).get (t-15))>>>UInt32.ofNat 3)))+(((rr ((zc b t).get (t-2)) 17)^^^(rr ((zc b t).get (t-2)) 19))^^^(((zc b t).get (t-2))>>>UInt32.ofNat 10))).toNat)):List Value)=zV ((zc b t).set t (((((zc b t).get (t-16))+((zc b t).get (t-7)))+(((rr ((zc b t).get (t-15)) 7)^^^(rr ((zc b t).get (t-15)) 18))^^^(((zc b t).get (t-15))>>>UInt32.ofNat 3)))+(((rr ((zc b t).get (t-2)) 17)^^^(rr ((zc b t).get (t-2)) 19))^^^(((zc b t).get (t-2))>>>UInt32.ofNat 10)))) from zaG t (((((zc b t).get (t-16))+((zc b t).get (t-7)))+(((rr ((zc b t).get (t-15)) 7)^^^(rr ((zc b t).get (t-15)) 18))^^^(((zc b t).get (t-15))>>>UInt32.ofNat 3)))+(((rr ((zc b t).get (t-2)) 17)^^^(rr ((zc b t).get (t-2)) 19))^^^(((zc b t).get (t-2))>>>UInt32.ofNat 10)))] at hBw62
        refine ⟨.inl (by kernel_rfl), ?_⟩
        refine zL (zr (zb (ze (zd 1 [(32,(vI t))] (za (zB (some 33) .i64 (IntKind.i64.wrap (((t:Nat):Int)+((1:Nat):Int))) (t+1) (zF (by omega) (by omega) (by omega)) ?_))))))
        refine zd 1 [(8,(vI (t+1)))] (zg (zD ?_))
        have hK62:=(((((((((((((hA.ext hEw11)).ext hEw12)).ext hEw51)).ext hEw56)).ext hEw60)).ext hEw61)).chg hCw62 (fun hs=>by have h:_=_:=hs;omega))
        have hK63:=(((((((((((((hK.ext hEw11)).ext hEw12)).ext hEw51)).ext hEw56)).ext hEw60)).ext hEw61)).chg hCw62 (fun hs=>by have h:_=_:=hs;omega))
        have hK64:=(((((((((((((hZ4.ext hEw11)).ext hEw12)).ext hEw51)).ext hEw56)).ext hEw60)).ext hEw61)).chg hCw62 (fun hs=>by have h:_=_:=hs;omega))
        have hX14:Ext w w62:=(Ext.own ((((((hEl.trans hEw11).trans hEw12).trans hEw51).trans hEw56).trans hEw60).trans hEw61) hCw62 (by omega))
        refine zR (t+1) ?_ ?_
        ·exact ⟨by omega,hK62,by have hz:=hBw62;rwa [show (zc b t).set t _=zc b (t+1) from zaA (by omega) (by unfold zbq zbo;ac_rfl)] at hz,hK63,hK64,hX14⟩
        ·first | omega |(dsimp only;omega)
       ·refine zk (some 81) (zae ((zc b t).get (t-2)) 19 _ (by decide) (by decide)) ?_
        rintro _ w63 ⟨rfl,hEw63⟩
        have hzw63:=hEw63.size
        refine ⟨.inr (((((Chg.refl (fun k=>k=w7.heap.size) w12).trans hEw51.chg).trans hEw56.chg).trans hEw60.chg).trans hEw63.chg), ?_⟩
        refine zh (hw:=show Chg (fun k=>k=w7.heap.size) w12 w63 from (((((Chg.refl (fun k=>k=w7.heap.size) w12).trans hEw51.chg).trans hEw56.chg).trans hEw60.chg).trans hEw63.chg)) hT164 23 66845951 (some 82) (vW (((rr ((zc b t).get (t-2)) 17)^^^(rr ((zc b t).get (t-2)) 19)).toNat)) (zw .u32 _ (zZ (rr ((zc b t).get (t-2)) 17) (rr ((zc b t).get (t-2)) 19))) (zh (hw:=show Chg (fun k=>k=w7.heap.size) w12 w63 from (((((Chg.refl (fun k=>k=w7.heap.size) w12).trans hEw51.chg).trans hEw56.chg).trans hEw60.chg).trans hEw63.chg)) hT164 26 133954815 (some 85) (vW ((((rr ((zc b t).get (t-2)) 17)^^^(rr ((zc b t).get (t-2)) 19))^^^(((zc b t).get (t-2))>>>UInt32.ofNat 10)).toNat)) (zw .u32 _ (zZ ((rr ((zc b t).get (t-2)) 17)^^^(rr ((zc b t).get (t-2)) 19)) (((zc b t).get (t-2))>>>UInt32.ofNat 10))) ?_)
        have hK65:=(((((hK49.ext hEw56)).ext hEw60)).ext hEw63)
        refine zu 8 133955071 (zi (some 67) (Instr.loadAt 28 (vP w7.heap.size (0+(t-7)*1))) (vW (((zc b t).get (t-7)).toNat)) (zo (hK65.cell (zan (t-7) (by omega)))) ?_)
        refine ⟨.inr (((((Chg.refl (fun k=>k=w7.heap.size) w12).trans hEw51.chg).trans hEw56.chg).trans hEw60.chg).trans hEw63.chg), ?_⟩
        refine zh (hw:=show Chg (fun k=>k=w7.heap.size) w12 w63 from (((((Chg.refl (fun k=>k=w7.heap.size) w12).trans hEw51.chg).trans hEw56.chg).trans hEw60.chg).trans hEw63.chg)) hT164 9 133955583 (some 68) (vW ((((zc b t).get (t-16))+((zc b t).get (t-7))).toNat)) (zw .u32 _ (zU ((zc b t).get (t-16)) ((zc b t).get (t-7)))) (zh (hw:=show Chg (fun k=>k=w7.heap.size) w12 w63 from (((((Chg.refl (fun k=>k=w7.heap.size) w12).trans hEw51.chg).trans hEw56.chg).trans hEw60.chg).trans hEw63.chg)) hT164 18 134217727 (some 77) (vW (((((zc b t).get (t-16))+((zc b t).get (t-7)))+(((rr ((zc b t).get (t-15)) 7)^^^(rr ((zc b t).get (t-15)) 18))^^^(((zc b t).get (t-15))>>>UInt32.ofNat 3))).toNat)) (zw .u32 _ (zU (((zc b t).get (t-16))+((zc b t).get (t-7))) (((rr ((zc b t).get (t-15)) 7)^^^(rr ((zc b t).get (t-15)) 18))^^^(((zc b t).get (t-15))>>>UInt32.ofNat 3)))) ?_)
        refine zh (hw:=show Chg (fun k=>k=w7.heap.size) w12 w63 from (((((Chg.refl (fun k=>k=w7.heap.size) w12).trans hEw51.chg).trans hEw56.chg).trans hEw60.chg).trans hEw63.chg)) hT164 27 268435455 (some 86) (vW ((((((zc b t).get (t-16))+((zc b t).get (t-7)))+(((rr ((zc b t).get (t-15)) 7)^^^(rr ((zc b t).get (t-15)) 18))^^^(((zc b t).get (t-15))>>>UInt32.ofNat 3)))+(((rr ((zc b t).get (t-2)) 17)^^^(rr ((zc b t).get (t-2)) 19))^^^(((zc b t).get (t-2))>>>UInt32.ofNat 10))).toNat)) (zw .u32 _ (zU ((((zc b t).get (t-16))+((zc b t).get (t-7)))+(((rr ((zc b t).get (t-15)) 7)^^^(rr ((zc b t).get (t-15)) 18))^^^(((zc b t).get (t-15))>>>UInt32.ofNat 3))) (((rr ((zc b t).get (t-2)) 17)^^^(rr ((zc b t).get (t-2)) 19))^^^(((zc b t).get (t-2))>>>UInt32.ofNat 10)))) (zh (hw:=show Chg (fun k=>k=w7.heap.size) w12 w63 from (((((Chg.refl (fun k=>k=w7.heap.size) w12).trans hEw51.chg).trans hEw56.chg).trans hEw60.chg).trans hEw63.chg)) hT164 28 536870911 (some 87) (vP w7.heap.size (0+t*1)) (zm (Instr.indexAt 149 (vP w7.heap.size 0) (vI t)) (fun w' hC=>zW (E:=28) (sz:=1) (m:=64) (by omega))) ?_)
        refine zu 29 1073741823 (zY 28 w7.heap.size (0+t*1) 149 (vW ((((((zc b t).get (t-16))+((zc b t).get (t-7)))+(((rr ((zc b t).get (t-15)) 7)^^^(rr ((zc b t).get (t-15)) 18))^^^(((zc b t).get (t-15))>>>UInt32.ofNat 3)))+(((rr ((zc b t).get (t-2)) 17)^^^(rr ((zc b t).get (t-2)) 19))^^^(((zc b t).get (t-2))>>>UInt32.ofNat 10))).toNat)) (zV (zc b t)) hK65 (by first | decide |(simp;done)|(simp;omega)) ?_)
        intro w64 hBw64 hCw64
        have hzw64:=hCw64.size
        rw [show ((zV (zc b t)).set (0+t*1) (vW ((((((zc b t).get (t-16))+((zc b t).get (t-7)))+(((rr ((zc b t).get (t-15)) 7)^^^(rr ((zc b t).get (t-15)) 18))^^^(((zc b t).get (t-15))>>>UInt32.ofNat 3)))+(((rr ((zc b t).get (t-2)) 17)^^^(rr ((zc b t).get (t-2)) 19))^^^(((zc b t).get (t-2))>>>UInt32.ofNat 10))).toNat)):List Value)=zV ((zc b t).set t (((((zc b t).get (t-16))+((zc b t).get (t-7)))+(((rr ((zc b t).get (t-15)) 7)^^^(rr ((zc b t).get (t-15)) 18))^^^(((zc b t).get (t-15))>>>UInt32.ofNat 3)))+(((rr ((zc b t).get (t-2)) 17)^^^(rr ((zc b t).get (t-2)) 19))^^^(((zc b t).get (t-2))>>>UInt32.ofNat 10)))) from zaG t (((((zc b t).get (t-16))+((zc b t).get (t-7)))+(((rr ((zc b t).get (t-15)) 7)^^^(rr ((zc b t).get (t-15)) 18))^^^(((zc b t).get (t-15))>>>UInt32.ofNat 3)))+(((rr ((zc b t).get (t-2)) 17)^^^(rr ((zc b t).get (t-2)) 19))^^^(((zc b t).get (t-2))>>>UInt32.ofNat 10)))] at hBw64
        refine ⟨.inl (by kernel_rfl), ?_⟩
        refine zL (zr (zb (ze (zd 1 [(32,(vI t))] (za (zB (some 33) .i64 (IntKind.i64.wrap (((t:Nat):Int)+((1:Nat):Int))) (t+1) (zF (by omega) (by omega) (by omega)) ?_))))))
        refine zd 1 [(8,(vI (t+1)))] (zg (zD ?_))
        have hK66:=(((((((((((((hA.ext hEw11)).ext hEw12)).ext hEw51)).ext hEw56)).ext hEw60)).ext hEw63)).chg hCw64 (fun hs=>by have h:_=_:=hs;omega))
        have hK67:=(((((((((((((hK.ext hEw11)).ext hEw12)).ext hEw51)).ext hEw56)).ext hEw60)).ext hEw63)).chg hCw64 (fun hs=>by have h:_=_:=hs;omega))
        have hK68:=(((((((((((((hZ4.ext hEw11)).ext hEw12)).ext hEw51)).ext hEw56)).ext hEw60)).ext hEw63)).chg hCw64 (fun hs=>by have h:_=_:=hs;omega))
        have hX15:Ext w w64:=(Ext.own ((((((hEl.trans hEw11).trans hEw12).trans hEw51).trans hEw56).trans hEw60).trans hEw63) hCw64 (by omega))
        refine zR (t+1) ?_ ?_
        ·exact ⟨by omega,hK66,by have hz:=hBw64;rwa [show (zc b t).set t _=zc b (t+1) from zaA (by omega) (by unfold zbq zbo;ac_rfl)] at hz,hK67,hK68,hX15⟩
        ·first | omega |(dsimp only;omega)
    ·have hK69:=(((((hB.ext hEw11)).ext hEw12)).ext hEw51)
     refine zi (some 67) (Instr.loadAt 28 (vP w7.heap.size (0+(t-7)*1))) (vW (((zc b t).get (t-7)).toNat)) (zo (hK69.cell (zan (t-7) (by omega)))) (⟨.inr ((Chg.refl (fun k=>k=w7.heap.size) w12).trans hEw51.chg), ?_⟩)
     refine zaB 4 13 53059071 53067247 ?_ ?_
     ·refine zi (some 63) (Instr.loadAt 28 (vP w7.heap.size (0+(t-16)*1))) (vW (((zc b t).get (t-16)).toNat)) (zo (hK69.cell (zan (t-16) (by omega)))) (⟨.inr ((Chg.refl (fun k=>k=w7.heap.size) w12).trans hEw51.chg), ?_⟩)
      refine zh (hw:=show Chg (fun k=>k=w7.heap.size) w12 w51 from ((Chg.refl (fun k=>k=w7.heap.size) w12).trans hEw51.chg)) hT164 9 53059583 (some 68) (vW ((((zc b t).get (t-16))+((zc b t).get (t-7))).toNat)) (zw .u32 _ (zU ((zc b t).get (t-16)) ((zc b t).get (t-7)))) (zu 13 53067775 (zk (some 72) (zae ((zc b t).get (t-15)) 18 _ (by decide) (by decide)) ?_))
      rintro _ w65 ⟨rfl,hEw65⟩
      have hzw65:=hEw65.size
      refine ⟨.inr (((Chg.refl (fun k=>k=w7.heap.size) w12).trans hEw51.chg).trans hEw65.chg), ?_⟩
      refine zh (hw:=show Chg (fun k=>k=w7.heap.size) w12 w65 from (((Chg.refl (fun k=>k=w7.heap.size) w12).trans hEw51.chg).trans hEw65.chg)) hT164 14 53084159 (some 73) (vW (((rr ((zc b t).get (t-15)) 7)^^^(rr ((zc b t).get (t-15)) 18)).toNat)) (zw .u32 _ (zZ (rr ((zc b t).get (t-15)) 7) (rr ((zc b t).get (t-15)) 18))) (zh (hw:=show Chg (fun k=>k=w7.heap.size) w12 w65 from (((Chg.refl (fun k=>k=w7.heap.size) w12).trans hEw51.chg).trans hEw65.chg)) hT164 17 53215231 (some 76) (vW ((((rr ((zc b t).get (t-15)) 7)^^^(rr ((zc b t).get (t-15)) 18))^^^(((zc b t).get (t-15))>>>UInt32.ofNat 3)).toNat)) (zw .u32 _ (zZ ((rr ((zc b t).get (t-15)) 7)^^^(rr ((zc b t).get (t-15)) 18)) (((zc b t).get (t-15))>>>UInt32.ofNat 3))) (zh (hw:=show Chg (fun k=>k=w7.heap.size) w12 w65 from (((Chg.refl (fun k=>k=w7.heap.size) w12).trans hEw51.chg).trans hEw65.chg)) hT164 18 53477375 (some 77) (vW (((((zc b t).get (t-16))+((zc b t).get (t-7)))+(((rr ((zc b t).get (t-15)) 7)^^^(rr ((zc b t).get (t-15)) 18))^^^(((zc b t).get (t-15))>>>UInt32.ofNat 3))).toNat)) (zw .u32 _ (zU (((zc b t).get (t-16))+((zc b t).get (t-7))) (((rr ((zc b t).get (t-15)) 7)^^^(rr ((zc b t).get (t-15)) 18))^^^(((zc b t).get (t-15))>>>UInt32.ofNat 3)))) (zu 20 54525951 (zk (some 79) (zae ((zc b t).get (t-2)) 17 _ (by decide) (by decide)) ?_))))
      rintro _ w66 ⟨rfl,hEw66⟩
      have hzw66:=hEw66.size
      refine ⟨.inr ((((Chg.refl (fun k=>k=w7.heap.size) w12).trans hEw51.chg).trans hEw65.chg).trans hEw66.chg), ?_⟩
      refine zu 22 58720255 (zk (some 81) (zae ((zc b t).get (t-2)) 19 _ (by decide) (by decide)) ?_)
      rintro _ w67 ⟨rfl,hEw67⟩
      have hzw67:=hEw67.size
      refine ⟨.inr (((((Chg.refl (fun k=>k=w7.heap.size) w12).trans hEw51.chg).trans hEw65.chg).trans hEw66.chg).trans hEw67.chg), ?_⟩
      refine zh (hw:=show Chg (fun k=>k=w7.heap.size) w12 w67 from (((((Chg.refl (fun k=>k=w7.heap.size) w12).trans hEw51.chg).trans hEw65.chg).trans hEw66.chg).trans hEw67.chg)) hT164 23 67108863 (some 82) (vW (((rr ((zc b t).get (t-2)) 17)^^^(rr ((zc b t).get (t-2)) 19)).toNat)) (zw .u32 _ (zZ (rr ((zc b t).get (t-2)) 17) (rr ((zc b t).get (t-2)) 19))) (zh (hw:=show Chg (fun k=>k=w7.heap.size) w12 w67 from (((((Chg.refl (fun k=>k=w7.heap.size) w12).trans hEw51.chg).trans hEw65.chg).trans hEw66.chg).trans hEw67.chg)) hT164 26 134217727 (some 85) (vW ((((rr ((zc b t).get (t-2)) 17)^^^(rr ((zc b t).get (t-2)) 19))^^^(((zc b t).get (t-2))>>>UInt32.ofNat 10)).toNat)) (zw .u32 _ (zZ ((rr ((zc b t).get (t-2)) 17)^^^(rr ((zc b t).get (t-2)) 19)) (((zc b t).get (t-2))>>>UInt32.ofNat 10))) ?_)
      refine zh (hw:=show Chg (fun k=>k=w7.heap.size) w12 w67 from (((((Chg.refl (fun k=>k=w7.heap.size) w12).trans hEw51.chg).trans hEw65.chg).trans hEw66.chg).trans hEw67.chg)) hT164 27 268435455 (some 86) (vW ((((((zc b t).get (t-16))+((zc b t).get (t-7)))+(((rr ((zc b t).get (t-15)) 7)^^^(rr ((zc b t).get (t-15)) 18))^^^(((zc b t).get (t-15))>>>UInt32.ofNat 3)))+(((rr ((zc b t).get (t-2)) 17)^^^(rr ((zc b t).get (t-2)) 19))^^^(((zc b t).get (t-2))>>>UInt32.ofNat 10))).toNat)) (zw .u32 _ (zU ((((zc b t).get (t-16))+((zc b t).get (t-7)))+(((rr ((zc b t).get (t-15)) 7)^^^(rr ((zc b t).get (t-15)) 18))^^^(((zc b t).get (t-15))>>>UInt32.ofNat 3))) (((rr ((zc b t).get (t-2)) 17)^^^(rr ((zc b t).get (t-2)) 19))^^^(((zc b t).get (t-2))>>>UInt32.ofNat 10)))) (zh (hw:=show Chg (fun k=>k=w7.heap.size) w12 w67 from (((((Chg.refl (fun k=>k=w7.heap.size) w12).trans hEw51.chg).trans hEw65.chg).trans hEw66.chg).trans hEw67.chg)) hT164 28 536870911 (some 87) (vP w7.heap.size (0+t*1)) (zm (Instr.indexAt 149 (vP w7.heap.size 0) (vI t)) (fun w' hC=>zW (E:=28) (sz:=1) (m:=64) (by omega))) ?_)
      have hK70:=(((((hK69.ext hEw65)).ext hEw66)).ext hEw67)
      refine zu 29 1073741823 (zY 28 w7.heap.size (0+t*1) 149 (vW ((((((zc b t).get (t-16))+((zc b t).get (t-7)))+(((rr ((zc b t).get (t-15)) 7)^^^(rr ((zc b t).get (t-15)) 18))^^^(((zc b t).get (t-15))>>>UInt32.ofNat 3)))+(((rr ((zc b t).get (t-2)) 17)^^^(rr ((zc b t).get (t-2)) 19))^^^(((zc b t).get (t-2))>>>UInt32.ofNat 10))).toNat)) (zV (zc b t)) hK70 (by first | decide |(simp;done)|(simp;omega)) ?_)
      have hK71:=(((((hK69.ext hEw65)).ext hEw66)).ext hEw67)
      intro w68 hBw68 hCw68
      have hzw68:=hCw68.size
      rw [show ((zV (zc b t)).set (0+t*1) (vW ((((((zc b t).get (t-16))+((zc b t).get (t-7)))+(((rr ((zc b t).get (t-15)) 7)^^^(rr ((zc b t).get (t-15)) 18))^^^(((zc b t).get (t-15))>>>UInt32.ofNat 3)))+(((rr ((zc b t).get (t-2)) 17)^^^(rr ((zc b t).get (t-2)) 19))^^^(((zc b t).get (t-2))>>>UInt32.ofNat 10))).toNat)):List Value)=zV ((zc b t).set t (((((zc b t).get (t-16))+((zc b t).get (t-7)))+(((rr ((zc b t).get (t-15)) 7)^^^(rr ((zc b t).get (t-15)) 18))^^^(((zc b t).get (t-15))>>>UInt32.ofNat 3)))+(((rr ((zc b t).get (t-2)) 17)^^^(rr ((zc b t).get (t-2)) 19))^^^(((zc b t).get (t-2))>>>UInt32.ofNat 10)))) from zaG t (((((zc b t).get (t-16))+((zc b t).get (t-7)))+(((rr ((zc b t).get (t-15)) 7)^^^(rr ((zc b t).get (t-15)) 18))^^^(((zc b t).get (t-15))>>>UInt32.ofNat 3)))+(((rr ((zc b t).get (t-2)) 17)^^^(rr ((zc b t).get (t-2)) 19))^^^(((zc b t).get (t-2))>>>UInt32.ofNat 10)))] at hBw68
      refine ⟨.inl (by kernel_rfl), ?_⟩
      refine zL (zr (zb (ze (zd 1 [(32,(vI t))] (za (zB (some 33) .i64 (IntKind.i64.wrap (((t:Nat):Int)+((1:Nat):Int))) (t+1) (zF (by omega) (by omega) (by omega)) ?_))))))
      refine zd 1 [(8,(vI (t+1)))] (zg (zD ?_))
      have hK72:=(((((((((((((hA.ext hEw11)).ext hEw12)).ext hEw51)).ext hEw65)).ext hEw66)).ext hEw67)).chg hCw68 (fun hs=>by have h:_=_:=hs;omega))
      have hK73:=(((((((((((((hK.ext hEw11)).ext hEw12)).ext hEw51)).ext hEw65)).ext hEw66)).ext hEw67)).chg hCw68 (fun hs=>by have h:_=_:=hs;omega))
      have hK74:=(((((((((((((hZ4.ext hEw11)).ext hEw12)).ext hEw51)).ext hEw65)).ext hEw66)).ext hEw67)).chg hCw68 (fun hs=>by have h:_=_:=hs;omega))
      have hX16:Ext w w68:=(Ext.own ((((((hEl.trans hEw11).trans hEw12).trans hEw51).trans hEw65).trans hEw66).trans hEw67) hCw68 (by omega))
      refine zR (t+1) ?_ ?_
      ·exact ⟨by omega,hK72,by have hz:=hBw68;rwa [show (zc b t).set t _=zc b (t+1) from zaA (by omega) (by unfold zbq zbo;ac_rfl)] at hz,hK73,hK74,hX16⟩
      ·first | omega |(dsimp only;omega)
     ·refine zk (some 72) (zae ((zc b t).get (t-15)) 18 _ (by decide) (by decide)) ?_
      rintro _ w69 ⟨rfl,hEw69⟩
      have hzw69:=hEw69.size
      refine ⟨.inr (((Chg.refl (fun k=>k=w7.heap.size) w12).trans hEw51.chg).trans hEw69.chg), ?_⟩
      refine zh (hw:=show Chg (fun k=>k=w7.heap.size) w12 w69 from (((Chg.refl (fun k=>k=w7.heap.size) w12).trans hEw51.chg).trans hEw69.chg)) hT164 14 53083631 (some 73) (vW (((rr ((zc b t).get (t-15)) 7)^^^(rr ((zc b t).get (t-15)) 18)).toNat)) (zw .u32 _ (zZ (rr ((zc b t).get (t-15)) 7) (rr ((zc b t).get (t-15)) 18))) (zh (hw:=show Chg (fun k=>k=w7.heap.size) w12 w69 from (((Chg.refl (fun k=>k=w7.heap.size) w12).trans hEw51.chg).trans hEw69.chg)) hT164 17 53214703 (some 76) (vW ((((rr ((zc b t).get (t-15)) 7)^^^(rr ((zc b t).get (t-15)) 18))^^^(((zc b t).get (t-15))>>>UInt32.ofNat 3)).toNat)) (zw .u32 _ (zZ ((rr ((zc b t).get (t-15)) 7)^^^(rr ((zc b t).get (t-15)) 18)) (((zc b t).get (t-15))>>>UInt32.ofNat 3))) (zaB 4 20 53214719 54263279 ?_ ?_))
      ·refine zi (some 63) (Instr.loadAt 28 (vP w7.heap.size (0+(t-16)*1))) (vW (((zc b t).get (t-16)).toNat)) (zo ((hK69.ext hEw69).cell (zan (t-16) (by omega)))) (⟨.inr (((Chg.refl (fun k=>k=w7.heap.size) w12).trans hEw51.chg).trans hEw69.chg), ?_⟩)
       refine zh (hw:=show Chg (fun k=>k=w7.heap.size) w12 w69 from (((Chg.refl (fun k=>k=w7.heap.size) w12).trans hEw51.chg).trans hEw69.chg)) hT164 9 53215231 (some 68) (vW ((((zc b t).get (t-16))+((zc b t).get (t-7))).toNat)) (zw .u32 _ (zU ((zc b t).get (t-16)) ((zc b t).get (t-7)))) (zh (hw:=show Chg (fun k=>k=w7.heap.size) w12 w69 from (((Chg.refl (fun k=>k=w7.heap.size) w12).trans hEw51.chg).trans hEw69.chg)) hT164 18 53477375 (some 77) (vW (((((zc b t).get (t-16))+((zc b t).get (t-7)))+(((rr ((zc b t).get (t-15)) 7)^^^(rr ((zc b t).get (t-15)) 18))^^^(((zc b t).get (t-15))>>>UInt32.ofNat 3))).toNat)) (zw .u32 _ (zU (((zc b t).get (t-16))+((zc b t).get (t-7))) (((rr ((zc b t).get (t-15)) 7)^^^(rr ((zc b t).get (t-15)) 18))^^^(((zc b t).get (t-15))>>>UInt32.ofNat 3)))) (zu 20 54525951 (zk (some 79) (zae ((zc b t).get (t-2)) 17 _ (by decide) (by decide)) ?_)))
       rintro _ w70 ⟨rfl,hEw70⟩
       have hzw70:=hEw70.size
       refine ⟨.inr ((((Chg.refl (fun k=>k=w7.heap.size) w12).trans hEw51.chg).trans hEw69.chg).trans hEw70.chg), ?_⟩
       refine zu 22 58720255 (zk (some 81) (zae ((zc b t).get (t-2)) 19 _ (by decide) (by decide)) ?_)
       rintro _ w71 ⟨rfl,hEw71⟩
       have hzw71:=hEw71.size
       refine ⟨.inr (((((Chg.refl (fun k=>k=w7.heap.size) w12).trans hEw51.chg).trans hEw69.chg).trans hEw70.chg).trans hEw71.chg), ?_⟩
       refine zh (hw:=show Chg (fun k=>k=w7.heap.size) w12 w71 from (((((Chg.refl (fun k=>k=w7.heap.size) w12).trans hEw51.chg).trans hEw69.chg).trans hEw70.chg).trans hEw71.chg)) hT164 23 67108863 (some 82) (vW (((rr ((zc b t).get (t-2)) 17)^^^(rr ((zc b t).get (t-2)) 19)).toNat)) (zw .u32 _ (zZ (rr ((zc b t).get (t-2)) 17) (rr ((zc b t).get (t-2)) 19))) (zh (hw:=show Chg (fun k=>k=w7.heap.size) w12 w71 from (((((Chg.refl (fun k=>k=w7.heap.size) w12).trans hEw51.chg).trans hEw69.chg).trans hEw70.chg).trans hEw71.chg)) hT164 26 134217727 (some 85) (vW ((((rr ((zc b t).get (t-2)) 17)^^^(rr ((zc b t).get (t-2)) 19))^^^(((zc b t).get (t-2))>>>UInt32.ofNat 10)).toNat)) (zw .u32 _ (zZ ((rr ((zc b t).get (t-2)) 17)^^^(rr ((zc b t).get (t-2)) 19)) (((zc b t).get (t-2))>>>UInt32.ofNat 10))) ?_)
       refine zh (hw:=show Chg (fun k=>k=w7.heap.size) w12 w71 from (((((Chg.refl (fun k=>k=w7.heap.size) w12).trans hEw51.chg).trans hEw69.chg).trans hEw70.chg).trans hEw71.chg)) hT164 27 268435455 (some 86) (vW ((((((zc b t).get (t-16))+((zc b t).get (t-7)))+(((rr ((zc b t).get (t-15)) 7)^^^(rr ((zc b t).get (t-15)) 18))^^^(((zc b t).get (t-15))>>>UInt32.ofNat 3)))+(((rr ((zc b t).get (t-2)) 17)^^^(rr ((zc b t).get (t-2)) 19))^^^(((zc b t).get (t-2))>>>UInt32.ofNat 10))).toNat)) (zw .u32 _ (zU ((((zc b t).get (t-16))+((zc b t).get (t-7)))+(((rr ((zc b t).get (t-15)) 7)^^^(rr ((zc b t).get (t-15)) 18))^^^(((zc b t).get (t-15))>>>UInt32.ofNat 3))) (((rr ((zc b t).get (t-2)) 17)^^^(rr ((zc b t).get (t-2)) 19))^^^(((zc b t).get (t-2))>>>UInt32.ofNat 10)))) (zh (hw:=show Chg (fun k=>k=w7.heap.size) w12 w71 from (((((Chg.refl (fun k=>k=w7.heap.size) w12).trans hEw51.chg).trans hEw69.chg).trans hEw70.chg).trans hEw71.chg)) hT164 28 536870911 (some 87) (vP w7.heap.size (0+t*1)) (zm (Instr.indexAt 149 (vP w7.heap.size 0) (vI t)) (fun w' hC=>zW (E:=28) (sz:=1) (m:=64) (by omega))) ?_)
       have hK75:=(((((hK69.ext hEw69)).ext hEw70)).ext hEw71)
       refine zu 29 1073741823 (zY 28 w7.heap.size (0+t*1) 149 (vW ((((((zc b t).get (t-16))+((zc b t).get (t-7)))+(((rr ((zc b t).get (t-15)) 7)^^^(rr ((zc b t).get (t-15)) 18))^^^(((zc b t).get (t-15))>>>UInt32.ofNat 3)))+(((rr ((zc b t).get (t-2)) 17)^^^(rr ((zc b t).get (t-2)) 19))^^^(((zc b t).get (t-2))>>>UInt32.ofNat 10))).toNat)) (zV (zc b t)) hK75 (by first | decide |(simp;done)|(simp;omega)) ?_)
       have hK76:=(((((hK69.ext hEw69)).ext hEw70)).ext hEw71)
       intro w72 hBw72 hCw72
       have hzw72:=hCw72.size
       rw [show ((zV (zc b t)).set (0+t*1) (vW ((((((zc b t).get (t-16))+((zc b t).get (t-7)))+(((rr ((zc b t).get (t-15)) 7)^^^(rr ((zc b t).get (t-15)) 18))^^^(((zc b t).get (t-15))>>>UInt32.ofNat 3)))+(((rr ((zc b t).get (t-2)) 17)^^^(rr ((zc b t).get (t-2)) 19))^^^(((zc b t).get (t-2))>>>UInt32.ofNat 10))).toNat)):List Value)=zV ((zc b t).set t (((((zc b t).get (t-16))+((zc b t).get (t-7)))+(((rr ((zc b t).get (t-15)) 7)^^^(rr ((zc b t).get (t-15)) 18))^^^(((zc b t).get (t-15))>>>UInt32.ofNat 3)))+(((rr ((zc b t).get (t-2)) 17)^^^(rr ((zc b t).get (t-2)) 19))^^^(((zc b t).get (t-2))>>>UInt32.ofNat 10)))) from zaG t (((((zc b t).get (t-16))+((zc b t).get (t-7)))+(((rr ((zc b t).get (t-15)) 7)^^^(rr ((zc b t).get (t-15)) 18))^^^(((zc b t).get (t-15))>>>UInt32.ofNat 3)))+(((rr ((zc b t).get (t-2)) 17)^^^(rr ((zc b t).get (t-2)) 19))^^^(((zc b t).get (t-2))>>>UInt32.ofNat 10)))] at hBw72
       refine ⟨.inl (by kernel_rfl), ?_⟩
       refine zL (zr (zb (ze (zd 1 [(32,(vI t))] (za (zB (some 33) .i64 (IntKind.i64.wrap (((t:Nat):Int)+((1:Nat):Int))) (t+1) (zF (by omega) (by omega) (by omega)) ?_))))))
       refine zd 1 [(8,(vI (t+1)))] (zg (zD ?_))
       have hK77:=(((((((((((((hA.ext hEw11)).ext hEw12)).ext hEw51)).ext hEw69)).ext hEw70)).ext hEw71)).chg hCw72 (fun hs=>by have h:_=_:=hs;omega))
       have hK78:=(((((((((((((hK.ext hEw11)).ext hEw12)).ext hEw51)).ext hEw69)).ext hEw70)).ext hEw71)).chg hCw72 (fun hs=>by have h:_=_:=hs;omega))
       have hK79:=(((((((((((((hZ4.ext hEw11)).ext hEw12)).ext hEw51)).ext hEw69)).ext hEw70)).ext hEw71)).chg hCw72 (fun hs=>by have h:_=_:=hs;omega))
       have hX17:Ext w w72:=(Ext.own ((((((hEl.trans hEw11).trans hEw12).trans hEw51).trans hEw69).trans hEw70).trans hEw71) hCw72 (by omega))
       refine zR (t+1) ?_ ?_
       ·exact ⟨by omega,hK77,by have hz:=hBw72;rwa [show (zc b t).set t _=zc b (t+1) from zaA (by omega) (by unfold zbq zbo;ac_rfl)] at hz,hK78,hK79,hX17⟩
       ·first | omega |(dsimp only;omega)
      ·refine zk (some 79) (zae ((zc b t).get (t-2)) 17 _ (by decide) (by decide)) ?_
       rintro _ w73 ⟨rfl,hEw73⟩
       have hzw73:=hEw73.size
       refine ⟨.inr ((((Chg.refl (fun k=>k=w7.heap.size) w12).trans hEw51.chg).trans hEw69.chg).trans hEw73.chg), ?_⟩
       refine zaB 4 22 54263295 58457583 ?_ ?_
       ·refine zi (some 63) (Instr.loadAt 28 (vP w7.heap.size (0+(t-16)*1))) (vW (((zc b t).get (t-16)).toNat)) (zo ((((hK69.ext hEw69)).ext hEw73).cell (zan (t-16) (by omega)))) (⟨.inr ((((Chg.refl (fun k=>k=w7.heap.size) w12).trans hEw51.chg).trans hEw69.chg).trans hEw73.chg), ?_⟩)
        refine zh (hw:=show Chg (fun k=>k=w7.heap.size) w12 w73 from ((((Chg.refl (fun k=>k=w7.heap.size) w12).trans hEw51.chg).trans hEw69.chg).trans hEw73.chg)) hT164 9 54263807 (some 68) (vW ((((zc b t).get (t-16))+((zc b t).get (t-7))).toNat)) (zw .u32 _ (zU ((zc b t).get (t-16)) ((zc b t).get (t-7)))) (zh (hw:=show Chg (fun k=>k=w7.heap.size) w12 w73 from ((((Chg.refl (fun k=>k=w7.heap.size) w12).trans hEw51.chg).trans hEw69.chg).trans hEw73.chg)) hT164 18 54525951 (some 77) (vW (((((zc b t).get (t-16))+((zc b t).get (t-7)))+(((rr ((zc b t).get (t-15)) 7)^^^(rr ((zc b t).get (t-15)) 18))^^^(((zc b t).get (t-15))>>>UInt32.ofNat 3))).toNat)) (zw .u32 _ (zU (((zc b t).get (t-16))+((zc b t).get (t-7))) (((rr ((zc b t).get (t-15)) 7)^^^(rr ((zc b t).get (t-15)) 18))^^^(((zc b t).get (t-15))>>>UInt32.ofNat 3)))) (zu 22 58720255 (zk (some 81) (zae ((zc b t).get (t-2)) 19 _ (by decide) (by decide)) ?_)))
        rintro _ w74 ⟨rfl,hEw74⟩
        have hzw74:=hEw74.size
        refine ⟨.inr (((((Chg.refl (fun k=>k=w7.heap.size) w12).trans hEw51.chg).trans hEw69.chg).trans hEw73.chg).trans hEw74.chg), ?_⟩
        refine zh (hw:=show Chg (fun k=>k=w7.heap.size) w12 w74 from (((((Chg.refl (fun k=>k=w7.heap.size) w12).trans hEw51.chg).trans hEw69.chg).trans hEw73.chg).trans hEw74.chg)) hT164 23 67108863 (some 82) (vW (((rr ((zc b t).get (t-2)) 17)^^^(rr ((zc b t).get (t-2)) 19)).toNat)) (zw .u32 _ (zZ (rr ((zc b t).get (t-2)) 17) (rr ((zc b t).get (t-2)) 19))) (zh (hw:=show Chg (fun k=>k=w7.heap.size) w12 w74 from (((((Chg.refl (fun k=>k=w7.heap.size) w12).trans hEw51.chg).trans hEw69.chg).trans hEw73.chg).trans hEw74.chg)) hT164 26 134217727 (some 85) (vW ((((rr ((zc b t).get (t-2)) 17)^^^(rr ((zc b t).get (t-2)) 19))^^^(((zc b t).get (t-2))>>>UInt32.ofNat 10)).toNat)) (zw .u32 _ (zZ ((rr ((zc b t).get (t-2)) 17)^^^(rr ((zc b t).get (t-2)) 19)) (((zc b t).get (t-2))>>>UInt32.ofNat 10))) ?_)
        refine zh (hw:=show Chg (fun k=>k=w7.heap.size) w12 w74 from (((((Chg.refl (fun k=>k=w7.heap.size) w12).trans hEw51.chg).trans hEw69.chg).trans hEw73.chg).trans hEw74.chg)) hT164 27 268435455 (some 86) (vW ((((((zc b t).get (t-16))+((zc b t).get (t-7)))+(((rr ((zc b t).get (t-15)) 7)^^^(rr ((zc b t).get (t-15)) 18))^^^(((zc b t).get (t-15))>>>UInt32.ofNat 3)))+(((rr ((zc b t).get (t-2)) 17)^^^(rr ((zc b t).get (t-2)) 19))^^^(((zc b t).get (t-2))>>>UInt32.ofNat 10))).toNat)) (zw .u32 _ (zU ((((zc b t).get (t-16))+((zc b t).get (t-7)))+(((rr ((zc b t).get (t-15)) 7)^^^(rr ((zc b t).get (t-15)) 18))^^^(((zc b t).get (t-15))>>>UInt32.ofNat 3))) (((rr ((zc b t).get (t-2)) 17)^^^(rr ((zc b t).get (t-2)) 19))^^^(((zc b t).get (t-2))>>>UInt32.ofNat 10)))) (zh (hw:=show Chg (fun k=>k=w7.heap.size) w12 w74 from (((((Chg.refl (fun k=>k=w7.heap.size) w12).trans hEw51.chg).trans hEw69.chg).trans hEw73.chg).trans hEw74.chg)) hT164 28 536870911 (some 87) (vP w7.heap.size (0+t*1)) (zm (Instr.indexAt 149 (vP w7.heap.size 0) (vI t)) (fun w' hC=>zW (E:=28) (sz:=1) (m:=64) (by omega))) ?_)
        have hK80:=(((((hK69.ext hEw69)).ext hEw73)).ext hEw74)
        refine zu 29 1073741823 (zY 28 w7.heap.size (0+t*1) 149 (vW ((((((zc b t).get (t-16))+((zc b t).get (t-7)))+(((rr ((zc b t).get (t-15)) 7)^^^(rr ((zc b t).get (t-15)) 18))^^^(((zc b t).get (t-15))>>>UInt32.ofNat 3)))+(((rr ((zc b t).get (t-2)) 17)^^^(rr ((zc b t).get (t-2)) 19))^^^(((zc b t).get (t-2))>>>UInt32.ofNat 10))).toNat)) (zV (zc b t)) hK80 (by first | decide |(simp;done)|(simp;omega)) ?_)
        have hK81:=(((((hK69.ext hEw69)).ext hEw73)).ext hEw74)
        intro w75 hBw75 hCw75
        have hzw75:=hCw75.size
        rw [show ((zV (zc b t)).set (0+t*1) (vW ((((((zc b t).get (t-16))+((zc b t).get (t-7)))+(((rr ((zc b t).get (t-15)) 7)^^^(rr ((zc b t).get (t-15)) 18))^^^(((zc b t).get (t-15))>>>UInt32.ofNat 3)))+(((rr ((zc b t).get (t-2)) 17)^^^(rr ((zc b t).get (t-2)) 19))^^^(((zc b t).get (t-2))>>>UInt32.ofNat 10))).toNat)):List Value)=zV ((zc b t).set t (((((zc b t).get (t-16))+((zc b t).get (t-7)))+(((rr ((zc b t).get (t-15)) 7)^^^(rr ((zc b t).get (t-15)) 18))^^^(((zc b t).get (t-15))>>>UInt32.ofNat 3)))+(((rr ((zc b t).get (t-2)) 17)^^^(rr ((zc b t).get (t-2)) 19))^^^(((zc b t).get (t-2))>>>UInt32.ofNat 10)))) from zaG t (((((zc b t).get (t-16))+((zc b t).get (t-7)))+(((rr ((zc b t).get (t-15)) 7)^^^(rr ((zc b t).get (t-15)) 18))^^^(((zc b t).get (t-15))>>>UInt32.ofNat 3)))+(((rr ((zc b t).get (t-2)) 17)^^^(rr ((zc b t).get (t-2)) 19))^^^(((zc b t).get (t-2))>>>UInt32.ofNat 10)))] at hBw75
        refine ⟨.inl (by kernel_rfl), ?_⟩
        refine zL (zr (zb (ze (zd 1 [(32,(vI t))] (za (zB (some 33) .i64 (IntKind.i64.wrap (((t:Nat):Int)+((1:Nat):Int))) (t+1) (zF (by omega) (by omega) (by omega)) ?_))))))
        refine zd 1 [(8,(vI (t+1)))] (zg (zD ?_))
        have hK82:=(((((((((((((hA.ext hEw11)).ext hEw12)).ext hEw51)).ext hEw69)).ext hEw73)).ext hEw74)).chg hCw75 (fun hs=>by have h:_=_:=hs;omega))
        have hK83:=(((((((((((((hK.ext hEw11)).ext hEw12)).ext hEw51)).ext hEw69)).ext hEw73)).ext hEw74)).chg hCw75 (fun hs=>by have h:_=_:=hs;omega))
        have hK84:=(((((((((((((hZ4.ext hEw11)).ext hEw12)).ext hEw51)).ext hEw69)).ext hEw73)).ext hEw74)).chg hCw75 (fun hs=>by have h:_=_:=hs;omega))
        have hX18:Ext w w75:=(Ext.own ((((((hEl.trans hEw11).trans hEw12).trans hEw51).trans hEw69).trans hEw73).trans hEw74) hCw75 (by omega))
        refine zR (t+1) ?_ ?_
        ·exact ⟨by omega,hK82,by have hz:=hBw75;rwa [show (zc b t).set t _=zc b (t+1) from zaA (by omega) (by unfold zbq zbo;ac_rfl)] at hz,hK83,hK84,hX18⟩
        ·first | omega |(dsimp only;omega)
       ·refine zk (some 81) (zae ((zc b t).get (t-2)) 19 _ (by decide) (by decide)) ?_
        rintro _ w76 ⟨rfl,hEw76⟩
        have hzw76:=hEw76.size
        refine ⟨.inr (((((Chg.refl (fun k=>k=w7.heap.size) w12).trans hEw51.chg).trans hEw69.chg).trans hEw73.chg).trans hEw76.chg), ?_⟩
        refine zh (hw:=show Chg (fun k=>k=w7.heap.size) w12 w76 from (((((Chg.refl (fun k=>k=w7.heap.size) w12).trans hEw51.chg).trans hEw69.chg).trans hEw73.chg).trans hEw76.chg)) hT164 23 66846191 (some 82) (vW (((rr ((zc b t).get (t-2)) 17)^^^(rr ((zc b t).get (t-2)) 19)).toNat)) (zw .u32 _ (zZ (rr ((zc b t).get (t-2)) 17) (rr ((zc b t).get (t-2)) 19))) (zh (hw:=show Chg (fun k=>k=w7.heap.size) w12 w76 from (((((Chg.refl (fun k=>k=w7.heap.size) w12).trans hEw51.chg).trans hEw69.chg).trans hEw73.chg).trans hEw76.chg)) hT164 26 133955055 (some 85) (vW ((((rr ((zc b t).get (t-2)) 17)^^^(rr ((zc b t).get (t-2)) 19))^^^(((zc b t).get (t-2))>>>UInt32.ofNat 10)).toNat)) (zw .u32 _ (zZ ((rr ((zc b t).get (t-2)) 17)^^^(rr ((zc b t).get (t-2)) 19)) (((zc b t).get (t-2))>>>UInt32.ofNat 10))) ?_)
        have hK85:=(((((hK69.ext hEw69)).ext hEw73)).ext hEw76)
        refine zu 4 133955071 (zi (some 63) (Instr.loadAt 28 (vP w7.heap.size (0+(t-16)*1))) (vW (((zc b t).get (t-16)).toNat)) (zo (hK85.cell (zan (t-16) (by omega)))) ?_)
        refine ⟨.inr (((((Chg.refl (fun k=>k=w7.heap.size) w12).trans hEw51.chg).trans hEw69.chg).trans hEw73.chg).trans hEw76.chg), ?_⟩
        refine zh (hw:=show Chg (fun k=>k=w7.heap.size) w12 w76 from (((((Chg.refl (fun k=>k=w7.heap.size) w12).trans hEw51.chg).trans hEw69.chg).trans hEw73.chg).trans hEw76.chg)) hT164 9 133955583 (some 68) (vW ((((zc b t).get (t-16))+((zc b t).get (t-7))).toNat)) (zw .u32 _ (zU ((zc b t).get (t-16)) ((zc b t).get (t-7)))) (zh (hw:=show Chg (fun k=>k=w7.heap.size) w12 w76 from (((((Chg.refl (fun k=>k=w7.heap.size) w12).trans hEw51.chg).trans hEw69.chg).trans hEw73.chg).trans hEw76.chg)) hT164 18 134217727 (some 77) (vW (((((zc b t).get (t-16))+((zc b t).get (t-7)))+(((rr ((zc b t).get (t-15)) 7)^^^(rr ((zc b t).get (t-15)) 18))^^^(((zc b t).get (t-15))>>>UInt32.ofNat 3))).toNat)) (zw .u32 _ (zU (((zc b t).get (t-16))+((zc b t).get (t-7))) (((rr ((zc b t).get (t-15)) 7)^^^(rr ((zc b t).get (t-15)) 18))^^^(((zc b t).get (t-15))>>>UInt32.ofNat 3)))) ?_)
        refine zh (hw:=show Chg (fun k=>k=w7.heap.size) w12 w76 from (((((Chg.refl (fun k=>k=w7.heap.size) w12).trans hEw51.chg).trans hEw69.chg).trans hEw73.chg).trans hEw76.chg)) hT164 27 268435455 (some 86) (vW ((((((zc b t).get (t-16))+((zc b t).get (t-7)))+(((rr ((zc b t).get (t-15)) 7)^^^(rr ((zc b t).get (t-15)) 18))^^^(((zc b t).get (t-15))>>>UInt32.ofNat 3)))+(((rr ((zc b t).get (t-2)) 17)^^^(rr ((zc b t).get (t-2)) 19))^^^(((zc b t).get (t-2))>>>UInt32.ofNat 10))).toNat)) (zw .u32 _ (zU ((((zc b t).get (t-16))+((zc b t).get (t-7)))+(((rr ((zc b t).get (t-15)) 7)^^^(rr ((zc b t).get (t-15)) 18))^^^(((zc b t).get (t-15))>>>UInt32.ofNat 3))) (((rr ((zc b t).get (t-2)) 17)^^^(rr ((zc b t).get (t-2)) 19))^^^(((zc b t).get (t-2))>>>UInt32.ofNat 10)))) (zh (hw:=show Chg (fun k=>k=w7.heap.size) w12 w76 from (((((Chg.refl (fun k=>k=w7.heap.size) w12).trans hEw51.chg).trans hEw69.chg).trans hEw73.chg).trans hEw76.chg)) hT164 28 536870911 (some 87) (vP w7.heap.size (0+t*1)) (zm (Instr.indexAt 149 (vP w7.heap.size 0) (vI t)) (fun w' hC=>zW (E:=28) (sz:=1) (m:=64) (by omega))) ?_)
        refine zu 29 1073741823 (zY 28 w7.heap.size (0+t*1) 149 (vW ((((((zc b t).get (t-16))+((zc b t).get (t-7)))+(((rr ((zc b t).get (t-15)) 7)^^^(rr ((zc b t).get (t-15)) 18))^^^(((zc b t).get (t-15))>>>UInt32.ofNat 3)))+(((rr ((zc b t).get (t-2)) 17)^^^(rr ((zc b t).get (t-2)) 19))^^^(((zc b t).get (t-2))>>>UInt32.ofNat 10))).toNat)) (zV (zc b t)) hK85 (by first | decide |(simp;done)|(simp;omega)) ?_)
        intro w77 hBw77 hCw77
        have hzw77:=hCw77.size
        rw [show ((zV (zc b t)).set (0+t*1) (vW ((((((zc b t).get (t-16))+((zc b t).get (t-7)))+(((rr ((zc b t).get (t-15)) 7)^^^(rr ((zc b t).get (t-15)) 18))^^^(((zc b t).get (t-15))>>>UInt32.ofNat 3)))+(((rr ((zc b t).get (t-2)) 17)^^^(rr ((zc b t).get (t-2)) 19))^^^(((zc b t).get (t-2))>>>UInt32.ofNat 10))).toNat)):List Value)=zV ((zc b t).set t (((((zc b t).get (t-16))+((zc b t).get (t-7)))+(((rr ((zc b t).get (t-15)) 7)^^^(rr ((zc b t).get (t-15)) 18))^^^(((zc b t).get (t-15))>>>UInt32.ofNat 3)))+(((rr ((zc b t).get (t-2)) 17)^^^(rr ((zc b t).get (t-2)) 19))^^^(((zc b t).get (t-2))>>>UInt32.ofNat 10)))) from zaG t (((((zc b t).get (t-16))+((zc b t).get (t-7)))+(((rr ((zc b t).get (t-15)) 7)^^^(rr ((zc b t).get (t-15)) 18))^^^(((zc b t).get (t-15))>>>UInt32.ofNat 3)))+(((rr ((zc b t).get (t-2)) 17)^^^(rr ((zc b t).get (t-2)) 19))^^^(((zc b t).get (t-2))>>>UInt32.ofNat 10)))] at hBw77
        refine ⟨.inl (by kernel_rfl), ?_⟩
        refine zL (zr (zb (ze (zd 1 [(32,(vI t))] (za (zB (some 33) .i64 (IntKind.i64.wrap (((t:Nat):Int)+((1:Nat):Int))) (t+1) (zF (by omega) (by omega) (by omega)) ?_))))))
        refine zd 1 [(8,(vI (t+1)))] (zg (zD ?_))
        have hK86:=(((((((((((((hA.ext hEw11)).ext hEw12)).ext hEw51)).ext hEw69)).ext hEw73)).ext hEw76)).chg hCw77 (fun hs=>by have h:_=_:=hs;omega))
        have hK87:=(((((((((((((hK.ext hEw11)).ext hEw12)).ext hEw51)).ext hEw69)).ext hEw73)).ext hEw76)).chg hCw77 (fun hs=>by have h:_=_:=hs;omega))
        have hK88:=(((((((((((((hZ4.ext hEw11)).ext hEw12)).ext hEw51)).ext hEw69)).ext hEw73)).ext hEw76)).chg hCw77 (fun hs=>by have h:_=_:=hs;omega))
        have hX19:Ext w w77:=(Ext.own ((((((hEl.trans hEw11).trans hEw12).trans hEw51).trans hEw69).trans hEw73).trans hEw76) hCw77 (by omega))
        refine zR (t+1) ?_ ?_
        ·exact ⟨by omega,hK86,by have hz:=hBw77;rwa [show (zc b t).set t _=zc b (t+1) from zaA (by omega) (by unfold zbq zbo;ac_rfl)] at hz,hK87,hK88,hX19⟩
        ·first | omega |(dsimp only;omega)
    ·refine zk (some 72) (zae ((zc b t).get (t-15)) 18 _ (by decide) (by decide)) ?_
     rintro _ w78 ⟨rfl,hEw78⟩
     have hzw78:=hEw78.size
     refine ⟨.inr (((Chg.refl (fun k=>k=w7.heap.size) w12).trans hEw51.chg).trans hEw78.chg), ?_⟩
     refine zh (hw:=show Chg (fun k=>k=w7.heap.size) w12 w78 from (((Chg.refl (fun k=>k=w7.heap.size) w12).trans hEw51.chg).trans hEw78.chg)) hT164 14 53083375 (some 73) (vW (((rr ((zc b t).get (t-15)) 7)^^^(rr ((zc b t).get (t-15)) 18)).toNat)) (zw .u32 _ (zZ (rr ((zc b t).get (t-15)) 7) (rr ((zc b t).get (t-15)) 18))) (zh (hw:=show Chg (fun k=>k=w7.heap.size) w12 w78 from (((Chg.refl (fun k=>k=w7.heap.size) w12).trans hEw51.chg).trans hEw78.chg)) hT164 17 53214447 (some 76) (vW ((((rr ((zc b t).get (t-15)) 7)^^^(rr ((zc b t).get (t-15)) 18))^^^(((zc b t).get (t-15))>>>UInt32.ofNat 3)).toNat)) (zw .u32 _ (zZ ((rr ((zc b t).get (t-15)) 7)^^^(rr ((zc b t).get (t-15)) 18)) (((zc b t).get (t-15))>>>UInt32.ofNat 3))) (zex 4 8 20 53214463 53214703 54263023 ?_ ?_ ?_))
     ·have hK89:=(((((((hB.ext hEw11)).ext hEw12)).ext hEw51)).ext hEw78)
      refine zi (some 63) (Instr.loadAt 28 (vP w7.heap.size (0+(t-16)*1))) (vW (((zc b t).get (t-16)).toNat)) (zo (hK89.cell (zan (t-16) (by omega)))) (⟨.inr (((Chg.refl (fun k=>k=w7.heap.size) w12).trans hEw51.chg).trans hEw78.chg), ?_⟩)
      refine zaB 8 20 53214719 54263039 ?_ ?_
      ·refine zi (some 67) (Instr.loadAt 28 (vP w7.heap.size (0+(t-7)*1))) (vW (((zc b t).get (t-7)).toNat)) (zo (hK89.cell (zan (t-7) (by omega)))) (⟨.inr (((Chg.refl (fun k=>k=w7.heap.size) w12).trans hEw51.chg).trans hEw78.chg), ?_⟩)
       refine zh (hw:=show Chg (fun k=>k=w7.heap.size) w12 w78 from (((Chg.refl (fun k=>k=w7.heap.size) w12).trans hEw51.chg).trans hEw78.chg)) hT164 9 53215231 (some 68) (vW ((((zc b t).get (t-16))+((zc b t).get (t-7))).toNat)) (zw .u32 _ (zU ((zc b t).get (t-16)) ((zc b t).get (t-7)))) (zh (hw:=show Chg (fun k=>k=w7.heap.size) w12 w78 from (((Chg.refl (fun k=>k=w7.heap.size) w12).trans hEw51.chg).trans hEw78.chg)) hT164 18 53477375 (some 77) (vW (((((zc b t).get (t-16))+((zc b t).get (t-7)))+(((rr ((zc b t).get (t-15)) 7)^^^(rr ((zc b t).get (t-15)) 18))^^^(((zc b t).get (t-15))>>>UInt32.ofNat 3))).toNat)) (zw .u32 _ (zU (((zc b t).get (t-16))+((zc b t).get (t-7))) (((rr ((zc b t).get (t-15)) 7)^^^(rr ((zc b t).get (t-15)) 18))^^^(((zc b t).get (t-15))>>>UInt32.ofNat 3)))) (zu 20 54525951 (zk (some 79) (zae ((zc b t).get (t-2)) 17 _ (by decide) (by decide)) ?_)))
       rintro _ w79 ⟨rfl,hEw79⟩
       have hzw79:=hEw79.size
       refine ⟨.inr ((((Chg.refl (fun k=>k=w7.heap.size) w12).trans hEw51.chg).trans hEw78.chg).trans hEw79.chg), ?_⟩
       refine zu 22 58720255 (zk (some 81) (zae ((zc b t).get (t-2)) 19 _ (by decide) (by decide)) ?_)
       rintro _ w80 ⟨rfl,hEw80⟩
       have hzw80:=hEw80.size
       refine ⟨.inr (((((Chg.refl (fun k=>k=w7.heap.size) w12).trans hEw51.chg).trans hEw78.chg).trans hEw79.chg).trans hEw80.chg), ?_⟩
       refine zh (hw:=show Chg (fun k=>k=w7.heap.size) w12 w80 from (((((Chg.refl (fun k=>k=w7.heap.size) w12).trans hEw51.chg).trans hEw78.chg).trans hEw79.chg).trans hEw80.chg)) hT164 23 67108863 (some 82) (vW (((rr ((zc b t).get (t-2)) 17)^^^(rr ((zc b t).get (t-2)) 19)).toNat)) (zw .u32 _ (zZ (rr ((zc b t).get (t-2)) 17) (rr ((zc b t).get (t-2)) 19))) (zh (hw:=show Chg (fun k=>k=w7.heap.size) w12 w80 from (((((Chg.refl (fun k=>k=w7.heap.size) w12).trans hEw51.chg).trans hEw78.chg).trans hEw79.chg).trans hEw80.chg)) hT164 26 134217727 (some 85) (vW ((((rr ((zc b t).get (t-2)) 17)^^^(rr ((zc b t).get (t-2)) 19))^^^(((zc b t).get (t-2))>>>UInt32.ofNat 10)).toNat)) (zw .u32 _ (zZ ((rr ((zc b t).get (t-2)) 17)^^^(rr ((zc b t).get (t-2)) 19)) (((zc b t).get (t-2))>>>UInt32.ofNat 10))) ?_)
       refine zh (hw:=show Chg (fun k=>k=w7.heap.size) w12 w80 from (((((Chg.refl (fun k=>k=w7.heap.size) w12).trans hEw51.chg).trans hEw78.chg).trans hEw79.chg).trans hEw80.chg)) hT164 27 268435455 (some 86) (vW ((((((zc b t).get (t-16))+((zc b t).get (t-7)))+(((rr ((zc b t).get (t-15)) 7)^^^(rr ((zc b t).get (t-15)) 18))^^^(((zc b t).get (t-15))>>>UInt32.ofNat 3)))+(((rr ((zc b t).get (t-2)) 17)^^^(rr ((zc b t).get (t-2)) 19))^^^(((zc b t).get (t-2))>>>UInt32.ofNat 10))).toNat)) (zw .u32 _ (zU ((((zc b t).get (t-16))+((zc b t).get (t-7)))+(((rr ((zc b t).get (t-15)) 7)^^^(rr ((zc b t).get (t-15)) 18))^^^(((zc b t).get (t-15))>>>UInt32.ofNat 3))) (((rr ((zc b t).get (t-2)) 17)^^^(rr ((zc b t).get (t-2)) 19))^^^(((zc b t).get (t-2))>>>UInt32.ofNat 10)))) (zh (hw:=show Chg (fun k=>k=w7.heap.size) w12 w80 from (((((Chg.refl (fun k=>k=w7.heap.size) w12).trans hEw51.chg).trans hEw78.chg).trans hEw79.chg).trans hEw80.chg)) hT164 28 536870911 (some 87) (vP w7.heap.size (0+t*1)) (zm (Instr.indexAt 149 (vP w7.heap.size 0) (vI t)) (fun w' hC=>zW (E:=28) (sz:=1) (m:=64) (by omega))) ?_)
       refine zu 29 1073741823 (zY 28 w7.heap.size (0+t*1) 149 (vW ((((((zc b t).get (t-16))+((zc b t).get (t-7)))+(((rr ((zc b t).get (t-15)) 7)^^^(rr ((zc b t).get (t-15)) 18))^^^(((zc b t).get (t-15))>>>UInt32.ofNat 3)))+(((rr ((zc b t).get (t-2)) 17)^^^(rr ((zc b t).get (t-2)) 19))^^^(((zc b t).get (t-2))>>>UInt32.ofNat 10))).toNat)) (zV (zc b t)) (((hK89.ext hEw79)).ext hEw80) (by first | decide |(simp;done)|(simp;omega)) ?_)
       intro w81 hBw81 hCw81
       have hzw81:=hCw81.size
       rw [show ((zV (zc b t)).set (0+t*1) (vW ((((((zc b t).get (t-16))+((zc b t).get (t-7)))+(((rr ((zc b t).get (t-15)) 7)^^^(rr ((zc b t).get (t-15)) 18))^^^(((zc b t).get (t-15))>>>UInt32.ofNat 3)))+(((rr ((zc b t).get (t-2)) 17)^^^(rr ((zc b t).get (t-2)) 19))^^^(((zc b t).get (t-2))>>>UInt32.ofNat 10))).toNat)):List Value)=zV ((zc b t).set t (((((zc b t).get (t-16))+((zc b t).get (t-7)))+(((rr ((zc b t).get (t-15)) 7)^^^(rr ((zc b t).get (t-15)) 18))^^^(((zc b t).get (t-15))>>>UInt32.ofNat 3)))+(((rr ((zc b t).get (t-2)) 17)^^^(rr ((zc b t).get (t-2)) 19))^^^(((zc b t).get (t-2))>>>UInt32.ofNat 10)))) from zaG t (((((zc b t).get (t-16))+((zc b t).get (t-7)))+(((rr ((zc b t).get (t-15)) 7)^^^(rr ((zc b t).get (t-15)) 18))^^^(((zc b t).get (t-15))>>>UInt32.ofNat 3)))+(((rr ((zc b t).get (t-2)) 17)^^^(rr ((zc b t).get (t-2)) 19))^^^(((zc b t).get (t-2))>>>UInt32.ofNat 10)))] at hBw81
       refine ⟨.inl (by kernel_rfl), ?_⟩
       refine zL (zr (zb (ze (zd 1 [(32,(vI t))] (za (zB (some 33) .i64 (IntKind.i64.wrap (((t:Nat):Int)+((1:Nat):Int))) (t+1) (zF (by omega) (by omega) (by omega)) ?_))))))
       refine zd 1 [(8,(vI (t+1)))] (zg (zD ?_))
       have hK90:=(((((((((((((hA.ext hEw11)).ext hEw12)).ext hEw51)).ext hEw78)).ext hEw79)).ext hEw80)).chg hCw81 (fun hs=>by have h:_=_:=hs;omega))
       have hK91:=(((((((((((((hK.ext hEw11)).ext hEw12)).ext hEw51)).ext hEw78)).ext hEw79)).ext hEw80)).chg hCw81 (fun hs=>by have h:_=_:=hs;omega))
       have hK92:=(((((((((((((hZ4.ext hEw11)).ext hEw12)).ext hEw51)).ext hEw78)).ext hEw79)).ext hEw80)).chg hCw81 (fun hs=>by have h:_=_:=hs;omega))
       have hX20:Ext w w81:=(Ext.own ((((((hEl.trans hEw11).trans hEw12).trans hEw51).trans hEw78).trans hEw79).trans hEw80) hCw81 (by omega))
       refine zR (t+1) ?_ ?_
       ·exact ⟨by omega,hK90,by have hz:=hBw81;rwa [show (zc b t).set t _=zc b (t+1) from zaA (by omega) (by unfold zbq zbo;ac_rfl)] at hz,hK91,hK92,hX20⟩
       ·first | omega |(dsimp only;omega)
      ·refine zk (some 79) (zae ((zc b t).get (t-2)) 17 _ (by decide) (by decide)) ?_
       rintro _ w82 ⟨rfl,hEw82⟩
       have hzw82:=hEw82.size
       refine ⟨.inr ((((Chg.refl (fun k=>k=w7.heap.size) w12).trans hEw51.chg).trans hEw78.chg).trans hEw82.chg), ?_⟩
       refine zaB 8 22 54263295 58457343 ?_ ?_
       ·refine zi (some 67) (Instr.loadAt 28 (vP w7.heap.size (0+(t-7)*1))) (vW (((zc b t).get (t-7)).toNat)) (zo ((hK89.ext hEw82).cell (zan (t-7) (by omega)))) (⟨.inr ((((Chg.refl (fun k=>k=w7.heap.size) w12).trans hEw51.chg).trans hEw78.chg).trans hEw82.chg), ?_⟩)
        refine zh (hw:=show Chg (fun k=>k=w7.heap.size) w12 w82 from ((((Chg.refl (fun k=>k=w7.heap.size) w12).trans hEw51.chg).trans hEw78.chg).trans hEw82.chg)) hT164 9 54263807 (some 68) (vW ((((zc b t).get (t-16))+((zc b t).get (t-7))).toNat)) (zw .u32 _ (zU ((zc b t).get (t-16)) ((zc b t).get (t-7)))) (zh (hw:=show Chg (fun k=>k=w7.heap.size) w12 w82 from ((((Chg.refl (fun k=>k=w7.heap.size) w12).trans hEw51.chg).trans hEw78.chg).trans hEw82.chg)) hT164 18 54525951 (some 77) (vW (((((zc b t).get (t-16))+((zc b t).get (t-7)))+(((rr ((zc b t).get (t-15)) 7)^^^(rr ((zc b t).get (t-15)) 18))^^^(((zc b t).get (t-15))>>>UInt32.ofNat 3))).toNat)) (zw .u32 _ (zU (((zc b t).get (t-16))+((zc b t).get (t-7))) (((rr ((zc b t).get (t-15)) 7)^^^(rr ((zc b t).get (t-15)) 18))^^^(((zc b t).get (t-15))>>>UInt32.ofNat 3)))) (zu 22 58720255 (zk (some 81) (zae ((zc b t).get (t-2)) 19 _ (by decide) (by decide)) ?_)))
        rintro _ w83 ⟨rfl,hEw83⟩
        have hzw83:=hEw83.size
        refine ⟨.inr (((((Chg.refl (fun k=>k=w7.heap.size) w12).trans hEw51.chg).trans hEw78.chg).trans hEw82.chg).trans hEw83.chg), ?_⟩
        refine zh (hw:=show Chg (fun k=>k=w7.heap.size) w12 w83 from (((((Chg.refl (fun k=>k=w7.heap.size) w12).trans hEw51.chg).trans hEw78.chg).trans hEw82.chg).trans hEw83.chg)) hT164 23 67108863 (some 82) (vW (((rr ((zc b t).get (t-2)) 17)^^^(rr ((zc b t).get (t-2)) 19)).toNat)) (zw .u32 _ (zZ (rr ((zc b t).get (t-2)) 17) (rr ((zc b t).get (t-2)) 19))) (zh (hw:=show Chg (fun k=>k=w7.heap.size) w12 w83 from (((((Chg.refl (fun k=>k=w7.heap.size) w12).trans hEw51.chg).trans hEw78.chg).trans hEw82.chg).trans hEw83.chg)) hT164 26 134217727 (some 85) (vW ((((rr ((zc b t).get (t-2)) 17)^^^(rr ((zc b t).get (t-2)) 19))^^^(((zc b t).get (t-2))>>>UInt32.ofNat 10)).toNat)) (zw .u32 _ (zZ ((rr ((zc b t).get (t-2)) 17)^^^(rr ((zc b t).get (t-2)) 19)) (((zc b t).get (t-2))>>>UInt32.ofNat 10))) ?_)
        refine zh (hw:=show Chg (fun k=>k=w7.heap.size) w12 w83 from (((((Chg.refl (fun k=>k=w7.heap.size) w12).trans hEw51.chg).trans hEw78.chg).trans hEw82.chg).trans hEw83.chg)) hT164 27 268435455 (some 86) (vW ((((((zc b t).get (t-16))+((zc b t).get (t-7)))+(((rr ((zc b t).get (t-15)) 7)^^^(rr ((zc b t).get (t-15)) 18))^^^(((zc b t).get (t-15))>>>UInt32.ofNat 3)))+(((rr ((zc b t).get (t-2)) 17)^^^(rr ((zc b t).get (t-2)) 19))^^^(((zc b t).get (t-2))>>>UInt32.ofNat 10))).toNat)) (zw .u32 _ (zU ((((zc b t).get (t-16))+((zc b t).get (t-7)))+(((rr ((zc b t).get (t-15)) 7)^^^(rr ((zc b t).get (t-15)) 18))^^^(((zc b t).get (t-15))>>>UInt32.ofNat 3))) (((rr ((zc b t).get (t-2)) 17)^^^(rr ((zc b t).get (t-2)) 19))^^^(((zc b t).get (t-2))>>>UInt32.ofNat 10)))) (zh (hw:=show Chg (fun k=>k=w7.heap.size) w12 w83 from (((((Chg.refl (fun k=>k=w7.heap.size) w12).trans hEw51.chg).trans hEw78.chg).trans hEw82.chg).trans hEw83.chg)) hT164 28 536870911 (some 87) (vP w7.heap.size (0+t*1)) (zm (Instr.indexAt 149 (vP w7.heap.size 0) (vI t)) (fun w' hC=>zW (E:=28) (sz:=1) (m:=64) (by omega))) ?_)
        refine zu 29 1073741823 (zY 28 w7.heap.size (0+t*1) 149 (vW ((((((zc b t).get (t-16))+((zc b t).get (t-7)))+(((rr ((zc b t).get (t-15)) 7)^^^(rr ((zc b t).get (t-15)) 18))^^^(((zc b t).get (t-15))>>>UInt32.ofNat 3)))+(((rr ((zc b t).get (t-2)) 17)^^^(rr ((zc b t).get (t-2)) 19))^^^(((zc b t).get (t-2))>>>UInt32.ofNat 10))).toNat)) (zV (zc b t)) (((hK89.ext hEw82)).ext hEw83) (by first | decide |(simp;done)|(simp;omega)) ?_)
        intro w84 hBw84 hCw84
        have hzw84:=hCw84.size
        rw [show ((zV (zc b t)).set (0+t*1) (vW ((((((zc b t).get (t-16))+((zc b t).get (t-7)))+(((rr ((zc b t).get (t-15)) 7)^^^(rr ((zc b t).get (t-15)) 18))^^^(((zc b t).get (t-15))>>>UInt32.ofNat 3)))+(((rr ((zc b t).get (t-2)) 17)^^^(rr ((zc b t).get (t-2)) 19))^^^(((zc b t).get (t-2))>>>UInt32.ofNat 10))).toNat)):List Value)=zV ((zc b t).set t (((((zc b t).get (t-16))+((zc b t).get (t-7)))+(((rr ((zc b t).get (t-15)) 7)^^^(rr ((zc b t).get (t-15)) 18))^^^(((zc b t).get (t-15))>>>UInt32.ofNat 3)))+(((rr ((zc b t).get (t-2)) 17)^^^(rr ((zc b t).get (t-2)) 19))^^^(((zc b t).get (t-2))>>>UInt32.ofNat 10)))) from zaG t (((((zc b t).get (t-16))+((zc b t).get (t-7)))+(((rr ((zc b t).get (t-15)) 7)^^^(rr ((zc b t).get (t-15)) 18))^^^(((zc b t).get (t-15))>>>UInt32.ofNat 3)))+(((rr ((zc b t).get (t-2)) 17)^^^(rr ((zc b t).get (t-2)) 19))^^^(((zc b t).get (t-2))>>>UInt32.ofNat 10)))] at hBw84
        refine ⟨.inl (by kernel_rfl), ?_⟩
        refine zL (zr (zb (ze (zd 1 [(32,(vI t))] (za (zB (some 33) .i64 (IntKind.i64.wrap (((t:Nat):Int)+((1:Nat):Int))) (t+1) (zF (by omega) (by omega) (by omega)) ?_))))))
        refine zd 1 [(8,(vI (t+1)))] (zg (zD ?_))
        have hK93:=(((((((((((((hA.ext hEw11)).ext hEw12)).ext hEw51)).ext hEw78)).ext hEw82)).ext hEw83)).chg hCw84 (fun hs=>by have h:_=_:=hs;omega))
        have hK94:=(((((((((((((hK.ext hEw11)).ext hEw12)).ext hEw51)).ext hEw78)).ext hEw82)).ext hEw83)).chg hCw84 (fun hs=>by have h:_=_:=hs;omega))
        have hK95:=(((((((((((((hZ4.ext hEw11)).ext hEw12)).ext hEw51)).ext hEw78)).ext hEw82)).ext hEw83)).chg hCw84 (fun hs=>by have h:_=_:=hs;omega))
        have hX21:Ext w w84:=(Ext.own ((((((hEl.trans hEw11).trans hEw12).trans hEw51).trans hEw78).trans hEw82).trans hEw83) hCw84 (by omega))
        refine zR (t+1) ?_ ?_
        ·exact ⟨by omega,hK93,by have hz:=hBw84;rwa [show (zc b t).set t _=zc b (t+1) from zaA (by omega) (by unfold zbq zbo;ac_rfl)] at hz,hK94,hK95,hX21⟩
        ·first | omega |(dsimp only;omega)
       ·refine zk (some 81) (zae ((zc b t).get (t-2)) 19 _ (by decide) (by decide)) ?_
        rintro _ w85 ⟨rfl,hEw85⟩
        have hzw85:=hEw85.size
        refine ⟨.inr (((((Chg.refl (fun k=>k=w7.heap.size) w12).trans hEw51.chg).trans hEw78.chg).trans hEw82.chg).trans hEw85.chg), ?_⟩
        refine zh (hw:=show Chg (fun k=>k=w7.heap.size) w12 w85 from (((((Chg.refl (fun k=>k=w7.heap.size) w12).trans hEw51.chg).trans hEw78.chg).trans hEw82.chg).trans hEw85.chg)) hT164 23 66845951 (some 82) (vW (((rr ((zc b t).get (t-2)) 17)^^^(rr ((zc b t).get (t-2)) 19)).toNat)) (zw .u32 _ (zZ (rr ((zc b t).get (t-2)) 17) (rr ((zc b t).get (t-2)) 19))) (zh (hw:=show Chg (fun k=>k=w7.heap.size) w12 w85 from (((((Chg.refl (fun k=>k=w7.heap.size) w12).trans hEw51.chg).trans hEw78.chg).trans hEw82.chg).trans hEw85.chg)) hT164 26 133954815 (some 85) (vW ((((rr ((zc b t).get (t-2)) 17)^^^(rr ((zc b t).get (t-2)) 19))^^^(((zc b t).get (t-2))>>>UInt32.ofNat 10)).toNat)) (zw .u32 _ (zZ ((rr ((zc b t).get (t-2)) 17)^^^(rr ((zc b t).get (t-2)) 19)) (((zc b t).get (t-2))>>>UInt32.ofNat 10))) (zu 8 133955071 (zi (some 67) (Instr.loadAt 28 (vP w7.heap.size (0+(t-7)*1))) (vW (((zc b t).get (t-7)).toNat)) (zo ((((hK89.ext hEw82)).ext hEw85).cell (zan (t-7) (by omega)))) ?_)))
        refine ⟨.inr (((((Chg.refl (fun k=>k=w7.heap.size) w12).trans hEw51.chg).trans hEw78.chg).trans hEw82.chg).trans hEw85.chg), ?_⟩
        refine zh (hw:=show Chg (fun k=>k=w7.heap.size) w12 w85 from (((((Chg.refl (fun k=>k=w7.heap.size) w12).trans hEw51.chg).trans hEw78.chg).trans hEw82.chg).trans hEw85.chg)) hT164 9 133955583 (some 68) (vW ((((zc b t).get (t-16))+((zc b t).get (t-7))).toNat)) (zw .u32 _ (zU ((zc b t).get (t-16)) ((zc b t).get (t-7)))) (zh (hw:=show Chg (fun k=>k=w7.heap.size) w12 w85 from (((((Chg.refl (fun k=>k=w7.heap.size) w12).trans hEw51.chg).trans hEw78.chg).trans hEw82.chg).trans hEw85.chg)) hT164 18 134217727 (some 77) (vW (((((zc b t).get (t-16))+((zc b t).get (t-7)))+(((rr ((zc b t).get (t-15)) 7)^^^(rr ((zc b t).get (t-15)) 18))^^^(((zc b t).get (t-15))>>>UInt32.ofNat 3))).toNat)) (zw .u32 _ (zU (((zc b t).get (t-16))+((zc b t).get (t-7))) (((rr ((zc b t).get (t-15)) 7)^^^(rr ((zc b t).get (t-15)) 18))^^^(((zc b t).get (t-15))>>>UInt32.ofNat 3)))) ?_)
        refine zh (hw:=show Chg (fun k=>k=w7.heap.size) w12 w85 from (((((Chg.refl (fun k=>k=w7.heap.size) w12).trans hEw51.chg).trans hEw78.chg).trans hEw82.chg).trans hEw85.chg)) hT164 27 268435455 (some 86) (vW ((((((zc b t).get (t-16))+((zc b t).get (t-7)))+(((rr ((zc b t).get (t-15)) 7)^^^(rr ((zc b t).get (t-15)) 18))^^^(((zc b t).get (t-15))>>>UInt32.ofNat 3)))+(((rr ((zc b t).get (t-2)) 17)^^^(rr ((zc b t).get (t-2)) 19))^^^(((zc b t).get (t-2))>>>UInt32.ofNat 10))).toNat)) (zw .u32 _ (zU ((((zc b t).get (t-16))+((zc b t).get (t-7)))+(((rr ((zc b t).get (t-15)) 7)^^^(rr ((zc b t).get (t-15)) 18))^^^(((zc b t).get (t-15))>>>UInt32.ofNat 3))) (((rr ((zc b t).get (t-2)) 17)^^^(rr ((zc b t).get (t-2)) 19))^^^(((zc b t).get (t-2))>>>UInt32.ofNat 10)))) (zh (hw:=show Chg (fun k=>k=w7.heap.size) w12 w85 from (((((Chg.refl (fun k=>k=w7.heap.size) w12).trans hEw51.chg).trans hEw78.chg).trans hEw82.chg).trans hEw85.chg)) hT164 28 536870911 (some 87) (vP w7.heap.size (0+t*1)) (zm (Instr.indexAt 149 (vP w7.heap.size 0) (vI t)) (fun w' hC=>zW (E:=28) (sz:=1) (m:=64) (by omega))) ?_)
        refine zu 29 1073741823 (zY 28 w7.heap.size (0+t*1) 149 (vW ((((((zc b t).get (t-16))+((zc b t).get (t-7)))+(((rr ((zc b t).get (t-15)) 7)^^^(rr ((zc b t).get (t-15)) 18))^^^(((zc b t).get (t-15))>>>UInt32.ofNat 3)))+(((rr ((zc b t).get (t-2)) 17)^^^(rr ((zc b t).get (t-2)) 19))^^^(((zc b t).get (t-2))>>>UInt32.ofNat 10))).toNat)) (zV (zc b t)) (((hK89.ext hEw82)).ext hEw85) (by first | decide |(simp;done)|(simp;omega)) ?_)
        intro w86 hBw86 hCw86
        have hzw86:=hCw86.size
        rw [show ((zV (zc b t)).set (0+t*1) (vW ((((((zc b t).get (t-16))+((zc b t).get (t-7)))+(((rr ((zc b t).get (t-15)) 7)^^^(rr ((zc b t).get (t-15)) 18))^^^(((zc b t).get (t-15))>>>UInt32.ofNat 3)))+(((rr ((zc b t).get (t-2)) 17)^^^(rr ((zc b t).get (t-2)) 19))^^^(((zc b t).get (t-2))>>>UInt32.ofNat 10))).toNat)):List Value)=zV ((zc b t).set t (((((zc b t).get (t-16))+((zc b t).get (t-7)))+(((rr ((zc b t).get (t-15)) 7)^^^(rr ((zc b t).get (t-15)) 18))^^^(((zc b t).get (t-15))>>>UInt32.ofNat 3)))+(((rr ((zc b t).get (t-2)) 17)^^^(rr ((zc b t).get (t-2)) 19))^^^(((zc b t).get (t-2))>>>UInt32.ofNat 10)))) from zaG t (((((zc b t).get (t-16))+((zc b t).get (t-7)))+(((rr ((zc b t).get (t-15)) 7)^^^(rr ((zc b t).get (t-15)) 18))^^^(((zc b t).get (t-15))>>>UInt32.ofNat 3)))+(((rr ((zc b t).get (t-2)) 17)^^^(rr ((zc b t).get (t-2)) 19))^^^(((zc b t).get (t-2))>>>UInt32.ofNat 10)))] at hBw86
        refine ⟨.inl (by kernel_rfl), ?_⟩
        refine zL (zr (zb (ze (zd 1 [(32,(vI t))] (za (zB (some 33) .i64 (IntKind.i64.wrap (((t:Nat):Int)+((1:Nat):Int))) (t+1) (zF (by omega) (by omega) (by omega)) ?_))))))
        refine zd 1 [(8,(vI (t+1)))] (zg (zD ?_))
        have hK96:=(((((((((((((hA.ext hEw11)).ext hEw12)).ext hEw51)).ext hEw78)).ext hEw82)).ext hEw85)).chg hCw86 (fun hs=>by have h:_=_:=hs;omega))
        have hK97:=(((((((((((((hK.ext hEw11)).ext hEw12)).ext hEw51)).ext hEw78)).ext hEw82)).ext hEw85)).chg hCw86 (fun hs=>by have h:_=_:=hs;omega))
        have hK98:=(((((((((((((hZ4.ext hEw11)).ext hEw12)).ext hEw51)).ext hEw78)).ext hEw82)).ext hEw85)).chg hCw86 (fun hs=>by have h:_=_:=hs;omega))
        have hX22:Ext w w86:=(Ext.own ((((((hEl.trans hEw11).trans hEw12).trans hEw51).trans hEw78).trans hEw82).trans hEw85) hCw86 (by omega))
        refine zR (t+1) ?_ ?_
        ·exact ⟨by omega,hK96,by have hz:=hBw86;rwa [show (zc b t).set t _=zc b (t+1) from zaA (by omega) (by unfold zbq zbo;ac_rfl)] at hz,hK97,hK98,hX22⟩
        ·first | omega |(dsimp only;omega)
     ·have hK99:=(((((((hB.ext hEw11)).ext hEw12)).ext hEw51)).ext hEw78)
      refine zi (some 67) (Instr.loadAt 28 (vP w7.heap.size (0+(t-7)*1))) (vW (((zc b t).get (t-7)).toNat)) (zo (hK99.cell (zan (t-7) (by omega)))) (⟨.inr (((Chg.refl (fun k=>k=w7.heap.size) w12).trans hEw51.chg).trans hEw78.chg), ?_⟩)
      refine zaB 4 20 53214719 54263279 ?_ ?_
      ·refine zi (some 63) (Instr.loadAt 28 (vP w7.heap.size (0+(t-16)*1))) (vW (((zc b t).get (t-16)).toNat)) (zo (hK99.cell (zan (t-16) (by omega)))) (⟨.inr (((Chg.refl (fun k=>k=w7.heap.size) w12).trans hEw51.chg).trans hEw78.chg), ?_⟩)
       refine zh (hw:=show Chg (fun k=>k=w7.heap.size) w12 w78 from (((Chg.refl (fun k=>k=w7.heap.size) w12).trans hEw51.chg).trans hEw78.chg)) hT164 9 53215231 (some 68) (vW ((((zc b t).get (t-16))+((zc b t).get (t-7))).toNat)) (zw .u32 _ (zU ((zc b t).get (t-16)) ((zc b t).get (t-7)))) (zh (hw:=show Chg (fun k=>k=w7.heap.size) w12 w78 from (((Chg.refl (fun k=>k=w7.heap.size) w12).trans hEw51.chg).trans hEw78.chg)) hT164 18 53477375 (some 77) (vW (((((zc b t).get (t-16))+((zc b t).get (t-7)))+(((rr ((zc b t).get (t-15)) 7)^^^(rr ((zc b t).get (t-15)) 18))^^^(((zc b t).get (t-15))>>>UInt32.ofNat 3))).toNat)) (zw .u32 _ (zU (((zc b t).get (t-16))+((zc b t).get (t-7))) (((rr ((zc b t).get (t-15)) 7)^^^(rr ((zc b t).get (t-15)) 18))^^^(((zc b t).get (t-15))>>>UInt32.ofNat 3)))) (zu 20 54525951 (zk (some 79) (zae ((zc b t).get (t-2)) 17 _ (by decide) (by decide)) ?_)))
       rintro _ w87 ⟨rfl,hEw87⟩
       have hzw87:=hEw87.size
       refine ⟨.inr ((((Chg.refl (fun k=>k=w7.heap.size) w12).trans hEw51.chg).trans hEw78.chg).trans hEw87.chg), ?_⟩
       refine zu 22 58720255 (zk (some 81) (zae ((zc b t).get (t-2)) 19 _ (by decide) (by decide)) ?_)
       rintro _ w88 ⟨rfl,hEw88⟩
       have hzw88:=hEw88.size
       refine ⟨.inr (((((Chg.refl (fun k=>k=w7.heap.size) w12).trans hEw51.chg).trans hEw78.chg).trans hEw87.chg).trans hEw88.chg), ?_⟩
       refine zh (hw:=show Chg (fun k=>k=w7.heap.size) w12 w88 from (((((Chg.refl (fun k=>k=w7.heap.size) w12).trans hEw51.chg).trans hEw78.chg).trans hEw87.chg).trans hEw88.chg)) hT164 23 67108863 (some 82) (vW (((rr ((zc b t).get (t-2)) 17)^^^(rr ((zc b t).get (t-2)) 19)).toNat)) (zw .u32 _ (zZ (rr ((zc b t).get (t-2)) 17) (rr ((zc b t).get (t-2)) 19))) (zh (hw:=show Chg (fun k=>k=w7.heap.size) w12 w88 from (((((Chg.refl (fun k=>k=w7.heap.size) w12).trans hEw51.chg).trans hEw78.chg).trans hEw87.chg).trans hEw88.chg)) hT164 26 134217727 (some 85) (vW ((((rr ((zc b t).get (t-2)) 17)^^^(rr ((zc b t).get (t-2)) 19))^^^(((zc b t).get (t-2))>>>UInt32.ofNat 10)).toNat)) (zw .u32 _ (zZ ((rr ((zc b t).get (t-2)) 17)^^^(rr ((zc b t).get (t-2)) 19)) (((zc b t).get (t-2))>>>UInt32.ofNat 10))) ?_)
       refine zh (hw:=show Chg (fun k=>k=w7.heap.size) w12 w88 from (((((Chg.refl (fun k=>k=w7.heap.size) w12).trans hEw51.chg).trans hEw78.chg).trans hEw87.chg).trans hEw88.chg)) hT164 27 268435455 (some 86) (vW ((((((zc b t).get (t-16))+((zc b t).get (t-7)))+(((rr ((zc b t).get (t-15)) 7)^^^(rr ((zc b t).get (t-15)) 18))^^^(((zc b t).get (t-15))>>>UInt32.ofNat 3)))+(((rr ((zc b t).get (t-2)) 17)^^^(rr ((zc b t).get (t-2)) 19))^^^(((zc b t).get (t-2))>>>UInt32.ofNat 10))).toNat)) (zw .u32 _ (zU ((((zc b t).get (t-16))+((zc b t).get (t-7)))+(((rr ((zc b t).get (t-15)) 7)^^^(rr ((zc b t).get (t-15)) 18))^^^(((zc b t).get (t-15))>>>UInt32.ofNat 3))) (((rr ((zc b t).get (t-2)) 17)^^^(rr ((zc b t).get (t-2)) 19))^^^(((zc b t).get (t-2))>>>UInt32.ofNat 10)))) (zh (hw:=show Chg (fun k=>k=w7.heap.size) w12 w88 from (((((Chg.refl (fun k=>k=w7.heap.size) w12).trans hEw51.chg).trans hEw78.chg).trans hEw87.chg).trans hEw88.chg)) hT164 28 536870911 (some 87) (vP w7.heap.size (0+t*1)) (zm (Instr.indexAt 149 (vP w7.heap.size 0) (vI t)) (fun w' hC=>zW (E:=28) (sz:=1) (m:=64) (by omega))) ?_)
       refine zu 29 1073741823 (zY 28 w7.heap.size (0+t*1) 149 (vW ((((((zc b t).get (t-16))+((zc b t).get (t-7)))+(((rr ((zc b t).get (t-15)) 7)^^^(rr ((zc b t).get (t-15)) 18))^^^(((zc b t).get (t-15))>>>UInt32.ofNat 3)))+(((rr ((zc b t).get (t-2)) 17)^^^(rr ((zc b t).get (t-2)) 19))^^^(((zc b t).get (t-2))>>>UInt32.ofNat 10))).toNat)) (zV (zc b t)) (((hK99.ext hEw87)).ext hEw88) (by first | decide |(simp;done)|(simp;omega)) ?_)
       intro w89 hBw89 hCw89
       have hzw89:=hCw89.size
       rw [show ((zV (zc b t)).set (0+t*1) (vW ((((((zc b t).get (t-16))+((zc b t).get (t-7)))+(((rr ((zc b t).get (t-15)) 7)^^^(rr ((zc b t).get (t-15)) 18))^^^(((zc b t).get (t-15))>>>UInt32.ofNat 3)))+(((rr ((zc b t).get (t-2)) 17)^^^(rr ((zc b t).get (t-2)) 19))^^^(((zc b t).get (t-2))>>>UInt32.ofNat 10))).toNat)):List Value)=zV ((zc b t).set t (((((zc b t).get (t-16))+((zc b t).get (t-7)))+(((rr ((zc b t).get (t-15)) 7)^^^(rr ((zc b t).get (t-15)) 18))^^^(((zc b t).get (t-15))>>>UInt32.ofNat 3)))+(((rr ((zc b t).get (t-2)) 17)^^^(rr ((zc b t).get (t-2)) 19))^^^(((zc b t).get (t-2))>>>UInt32.ofNat 10)))) from zaG t (((((zc b t).get (t-16))+((zc b t).get (t-7)))+(((rr ((zc b t).get (t-15)) 7)^^^(rr ((zc b t).get (t-15)) 18))^^^(((zc b t).get (t-15))>>>UInt32.ofNat 3)))+(((rr ((zc b t).get (t-2)) 17)^^^(rr ((zc b t).get (t-2)) 19))^^^(((zc b t).get (t-2))>>>UInt32.ofNat 10)))] at hBw89
       refine ⟨.inl (by kernel_rfl), ?_⟩
       refine zL (zr (zb (ze (zd 1 [(32,(vI t))] (za (zB (some 33) .i64 (IntKind.i64.wrap (((t:Nat):Int)+((1:Nat):Int))) (t+1) (zF (by omega) (by omega) (by omega)) ?_))))))
       refine zd 1 [(8,(vI (t+1)))] (zg (zD ?_))
       have hK100:=(((((((((((((hA.ext hEw11)).ext hEw12)).ext hEw51)).ext hEw78)).ext hEw87)).ext hEw88)).chg hCw89 (fun hs=>by have h:_=_:=hs;omega))
       have hK101:=(((((((((((((hK.ext hEw11)).ext hEw12)).ext hEw51)).ext hEw78)).ext hEw87)).ext hEw88)).chg hCw89 (fun hs=>by have h:_=_:=hs;omega))
       have hK102:=(((((((((((((hZ4.ext hEw11)).ext hEw12)).ext hEw51)).ext hEw78)).ext hEw87)).ext hEw88)).chg hCw89 (fun hs=>by have h:_=_:=hs;omega))
       have hX23:Ext w w89:=(Ext.own ((((((hEl.trans hEw11).trans hEw12).trans hEw51).trans hEw78).trans hEw87).trans hEw88) hCw89 (by omega))
       refine zR (t+1) ?_ ?_
       ·exact ⟨by omega,hK100,by have hz:=hBw89;rwa [show (zc b t).set t _=zc b (t+1) from zaA (by omega) (by unfold zbq zbo;ac_rfl)] at hz,hK101,hK102,hX23⟩
       ·first | omega |(dsimp only;omega)
      ·refine zk (some 79) (zae ((zc b t).get (t-2)) 17 _ (by decide) (by decide)) ?_
       rintro _ w90 ⟨rfl,hEw90⟩
       have hzw90:=hEw90.size
       refine ⟨.inr ((((Chg.refl (fun k=>k=w7.heap.size) w12).trans hEw51.chg).trans hEw78.chg).trans hEw90.chg), ?_⟩
       refine zaB 4 22 54263295 58457583 ?_ ?_
       ·refine zi (some 63) (Instr.loadAt 28 (vP w7.heap.size (0+(t-16)*1))) (vW (((zc b t).get (t-16)).toNat)) (zo ((hK99.ext hEw90).cell (zan (t-16) (by omega)))) (⟨.inr ((((Chg.refl (fun k=>k=w7.heap.size) w12).trans hEw51.chg).trans hEw78.chg).trans hEw90.chg), ?_⟩)
        refine zh (hw:=show Chg (fun k=>k=w7.heap.size) w12 w90 from ((((Chg.refl (fun k=>k=w7.heap.size) w12).trans hEw51.chg).trans hEw78.chg).trans hEw90.chg)) hT164 9 54263807 (some 68) (vW ((((zc b t).get (t-16))+((zc b t).get (t-7))).toNat)) (zw .u32 _ (zU ((zc b t).get (t-16)) ((zc b t).get (t-7)))) (zh (hw:=show Chg (fun k=>k=w7.heap.size) w12 w90 from ((((Chg.refl (fun k=>k=w7.heap.size) w12).trans hEw51.chg).trans hEw78.chg).trans hEw90.chg)) hT164 18 54525951 (some 77) (vW (((((zc b t).get (t-16))+((zc b t).get (t-7)))+(((rr ((zc b t).get (t-15)) 7)^^^(rr ((zc b t).get (t-15)) 18))^^^(((zc b t).get (t-15))>>>UInt32.ofNat 3))).toNat)) (zw .u32 _ (zU (((zc b t).get (t-16))+((zc b t).get (t-7))) (((rr ((zc b t).get (t-15)) 7)^^^(rr ((zc b t).get (t-15)) 18))^^^(((zc b t).get (t-15))>>>UInt32.ofNat 3)))) (zu 22 58720255 (zk (some 81) (zae ((zc b t).get (t-2)) 19 _ (by decide) (by decide)) ?_)))
        rintro _ w91 ⟨rfl,hEw91⟩
        have hzw91:=hEw91.size
        refine ⟨.inr (((((Chg.refl (fun k=>k=w7.heap.size) w12).trans hEw51.chg).trans hEw78.chg).trans hEw90.chg).trans hEw91.chg), ?_⟩
        refine zh (hw:=show Chg (fun k=>k=w7.heap.size) w12 w91 from (((((Chg.refl (fun k=>k=w7.heap.size) w12).trans hEw51.chg).trans hEw78.chg).trans hEw90.chg).trans hEw91.chg)) hT164 23 67108863 (some 82) (vW (((rr ((zc b t).get (t-2)) 17)^^^(rr ((zc b t).get (t-2)) 19)).toNat)) (zw .u32 _ (zZ (rr ((zc b t).get (t-2)) 17) (rr ((zc b t).get (t-2)) 19))) (zh (hw:=show Chg (fun k=>k=w7.heap.size) w12 w91 from (((((Chg.refl (fun k=>k=w7.heap.size) w12).trans hEw51.chg).trans hEw78.chg).trans hEw90.chg).trans hEw91.chg)) hT164 26 134217727 (some 85) (vW ((((rr ((zc b t).get (t-2)) 17)^^^(rr ((zc b t).get (t-2)) 19))^^^(((zc b t).get (t-2))>>>UInt32.ofNat 10)).toNat)) (zw .u32 _ (zZ ((rr ((zc b t).get (t-2)) 17)^^^(rr ((zc b t).get (t-2)) 19)) (((zc b t).get (t-2))>>>UInt32.ofNat 10))) ?_)
        refine zh (hw:=show Chg (fun k=>k=w7.heap.size) w12 w91 from (((((Chg.refl (fun k=>k=w7.heap.size) w12).trans hEw51.chg).trans hEw78.chg).trans hEw90.chg).trans hEw91.chg)) hT164 27 268435455 (some 86) (vW ((((((zc b t).get (t-16))+((zc b t).get (t-7)))+(((rr ((zc b t).get (t-15)) 7)^^^(rr ((zc b t).get (t-15)) 18))^^^(((zc b t).get (t-15))>>>UInt32.ofNat 3)))+(((rr ((zc b t).get (t-2)) 17)^^^(rr ((zc b t).get (t-2)) 19))^^^(((zc b t).get (t-2))>>>UInt32.ofNat 10))).toNat)) (zw .u32 _ (zU ((((zc b t).get (t-16))+((zc b t).get (t-7)))+(((rr ((zc b t).get (t-15)) 7)^^^(rr ((zc b t).get (t-15)) 18))^^^(((zc b t).get (t-15))>>>UInt32.ofNat 3))) (((rr ((zc b t).get (t-2)) 17)^^^(rr ((zc b t).get (t-2)) 19))^^^(((zc b t).get (t-2))>>>UInt32.ofNat 10)))) (zh (hw:=show Chg (fun k=>k=w7.heap.size) w12 w91 from (((((Chg.refl (fun k=>k=w7.heap.size) w12).trans hEw51.chg).trans hEw78.chg).trans hEw90.chg).trans hEw91.chg)) hT164 28 536870911 (some 87) (vP w7.heap.size (0+t*1)) (zm (Instr.indexAt 149 (vP w7.heap.size 0) (vI t)) (fun w' hC=>zW (E:=28) (sz:=1) (m:=64) (by omega))) ?_)
        refine zu 29 1073741823 (zY 28 w7.heap.size (0+t*1) 149 (vW ((((((zc b t).get (t-16))+((zc b t).get (t-7)))+(((rr ((zc b t).get (t-15)) 7)^^^(rr ((zc b t).get (t-15)) 18))^^^(((zc b t).get (t-15))>>>UInt32.ofNat 3)))+(((rr ((zc b t).get (t-2)) 17)^^^(rr ((zc b t).get (t-2)) 19))^^^(((zc b t).get (t-2))>>>UInt32.ofNat 10))).toNat)) (zV (zc b t)) (((hK99.ext hEw90)).ext hEw91) (by first | decide |(simp;done)|(simp;omega)) ?_)
        intro w92 hBw92 hCw92
        have hzw92:=hCw92.size
        rw [show ((zV (zc b t)).set (0+t*1) (vW ((((((zc b t).get (t-16))+((zc b t).get (t-7)))+(((rr ((zc b t).get (t-15)) 7)^^^(rr ((zc b t).get (t-15)) 18))^^^(((zc b t).get (t-15))>>>UInt32.ofNat 3)))+(((rr ((zc b t).get (t-2)) 17)^^^(rr ((zc b t).get (t-2)) 19))^^^(((zc b t).get (t-2))>>>UInt32.ofNat 10))).toNat)):List Value)=zV ((zc b t).set t (((((zc b t).get (t-16))+((zc b t).get (t-7)))+(((rr ((zc b t).get (t-15)) 7)^^^(rr ((zc b t).get (t-15)) 18))^^^(((zc b t).get (t-15))>>>UInt32.ofNat 3)))+(((rr ((zc b t).get (t-2)) 17)^^^(rr ((zc b t).get (t-2)) 19))^^^(((zc b t).get (t-2))>>>UInt32.ofNat 10)))) from zaG t (((((zc b t).get (t-16))+((zc b t).get (t-7)))+(((rr ((zc b t).get (t-15)) 7)^^^(rr ((zc b t).get (t-15)) 18))^^^(((zc b t).get (t-15))>>>UInt32.ofNat 3)))+(((rr ((zc b t).get (t-2)) 17)^^^(rr ((zc b t).get (t-2)) 19))^^^(((zc b t).get (t-2))>>>UInt32.ofNat 10)))] at hBw92
        refine ⟨.inl (by kernel_rfl), ?_⟩
        refine zL (zr (zb (ze (zd 1 [(32,(vI t))] (za (zB (some 33) .i64 (IntKind.i64.wrap (((t:Nat):Int)+((1:Nat):Int))) (t+1) (zF (by omega) (by omega) (by omega)) ?_))))))
        refine zd 1 [(8,(vI (t+1)))] (zg (zD ?_))
        have hK103:=(((((((((((((hA.ext hEw11)).ext hEw12)).ext hEw51)).ext hEw78)).ext hEw90)).ext hEw91)).chg hCw92 (fun hs=>by have h:_=_:=hs;omega))
        have hK104:=(((((((((((((hK.ext hEw11)).ext hEw12)).ext hEw51)).ext hEw78)).ext hEw90)).ext hEw91)).chg hCw92 (fun hs=>by have h:_=_:=hs;omega))
        have hK105:=(((((((((((((hZ4.ext hEw11)).ext hEw12)).ext hEw51)).ext hEw78)).ext hEw90)).ext hEw91)).chg hCw92 (fun hs=>by have h:_=_:=hs;omega))
        have hX24:Ext w w92:=(Ext.own ((((((hEl.trans hEw11).trans hEw12).trans hEw51).trans hEw78).trans hEw90).trans hEw91) hCw92 (by omega))
        refine zR (t+1) ?_ ?_
        ·exact ⟨by omega,hK103,by have hz:=hBw92;rwa [show (zc b t).set t _=zc b (t+1) from zaA (by omega) (by unfold zbq zbo;ac_rfl)] at hz,hK104,hK105,hX24⟩
        ·first | omega |(dsimp only;omega)
       ·refine zk (some 81) (zae ((zc b t).get (t-2)) 19 _ (by decide) (by decide)) ?_
        rintro _ w93 ⟨rfl,hEw93⟩
        have hzw93:=hEw93.size
        refine ⟨.inr (((((Chg.refl (fun k=>k=w7.heap.size) w12).trans hEw51.chg).trans hEw78.chg).trans hEw90.chg).trans hEw93.chg), ?_⟩
        refine zh (hw:=show Chg (fun k=>k=w7.heap.size) w12 w93 from (((((Chg.refl (fun k=>k=w7.heap.size) w12).trans hEw51.chg).trans hEw78.chg).trans hEw90.chg).trans hEw93.chg)) hT164 23 66846191 (some 82) (vW (((rr ((zc b t).get (t-2)) 17)^^^(rr ((zc b t).get (t-2)) 19)).toNat)) (zw .u32 _ (zZ (rr ((zc b t).get (t-2)) 17) (rr ((zc b t).get (t-2)) 19))) (zh (hw:=show Chg (fun k=>k=w7.heap.size) w12 w93 from (((((Chg.refl (fun k=>k=w7.heap.size) w12).trans hEw51.chg).trans hEw78.chg).trans hEw90.chg).trans hEw93.chg)) hT164 26 133955055 (some 85) (vW ((((rr ((zc b t).get (t-2)) 17)^^^(rr ((zc b t).get (t-2)) 19))^^^(((zc b t).get (t-2))>>>UInt32.ofNat 10)).toNat)) (zw .u32 _ (zZ ((rr ((zc b t).get (t-2)) 17)^^^(rr ((zc b t).get (t-2)) 19)) (((zc b t).get (t-2))>>>UInt32.ofNat 10))) (zu 4 133955071 (zi (some 63) (Instr.loadAt 28 (vP w7.heap.size (0+(t-16)*1))) (vW (((zc b t).get (t-16)).toNat)) (zo ((((hK99.ext hEw90)).ext hEw93).cell (zan (t-16) (by omega)))) ?_)))
        refine ⟨.inr (((((Chg.refl (fun k=>k=w7.heap.size) w12).trans hEw51.chg).trans hEw78.chg).trans hEw90.chg).trans hEw93.chg), ?_⟩
        refine zh (hw:=show Chg (fun k=>k=w7.heap.size) w12 w93 from (((((Chg.refl (fun k=>k=w7.heap.size) w12).trans hEw51.chg).trans hEw78.chg).trans hEw90.chg).trans hEw93.chg)) hT164 9 133955583 (some 68) (vW ((((zc b t).get (t-16))+((zc b t).get (t-7))).toNat)) (zw .u32 _ (zU ((zc b t).get (t-16)) ((zc b t).get (t-7)))) (zh (hw:=show Chg (fun k=>k=w7.heap.size) w12 w93 from (((((Chg.refl (fun k=>k=w7.heap.size) w12).trans hEw51.chg).trans hEw78.chg).trans hEw90.chg).trans hEw93.chg)) hT164 18 134217727 (some 77) (vW (((((zc b t).get (t-16))+((zc b t).get (t-7)))+(((rr ((zc b t).get (t-15)) 7)^^^(rr ((zc b t).get (t-15)) 18))^^^(((zc b t).get (t-15))>>>UInt32.ofNat 3))).toNat)) (zw .u32 _ (zU (((zc b t).get (t-16))+((zc b t).get (t-7))) (((rr ((zc b t).get (t-15)) 7)^^^(rr ((zc b t).get (t-15)) 18))^^^(((zc b t).get (t-15))>>>UInt32.ofNat 3)))) ?_)
        refine zh (hw:=show Chg (fun k=>k=w7.heap.size) w12 w93 from (((((Chg.refl (fun k=>k=w7.heap.size) w12).trans hEw51.chg).trans hEw78.chg).trans hEw90.chg).trans hEw93.chg)) hT164 27 268435455 (some 86) (vW ((((((zc b t).get (t-16))+((zc b t).get (t-7)))+(((rr ((zc b t).get (t-15)) 7)^^^(rr ((zc b t).get (t-15)) 18))^^^(((zc b t).get (t-15))>>>UInt32.ofNat 3)))+(((rr ((zc b t).get (t-2)) 17)^^^(rr ((zc b t).get (t-2)) 19))^^^(((zc b t).get (t-2))>>>UInt32.ofNat 10))).toNat)) (zw .u32 _ (zU ((((zc b t).get (t-16))+((zc b t).get (t-7)))+(((rr ((zc b t).get (t-15)) 7)^^^(rr ((zc b t).get (t-15)) 18))^^^(((zc b t).get (t-15))>>>UInt32.ofNat 3))) (((rr ((zc b t).get (t-2)) 17)^^^(rr ((zc b t).get (t-2)) 19))^^^(((zc b t).get (t-2))>>>UInt32.ofNat 10)))) (zh (hw:=show Chg (fun k=>k=w7.heap.size) w12 w93 from (((((Chg.refl (fun k=>k=w7.heap.size) w12).trans hEw51.chg).trans hEw78.chg).trans hEw90.chg).trans hEw93.chg)) hT164 28 536870911 (some 87) (vP w7.heap.size (0+t*1)) (zm (Instr.indexAt 149 (vP w7.heap.size 0) (vI t)) (fun w' hC=>zW (E:=28) (sz:=1) (m:=64) (by omega))) ?_)
        refine zu 29 1073741823 (zY 28 w7.heap.size (0+t*1) 149 (vW ((((((zc b t).get (t-16))+((zc b t).get (t-7)))+(((rr ((zc b t).get (t-15)) 7)^^^(rr ((zc b t).get (t-15)) 18))^^^(((zc b t).get (t-15))>>>UInt32.ofNat 3)))+(((rr ((zc b t).get (t-2)) 17)^^^(rr ((zc b t).get (t-2)) 19))^^^(((zc b t).get (t-2))>>>UInt32.ofNat 10))).toNat)) (zV (zc b t)) (((hK99.ext hEw90)).ext hEw93) (by first | decide |(simp;done)|(simp;omega)) ?_)
        intro w94 hBw94 hCw94
        have hzw94:=hCw94.size
        rw [show ((zV (zc b t)).set (0+t*1) (vW ((((((zc b t).get (t-16))+((zc b t).get (t-7)))+(((rr ((zc b t).get (t-15)) 7)^^^(rr ((zc b t).get (t-15)) 18))^^^(((zc b t).get (t-15))>>>UInt32.ofNat 3)))+(((rr ((zc b t).get (t-2)) 17)^^^(rr ((zc b t).get (t-2)) 19))^^^(((zc b t).get (t-2))>>>UInt32.ofNat 10))).toNat)):List Value)=zV ((zc b t).set t (((((zc b t).get (t-16))+((zc b t).get (t-7)))+(((rr ((zc b t).get (t-15)) 7)^^^(rr ((zc b t).get (t-15)) 18))^^^(((zc b t).get (t-15))>>>UInt32.ofNat 3)))+(((rr ((zc b t).get (t-2)) 17)^^^(rr ((zc b t).get (t-2)) 19))^^^(((zc b t).get (t-2))>>>UInt32.ofNat 10)))) from zaG t (((((zc b t).get (t-16))+((zc b t).get (t-7)))+(((rr ((zc b t).get (t-15)) 7)^^^(rr ((zc b t).get (t-15)) 18))^^^(((zc b t).get (t-15))>>>UInt32.ofNat 3)))+(((rr ((zc b t).get (t-2)) 17)^^^(rr ((zc b t).get (t-2)) 19))^^^(((zc b t).get (t-2))>>>UInt32.ofNat 10)))] at hBw94
        refine ⟨.inl (by kernel_rfl), ?_⟩
        refine zL (zr (zb (ze (zd 1 [(32,(vI t))] (za (zB (some 33) .i64 (IntKind.i64.wrap (((t:Nat):Int)+((1:Nat):Int))) (t+1) (zF (by omega) (by omega) (by omega)) ?_))))))
        refine zd 1 [(8,(vI (t+1)))] (zg (zD ?_))
        have hK106:=(((((((((((((hA.ext hEw11)).ext hEw12)).ext hEw51)).ext hEw78)).ext hEw90)).ext hEw93)).chg hCw94 (fun hs=>by have h:_=_:=hs;omega))
        have hK107:=(((((((((((((hK.ext hEw11)).ext hEw12)).ext hEw51)).ext hEw78)).ext hEw90)).ext hEw93)).chg hCw94 (fun hs=>by have h:_=_:=hs;omega))
        have hK108:=(((((((((((((hZ4.ext hEw11)).ext hEw12)).ext hEw51)).ext hEw78)).ext hEw90)).ext hEw93)).chg hCw94 (fun hs=>by have h:_=_:=hs;omega))
        have hX25:Ext w w94:=(Ext.own ((((((hEl.trans hEw11).trans hEw12).trans hEw51).trans hEw78).trans hEw90).trans hEw93) hCw94 (by omega))
        refine zR (t+1) ?_ ?_
        ·exact ⟨by omega,hK106,by have hz:=hBw94;rwa [show (zc b t).set t _=zc b (t+1) from zaA (by omega) (by unfold zbq zbo;ac_rfl)] at hz,hK107,hK108,hX25⟩
        ·first | omega |(dsimp only;omega)
     ·refine zk (some 79) (zae ((zc b t).get (t-2)) 17 _ (by decide) (by decide)) ?_
      rintro _ w95 ⟨rfl,hEw95⟩
      have hzw95:=hEw95.size
      refine ⟨.inr ((((Chg.refl (fun k=>k=w7.heap.size) w12).trans hEw51.chg).trans hEw78.chg).trans hEw95.chg), ?_⟩
      refine zex 4 8 22 54263039 54263279 58457327 ?_ ?_ ?_
      ·have hK109:=(((((((((hB.ext hEw11)).ext hEw12)).ext hEw51)).ext hEw78)).ext hEw95)
       refine zi (some 63) (Instr.loadAt 28 (vP w7.heap.size (0+(t-16)*1))) (vW (((zc b t).get (t-16)).toNat)) (zo (hK109.cell (zan (t-16) (by omega)))) (⟨.inr ((((Chg.refl (fun k=>k=w7.heap.size) w12).trans hEw51.chg).trans hEw78.chg).trans hEw95.chg), ?_⟩)
       refine zaB 8 22 54263295 58457343 ?_ ?_
       ·refine zi (some 67) (Instr.loadAt 28 (vP w7.heap.size (0+(t-7)*1))) (vW (((zc b t).get (t-7)).toNat)) (zo (hK109.cell (zan (t-7) (by omega)))) (⟨.inr ((((Chg.refl (fun k=>k=w7.heap.size) w12).trans hEw51.chg).trans hEw78.chg).trans hEw95.chg), ?_⟩)
        refine zh (hw:=show Chg (fun k=>k=w7.heap.size) w12 w95 from ((((Chg.refl (fun k=>k=w7.heap.size) w12).trans hEw51.chg).trans hEw78.chg).trans hEw95.chg)) hT164 9 54263807 (some 68) (vW ((((zc b t).get (t-16))+((zc b t).get (t-7))).toNat)) (zw .u32 _ (zU ((zc b t).get (t-16)) ((zc b t).get (t-7)))) (zh (hw:=show Chg (fun k=>k=w7.heap.size) w12 w95 from ((((Chg.refl (fun k=>k=w7.heap.size) w12).trans hEw51.chg).trans hEw78.chg).trans hEw95.chg)) hT164 18 54525951 (some 77) (vW (((((zc b t).get (t-16))+((zc b t).get (t-7)))+(((rr ((zc b t).get (t-15)) 7)^^^(rr ((zc b t).get (t-15)) 18))^^^(((zc b t).get (t-15))>>>UInt32.ofNat 3))).toNat)) (zw .u32 _ (zU (((zc b t).get (t-16))+((zc b t).get (t-7))) (((rr ((zc b t).get (t-15)) 7)^^^(rr ((zc b t).get (t-15)) 18))^^^(((zc b t).get (t-15))>>>UInt32.ofNat 3)))) (zu 22 58720255 (zk (some 81) (zae ((zc b t).get (t-2)) 19 _ (by decide) (by decide)) ?_)))
        rintro _ w96 ⟨rfl,hEw96⟩
        have hzw96:=hEw96.size
        refine ⟨.inr (((((Chg.refl (fun k=>k=w7.heap.size) w12).trans hEw51.chg).trans hEw78.chg).trans hEw95.chg).trans hEw96.chg), ?_⟩
        refine zh (hw:=show Chg (fun k=>k=w7.heap.size) w12 w96 from (((((Chg.refl (fun k=>k=w7.heap.size) w12).trans hEw51.chg).trans hEw78.chg).trans hEw95.chg).trans hEw96.chg)) hT164 23 67108863 (some 82) (vW (((rr ((zc b t).get (t-2)) 17)^^^(rr ((zc b t).get (t-2)) 19)).toNat)) (zw .u32 _ (zZ (rr ((zc b t).get (t-2)) 17) (rr ((zc b t).get (t-2)) 19))) (zh (hw:=show Chg (fun k=>k=w7.heap.size) w12 w96 from (((((Chg.refl (fun k=>k=w7.heap.size) w12).trans hEw51.chg).trans hEw78.chg).trans hEw95.chg).trans hEw96.chg)) hT164 26 134217727 (some 85) (vW ((((rr ((zc b t).get (t-2)) 17)^^^(rr ((zc b t).get (t-2)) 19))^^^(((zc b t).get (t-2))>>>UInt32.ofNat 10)).toNat)) (zw .u32 _ (zZ ((rr ((zc b t).get (t-2)) 17)^^^(rr ((zc b t).get (t-2)) 19)) (((zc b t).get (t-2))>>>UInt32.ofNat 10))) ?_)
        refine zh (hw:=show Chg (fun k=>k=w7.heap.size) w12 w96 from (((((Chg.refl (fun k=>k=w7.heap.size) w12).trans hEw51.chg).trans hEw78.chg).trans hEw95.chg).trans hEw96.chg)) hT164 27 268435455 (some 86) (vW ((((((zc b t).get (t-16))+((zc b t).get (t-7)))+(((rr ((zc b t).get (t-15)) 7)^^^(rr ((zc b t).get (t-15)) 18))^^^(((zc b t).get (t-15))>>>UInt32.ofNat 3)))+(((rr ((zc b t).get (t-2)) 17)^^^(rr ((zc b t).get (t-2)) 19))^^^(((zc b t).get (t-2))>>>UInt32.ofNat 10))).toNat)) (zw .u32 _ (zU ((((zc b t).get (t-16))+((zc b t).get (t-7)))+(((rr ((zc b t).get (t-15)) 7)^^^(rr ((zc b t).get (t-15)) 18))^^^(((zc b t).get (t-15))>>>UInt32.ofNat 3))) (((rr ((zc b t).get (t-2)) 17)^^^(rr ((zc b t).get (t-2)) 19))^^^(((zc b t).get (t-2))>>>UInt32.ofNat 10)))) (zh (hw:=show Chg (fun k=>k=w7.heap.size) w12 w96 from (((((Chg.refl (fun k=>k=w7.heap.size) w12).trans hEw51.chg).trans hEw78.chg).trans hEw95.chg).trans hEw96.chg)) hT164 28 536870911 (some 87) (vP w7.heap.size (0+t*1)) (zm (Instr.indexAt 149 (vP w7.heap.size 0) (vI t)) (fun w' hC=>zW (E:=28) (sz:=1) (m:=64) (by omega))) ?_)
        refine zu 29 1073741823 (zY 28 w7.heap.size (0+t*1) 149 (vW ((((((zc b t).get (t-16))+((zc b t).get (t-7)))+(((rr ((zc b t).get (t-15)) 7)^^^(rr ((zc b t).get (t-15)) 18))^^^(((zc b t).get (t-15))>>>UInt32.ofNat 3)))+(((rr ((zc b t).get (t-2)) 17)^^^(rr ((zc b t).get (t-2)) 19))^^^(((zc b t).get (t-2))>>>UInt32.ofNat 10))).toNat)) (zV (zc b t)) (hK109.ext hEw96) (by first | decide |(simp;done)|(simp;omega)) ?_)
        intro w97 hBw97 hCw97
        have hzw97:=hCw97.size
        rw [show ((zV (zc b t)).set (0+t*1) (vW ((((((zc b t).get (t-16))+((zc b t).get (t-7)))+(((rr ((zc b t).get (t-15)) 7)^^^(rr ((zc b t).get (t-15)) 18))^^^(((zc b t).get (t-15))>>>UInt32.ofNat 3)))+(((rr ((zc b t).get (t-2)) 17)^^^(rr ((zc b t).get (t-2)) 19))^^^(((zc b t).get (t-2))>>>UInt32.ofNat 10))).toNat)):List Value)=zV ((zc b t).set t (((((zc b t).get (t-16))+((zc b t).get (t-7)))+(((rr ((zc b t).get (t-15)) 7)^^^(rr ((zc b t).get (t-15)) 18))^^^(((zc b t).get (t-15))>>>UInt32.ofNat 3)))+(((rr ((zc b t).get (t-2)) 17)^^^(rr ((zc b t).get (t-2)) 19))^^^(((zc b t).get (t-2))>>>UInt32.ofNat 10)))) from zaG t (((((zc b t).get (t-16))+((zc b t).get (t-7)))+(((rr ((zc b t).get (t-15)) 7)^^^(rr ((zc b t).get (t-15)) 18))^^^(((zc b t).get (t-15))>>>UInt32.ofNat 3)))+(((rr ((zc b t).get (t-2)) 17)^^^(rr ((zc b t).get (t-2)) 19))^^^(((zc b t).get (t-2))>>>UInt32.ofNat 10)))] at hBw97
        refine ⟨.inl (by kernel_rfl), ?_⟩
        refine zL (zr (zb (ze (zd 1 [(32,(vI t))] (za (zB (some 33) .i64 (IntKind.i64.wrap (((t:Nat):Int)+((1:Nat):Int))) (t+1) (zF (by omega) (by omega) (by omega)) ?_))))))
        refine zd 1 [(8,(vI (t+1)))] (zg (zD ?_))
        have hK110:=(((((((((((((hA.ext hEw11)).ext hEw12)).ext hEw51)).ext hEw78)).ext hEw95)).ext hEw96)).chg hCw97 (fun hs=>by have h:_=_:=hs;omega))
        have hK111:=(((((((((((((hK.ext hEw11)).ext hEw12)).ext hEw51)).ext hEw78)).ext hEw95)).ext hEw96)).chg hCw97 (fun hs=>by have h:_=_:=hs;omega))
        have hK112:=(((((((((((((hZ4.ext hEw11)).ext hEw12)).ext hEw51)).ext hEw78)).ext hEw95)).ext hEw96)).chg hCw97 (fun hs=>by have h:_=_:=hs;omega))
        have hX26:Ext w w97:=(Ext.own ((((((hEl.trans hEw11).trans hEw12).trans hEw51).trans hEw78).trans hEw95).trans hEw96) hCw97 (by omega))
        refine zR (t+1) ?_ ?_
        ·exact ⟨by omega,hK110,by have hz:=hBw97;rwa [show (zc b t).set t _=zc b (t+1) from zaA (by omega) (by unfold zbq zbo;ac_rfl)] at hz,hK111,hK112,hX26⟩
        ·first | omega |(dsimp only;omega)
       ·refine zk (some 81) (zae ((zc b t).get (t-2)) 19 _ (by decide) (by decide)) ?_
        rintro _ w98 ⟨rfl,hEw98⟩
        have hzw98:=hEw98.size
        refine ⟨.inr (((((Chg.refl (fun k=>k=w7.heap.size) w12).trans hEw51.chg).trans hEw78.chg).trans hEw95.chg).trans hEw98.chg), ?_⟩
        refine zh (hw:=show Chg (fun k=>k=w7.heap.size) w12 w98 from (((((Chg.refl (fun k=>k=w7.heap.size) w12).trans hEw51.chg).trans hEw78.chg).trans hEw95.chg).trans hEw98.chg)) hT164 23 66845951 (some 82) (vW (((rr ((zc b t).get (t-2)) 17)^^^(rr ((zc b t).get (t-2)) 19)).toNat)) (zw .u32 _ (zZ (rr ((zc b t).get (t-2)) 17) (rr ((zc b t).get (t-2)) 19))) (zh (hw:=show Chg (fun k=>k=w7.heap.size) w12 w98 from (((((Chg.refl (fun k=>k=w7.heap.size) w12).trans hEw51.chg).trans hEw78.chg).trans hEw95.chg).trans hEw98.chg)) hT164 26 133954815 (some 85) (vW ((((rr ((zc b t).get (t-2)) 17)^^^(rr ((zc b t).get (t-2)) 19))^^^(((zc b t).get (t-2))>>>UInt32.ofNat 10)).toNat)) (zw .u32 _ (zZ ((rr ((zc b t).get (t-2)) 17)^^^(rr ((zc b t).get (t-2)) 19)) (((zc b t).get (t-2))>>>UInt32.ofNat 10))) (zu 8 133955071 (zi (some 67) (Instr.loadAt 28 (vP w7.heap.size (0+(t-7)*1))) (vW (((zc b t).get (t-7)).toNat)) (zo ((hK109.ext hEw98).cell (zan (t-7) (by omega)))) ?_)))
        refine ⟨.inr (((((Chg.refl (fun k=>k=w7.heap.size) w12).trans hEw51.chg).trans hEw78.chg).trans hEw95.chg).trans hEw98.chg), ?_⟩
        refine zh (hw:=show Chg (fun k=>k=w7.heap.size) w12 w98 from (((((Chg.refl (fun k=>k=w7.heap.size) w12).trans hEw51.chg).trans hEw78.chg).trans hEw95.chg).trans hEw98.chg)) hT164 9 133955583 (some 68) (vW ((((zc b t).get (t-16))+((zc b t).get (t-7))).toNat)) (zw .u32 _ (zU ((zc b t).get (t-16)) ((zc b t).get (t-7)))) (zh (hw:=show Chg (fun k=>k=w7.heap.size) w12 w98 from (((((Chg.refl (fun k=>k=w7.heap.size) w12).trans hEw51.chg).trans hEw78.chg).trans hEw95.chg).trans hEw98.chg)) hT164 18 134217727 (some 77) (vW (((((zc b t).get (t-16))+((zc b t).get (t-7)))+(((rr ((zc b t).get (t-15)) 7)^^^(rr ((zc b t).get (t-15)) 18))^^^(((zc b t).get (t-15))>>>UInt32.ofNat 3))).toNat)) (zw .u32 _ (zU (((zc b t).get (t-16))+((zc b t).get (t-7))) (((rr ((zc b t).get (t-15)) 7)^^^(rr ((zc b t).get (t-15)) 18))^^^(((zc b t).get (t-15))>>>UInt32.ofNat 3)))) ?_)
        refine zh (hw:=show Chg (fun k=>k=w7.heap.size) w12 w98 from (((((Chg.refl (fun k=>k=w7.heap.size) w12).trans hEw51.chg).trans hEw78.chg).trans hEw95.chg).trans hEw98.chg)) hT164 27 268435455 (some 86) (vW ((((((zc b t).get (t-16))+((zc b t).get (t-7)))+(((rr ((zc b t).get (t-15)) 7)^^^(rr ((zc b t).get (t-15)) 18))^^^(((zc b t).get (t-15))>>>UInt32.ofNat 3)))+(((rr ((zc b t).get (t-2)) 17)^^^(rr ((zc b t).get (t-2)) 19))^^^(((zc b t).get (t-2))>>>UInt32.ofNat 10))).toNat)) (zw .u32 _ (zU ((((zc b t).get (t-16))+((zc b t).get (t-7)))+(((rr ((zc b t).get (t-15)) 7)^^^(rr ((zc b t).get (t-15)) 18))^^^(((zc b t).get (t-15))>>>UInt32.ofNat 3))) (((rr ((zc b t).get (t-2)) 17)^^^(rr ((zc b t).get (t-2)) 19))^^^(((zc b t).get (t-2))>>>UInt32.ofNat 10)))) (zh (hw:=show Chg (fun k=>k=w7.heap.size) w12 w98 from (((((Chg.refl (fun k=>k=w7.heap.size) w12).trans hEw51.chg).trans hEw78.chg).trans hEw95.chg).trans hEw98.chg)) hT164 28 536870911 (some 87) (vP w7.heap.size (0+t*1)) (zm (Instr.indexAt 149 (vP w7.heap.size 0) (vI t)) (fun w' hC=>zW (E:=28) (sz:=1) (m:=64) (by omega))) ?_)
        refine zu 29 1073741823 (zY 28 w7.heap.size (0+t*1) 149 (vW ((((((zc b t).get (t-16))+((zc b t).get (t-7)))+(((rr ((zc b t).get (t-15)) 7)^^^(rr ((zc b t).get (t-15)) 18))^^^(((zc b t).get (t-15))>>>UInt32.ofNat 3)))+(((rr ((zc b t).get (t-2)) 17)^^^(rr ((zc b t).get (t-2)) 19))^^^(((zc b t).get (t-2))>>>UInt32.ofNat 10))).toNat)) (zV (zc b t)) (hK109.ext hEw98) (by first | decide |(simp;done)|(simp;omega)) ?_)
        intro w99 hBw99 hCw99
        have hzw99:=hCw99.size
        rw [show ((zV (zc b t)).set (0+t*1) (vW ((((((zc b t).get (t-16))+((zc b t).get (t-7)))+(((rr ((zc b t).get (t-15)) 7)^^^(rr ((zc b t).get (t-15)) 18))^^^(((zc b t).get (t-15))>>>UInt32.ofNat 3)))+(((rr ((zc b t).get (t-2)) 17)^^^(rr ((zc b t).get (t-2)) 19))^^^(((zc b t).get (t-2))>>>UInt32.ofNat 10))).toNat)):List Value)=zV ((zc b t).set t (((((zc b t).get (t-16))+((zc b t).get (t-7)))+(((rr ((zc b t).get (t-15)) 7)^^^(rr ((zc b t).get (t-15)) 18))^^^(((zc b t).get (t-15))>>>UInt32.ofNat 3)))+(((rr ((zc b t).get (t-2)) 17)^^^(rr ((zc b t).get (t-2)) 19))^^^(((zc b t).get (t-2))>>>UInt32.ofNat 10)))) from zaG t (((((zc b t).get (t-16))+((zc b t).get (t-7)))+(((rr ((zc b t).get (t-15)) 7)^^^(rr ((zc b t).get (t-15)) 18))^^^(((zc b t).get (t-15))>>>UInt32.ofNat 3)))+(((rr ((zc b t).get (t-2)) 17)^^^(rr ((zc b t).get (t-2)) 19))^^^(((zc b t).get (t-2))>>>UInt32.ofNat 10)))] at hBw99
        refine ⟨.inl (by kernel_rfl), ?_⟩
        refine zL (zr (zb (ze (zd 1 [(32,(vI t))] (za (zB (some 33) .i64 (IntKind.i64.wrap (((t:Nat):Int)+((1:Nat):Int))) (t+1) (zF (by omega) (by omega) (by omega)) ?_))))))
        refine zd 1 [(8,(vI (t+1)))] (zg (zD ?_))
        have hK113:=(((((((((((((hA.ext hEw11)).ext hEw12)).ext hEw51)).ext hEw78)).ext hEw95)).ext hEw98)).chg hCw99 (fun hs=>by have h:_=_:=hs;omega))
        have hK114:=(((((((((((((hK.ext hEw11)).ext hEw12)).ext hEw51)).ext hEw78)).ext hEw95)).ext hEw98)).chg hCw99 (fun hs=>by have h:_=_:=hs;omega))
        have hK115:=(((((((((((((hZ4.ext hEw11)).ext hEw12)).ext hEw51)).ext hEw78)).ext hEw95)).ext hEw98)).chg hCw99 (fun hs=>by have h:_=_:=hs;omega))
        have hX27:Ext w w99:=(Ext.own ((((((hEl.trans hEw11).trans hEw12).trans hEw51).trans hEw78).trans hEw95).trans hEw98) hCw99 (by omega))
        refine zR (t+1) ?_ ?_
        ·exact ⟨by omega,hK113,by have hz:=hBw99;rwa [show (zc b t).set t _=zc b (t+1) from zaA (by omega) (by unfold zbq zbo;ac_rfl)] at hz,hK114,hK115,hX27⟩
        ·first | omega |(dsimp only;omega)
      ·have hK116:=(((((((((hB.ext hEw11)).ext hEw12)).ext hEw51)).ext hEw78)).ext hEw95)
       refine zi (some 67) (Instr.loadAt 28 (vP w7.heap.size (0+(t-7)*1))) (vW (((zc b t).get (t-7)).toNat)) (zo (hK116.cell (zan (t-7) (by omega)))) (⟨.inr ((((Chg.refl (fun k=>k=w7.heap.size) w12).trans hEw51.chg).trans hEw78.chg).trans hEw95.chg), ?_⟩)
       refine zaB 4 22 54263295 58457583 ?_ ?_
       ·refine zi (some 63) (Instr.loadAt 28 (vP w7.heap.size (0+(t-16)*1))) (vW (((zc b t).get (t-16)).toNat)) (zo (hK116.cell (zan (t-16) (by omega)))) (⟨.inr ((((Chg.refl (fun k=>k=w7.heap.size) w12).trans hEw51.chg).trans hEw78.chg).trans hEw95.chg), ?_⟩)
        refine zh (hw:=show Chg (fun k=>k=w7.heap.size) w12 w95 from ((((Chg.refl (fun k=>k=w7.heap.size) w12).trans hEw51.chg).trans hEw78.chg).trans hEw95.chg)) hT164 9 54263807 (some 68) (vW ((((zc b t).get (t-16))+((zc b t).get (t-7))).toNat)) (zw .u32 _ (zU ((zc b t).get (t-16)) ((zc b t).get (t-7)))) (zh (hw:=show Chg (fun k=>k=w7.heap.size) w12 w95 from ((((Chg.refl (fun k=>k=w7.heap.size) w12).trans hEw51.chg).trans hEw78.chg).trans hEw95.chg)) hT164 18 54525951 (some 77) (vW (((((zc b t).get (t-16))+((zc b t).get (t-7)))+(((rr ((zc b t).get (t-15)) 7)^^^(rr ((zc b t).get (t-15)) 18))^^^(((zc b t).get (t-15))>>>UInt32.ofNat 3))).toNat)) (zw .u32 _ (zU (((zc b t).get (t-16))+((zc b t).get (t-7))) (((rr ((zc b t).get (t-15)) 7)^^^(rr ((zc b t).get (t-15)) 18))^^^(((zc b t).get (t-15))>>>UInt32.ofNat 3)))) (zu 22 58720255 (zk (some 81) (zae ((zc b t).get (t-2)) 19 _ (by decide) (by decide)) ?_)))
        rintro _ w100 ⟨rfl,hEw100⟩
        have hzw100:=hEw100.size
        refine ⟨.inr (((((Chg.refl (fun k=>k=w7.heap.size) w12).trans hEw51.chg).trans hEw78.chg).trans hEw95.chg).trans hEw100.chg), ?_⟩
        refine zh (hw:=show Chg (fun k=>k=w7.heap.size) w12 w100 from (((((Chg.refl (fun k=>k=w7.heap.size) w12).trans hEw51.chg).trans hEw78.chg).trans hEw95.chg).trans hEw100.chg)) hT164 23 67108863 (some 82) (vW (((rr ((zc b t).get (t-2)) 17)^^^(rr ((zc b t).get (t-2)) 19)).toNat)) (zw .u32 _ (zZ (rr ((zc b t).get (t-2)) 17) (rr ((zc b t).get (t-2)) 19))) (zh (hw:=show Chg (fun k=>k=w7.heap.size) w12 w100 from (((((Chg.refl (fun k=>k=w7.heap.size) w12).trans hEw51.chg).trans hEw78.chg).trans hEw95.chg).trans hEw100.chg)) hT164 26 134217727 (some 85) (vW ((((rr ((zc b t).get (t-2)) 17)^^^(rr ((zc b t).get (t-2)) 19))^^^(((zc b t).get (t-2))>>>UInt32.ofNat 10)).toNat)) (zw .u32 _ (zZ ((rr ((zc b t).get (t-2)) 17)^^^(rr ((zc b t).get (t-2)) 19)) (((zc b t).get (t-2))>>>UInt32.ofNat 10))) ?_)
        refine zh (hw:=show Chg (fun k=>k=w7.heap.size) w12 w100 from (((((Chg.refl (fun k=>k=w7.heap.size) w12).trans hEw51.chg).trans hEw78.chg).trans hEw95.chg).trans hEw100.chg)) hT164 27 268435455 (some 86) (vW ((((((zc b t).get (t-16))+((zc b t).get (t-7)))+(((rr ((zc b t).get (t-15)) 7)^^^(rr ((zc b t).get (t-15)) 18))^^^(((zc b t).get (t-15))>>>UInt32.ofNat 3)))+(((rr ((zc b t).get (t-2)) 17)^^^(rr ((zc b t).get (t-2)) 19))^^^(((zc b t).get (t-2))>>>UInt32.ofNat 10))).toNat)) (zw .u32 _ (zU ((((zc b t).get (t-16))+((zc b t).get (t-7)))+(((rr ((zc b t).get (t-15)) 7)^^^(rr ((zc b t).get (t-15)) 18))^^^(((zc b t).get (t-15))>>>UInt32.ofNat 3))) (((rr ((zc b t).get (t-2)) 17)^^^(rr ((zc b t).get (t-2)) 19))^^^(((zc b t).get (t-2))>>>UInt32.ofNat 10)))) (zh (hw:=show Chg (fun k=>k=w7.heap.size) w12 w100 from (((((Chg.refl (fun k=>k=w7.heap.size) w12).trans hEw51.chg).trans hEw78.chg).trans hEw95.chg).trans hEw100.chg)) hT164 28 536870911 (some 87) (vP w7.heap.size (0+t*1)) (zm (Instr.indexAt 149 (vP w7.heap.size 0) (vI t)) (fun w' hC=>zW (E:=28) (sz:=1) (m:=64) (by omega))) ?_)
        refine zu 29 1073741823 (zY 28 w7.heap.size (0+t*1) 149 (vW ((((((zc b t).get (t-16))+((zc b t).get (t-7)))+(((rr ((zc b t).get (t-15)) 7)^^^(rr ((zc b t).get (t-15)) 18))^^^(((zc b t).get (t-15))>>>UInt32.ofNat 3)))+(((rr ((zc b t).get (t-2)) 17)^^^(rr ((zc b t).get (t-2)) 19))^^^(((zc b t).get (t-2))>>>UInt32.ofNat 10))).toNat)) (zV (zc b t)) (hK116.ext hEw100) (by first | decide |(simp;done)|(simp;omega)) ?_)
        intro w101 hBw101 hCw101
        have hzw101:=hCw101.size
        rw [show ((zV (zc b t)).set (0+t*1) (vW ((((((zc b t).get (t-16))+((zc b t).get (t-7)))+(((rr ((zc b t).get (t-15)) 7)^^^(rr ((zc b t).get (t-15)) 18))^^^(((zc b t).get (t-15))>>>UInt32.ofNat 3)))+(((rr ((zc b t).get (t-2)) 17)^^^(rr ((zc b t).get (t-2)) 19))^^^(((zc b t).get (t-2))>>>UInt32.ofNat 10))).toNat)):List Value)=zV ((zc b t).set t (((((zc b t).get (t-16))+((zc b t).get (t-7)))+(((rr ((zc b t).get (t-15)) 7)^^^(rr ((zc b t).get (t-15)) 18))^^^(((zc b t).get (t-15))>>>UInt32.ofNat 3)))+(((rr ((zc b t).get (t-2)) 17)^^^(rr ((zc b t).get (t-2)) 19))^^^(((zc b t).get (t-2))>>>UInt32.ofNat 10)))) from zaG t (((((zc b t).get (t-16))+((zc b t).get (t-7)))+(((rr ((zc b t).get (t-15)) 7)^^^(rr ((zc b t).get (t-15)) 18))^^^(((zc b t).get (t-15))>>>UInt32.ofNat 3)))+(((rr ((zc b t).get (t-2)) 17)^^^(rr ((zc b t).get (t-2)) 19))^^^(((zc b t).get (t-2))>>>UInt32.ofNat 10)))] at hBw101
        refine ⟨.inl (by kernel_rfl), ?_⟩
        refine zL (zr (zb (ze (zd 1 [(32,(vI t))] (za (zB (some 33) .i64 (IntKind.i64.wrap (((t:Nat):Int)+((1:Nat):Int))) (t+1) (zF (by omega) (by omega) (by omega)) ?_))))))
        refine zd 1 [(8,(vI (t+1)))] (zg (zD ?_))
        have hK117:=(((((((((((((hA.ext hEw11)).ext hEw12)).ext hEw51)).ext hEw78)).ext hEw95)).ext hEw100)).chg hCw101 (fun hs=>by have h:_=_:=hs;omega))
        have hK118:=(((((((((((((hK.ext hEw11)).ext hEw12)).ext hEw51)).ext hEw78)).ext hEw95)).ext hEw100)).chg hCw101 (fun hs=>by have h:_=_:=hs;omega))
        have hK119:=(((((((((((((hZ4.ext hEw11)).ext hEw12)).ext hEw51)).ext hEw78)).ext hEw95)).ext hEw100)).chg hCw101 (fun hs=>by have h:_=_:=hs;omega))
        have hX28:Ext w w101:=(Ext.own ((((((hEl.trans hEw11).trans hEw12).trans hEw51).trans hEw78).trans hEw95).trans hEw100) hCw101 (by omega))
        refine zR (t+1) ?_ ?_
        ·exact ⟨by omega,hK117,by have hz:=hBw101;rwa [show (zc b t).set t _=zc b (t+1) from zaA (by omega) (by unfold zbq zbo;ac_rfl)] at hz,hK118,hK119,hX28⟩
        ·first | omega |(dsimp only;omega)
       ·refine zk (some 81) (zae ((zc b t).get (t-2)) 19 _ (by decide) (by decide)) ?_
        rintro _ w102 ⟨rfl,hEw102⟩
        have hzw102:=hEw102.size
        refine ⟨.inr (((((Chg.refl (fun k=>k=w7.heap.size) w12).trans hEw51.chg).trans hEw78.chg).trans hEw95.chg).trans hEw102.chg), ?_⟩
        refine zh (hw:=show Chg (fun k=>k=w7.heap.size) w12 w102 from (((((Chg.refl (fun k=>k=w7.heap.size) w12).trans hEw51.chg).trans hEw78.chg).trans hEw95.chg).trans hEw102.chg)) hT164 23 66846191 (some 82) (vW (((rr ((zc b t).get (t-2)) 17)^^^(rr ((zc b t).get (t-2)) 19)).toNat)) (zw .u32 _ (zZ (rr ((zc b t).get (t-2)) 17) (rr ((zc b t).get (t-2)) 19))) (zh (hw:=show Chg (fun k=>k=w7.heap.size) w12 w102 from (((((Chg.refl (fun k=>k=w7.heap.size) w12).trans hEw51.chg).trans hEw78.chg).trans hEw95.chg).trans hEw102.chg)) hT164 26 133955055 (some 85) (vW ((((rr ((zc b t).get (t-2)) 17)^^^(rr ((zc b t).get (t-2)) 19))^^^(((zc b t).get (t-2))>>>UInt32.ofNat 10)).toNat)) (zw .u32 _ (zZ ((rr ((zc b t).get (t-2)) 17)^^^(rr ((zc b t).get (t-2)) 19)) (((zc b t).get (t-2))>>>UInt32.ofNat 10))) (zu 4 133955071 (zi (some 63) (Instr.loadAt 28 (vP w7.heap.size (0+(t-16)*1))) (vW (((zc b t).get (t-16)).toNat)) (zo ((hK116.ext hEw102).cell (zan (t-16) (by omega)))) ?_)))
        refine ⟨.inr (((((Chg.refl (fun k=>k=w7.heap.size) w12).trans hEw51.chg).trans hEw78.chg).trans hEw95.chg).trans hEw102.chg), ?_⟩
        refine zh (hw:=show Chg (fun k=>k=w7.heap.size) w12 w102 from (((((Chg.refl (fun k=>k=w7.heap.size) w12).trans hEw51.chg).trans hEw78.chg).trans hEw95.chg).trans hEw102.chg)) hT164 9 133955583 (some 68) (vW ((((zc b t).get (t-16))+((zc b t).get (t-7))).toNat)) (zw .u32 _ (zU ((zc b t).get (t-16)) ((zc b t).get (t-7)))) (zh (hw:=show Chg (fun k=>k=w7.heap.size) w12 w102 from (((((Chg.refl (fun k=>k=w7.heap.size) w12).trans hEw51.chg).trans hEw78.chg).trans hEw95.chg).trans hEw102.chg)) hT164 18 134217727 (some 77) (vW (((((zc b t).get (t-16))+((zc b t).get (t-7)))+(((rr ((zc b t).get (t-15)) 7)^^^(rr ((zc b t).get (t-15)) 18))^^^(((zc b t).get (t-15))>>>UInt32.ofNat 3))).toNat)) (zw .u32 _ (zU (((zc b t).get (t-16))+((zc b t).get (t-7))) (((rr ((zc b t).get (t-15)) 7)^^^(rr ((zc b t).get (t-15)) 18))^^^(((zc b t).get (t-15))>>>UInt32.ofNat 3)))) ?_)
        refine zh (hw:=show Chg (fun k=>k=w7.heap.size) w12 w102 from (((((Chg.refl (fun k=>k=w7.heap.size) w12).trans hEw51.chg).trans hEw78.chg).trans hEw95.chg).trans hEw102.chg)) hT164 27 268435455 (some 86) (vW ((((((zc b t).get (t-16))+((zc b t).get (t-7)))+(((rr ((zc b t).get (t-15)) 7)^^^(rr ((zc b t).get (t-15)) 18))^^^(((zc b t).get (t-15))>>>UInt32.ofNat 3)))+(((rr ((zc b t).get (t-2)) 17)^^^(rr ((zc b t).get (t-2)) 19))^^^(((zc b t).get (t-2))>>>UInt32.ofNat 10))).toNat)) (zw .u32 _ (zU ((((zc b t).get (t-16))+((zc b t).get (t-7)))+(((rr ((zc b t).get (t-15)) 7)^^^(rr ((zc b t).get (t-15)) 18))^^^(((zc b t).get (t-15))>>>UInt32.ofNat 3))) (((rr ((zc b t).get (t-2)) 17)^^^(rr ((zc b t).get (t-2)) 19))^^^(((zc b t).get (t-2))>>>UInt32.ofNat 10)))) (zh (hw:=show Chg (fun k=>k=w7.heap.size) w12 w102 from (((((Chg.refl (fun k=>k=w7.heap.size) w12).trans hEw51.chg).trans hEw78.chg).trans hEw95.chg).trans hEw102.chg)) hT164 28 536870911 (some 87) (vP w7.heap.size (0+t*1)) (zm (Instr.indexAt 149 (vP w7.heap.size 0) (vI t)) (fun w' hC=>zW (E:=28) (sz:=1) (m:=64) (by omega))) ?_)
        refine zu 29 1073741823 (zY 28 w7.heap.size (0+t*1) 149 (vW ((((((zc b t).get (t-16))+((zc b t).get (t-7)))+(((rr ((zc b t).get (t-15)) 7)^^^(rr ((zc b t).get (t-15)) 18))^^^(((zc b t).get (t-15))>>>UInt32.ofNat 3)))+(((rr ((zc b t).get (t-2)) 17)^^^(rr ((zc b t).get (t-2)) 19))^^^(((zc b t).get (t-2))>>>UInt32.ofNat 10))).toNat)) (zV (zc b t)) (hK116.ext hEw102) (by first | decide |(simp;done)|(simp;omega)) ?_)
        intro w103 hBw103 hCw103
        have hzw103:=hCw103.size
        rw [show ((zV (zc b t)).set (0+t*1) (vW ((((((zc b t).get (t-16))+((zc b t).get (t-7)))+(((rr ((zc b t).get (t-15)) 7)^^^(rr ((zc b t).get (t-15)) 18))^^^(((zc b t).get (t-15))>>>UInt32.ofNat 3)))+(((rr ((zc b t).get (t-2)) 17)^^^(rr ((zc b t).get (t-2)) 19))^^^(((zc b t).get (t-2))>>>UInt32.ofNat 10))).toNat)):List Value)=zV ((zc b t).set t (((((zc b t).get (t-16))+((zc b t).get (t-7)))+(((rr ((zc b t).get (t-15)) 7)^^^(rr ((zc b t).get (t-15)) 18))^^^(((zc b t).get (t-15))>>>UInt32.ofNat 3)))+(((rr ((zc b t).get (t-2)) 17)^^^(rr ((zc b t).get (t-2)) 19))^^^(((zc b t).get (t-2))>>>UInt32.ofNat 10)))) from zaG t (((((zc b t).get (t-16))+((zc b t).get (t-7)))+(((rr ((zc b t).get (t-15)) 7)^^^(rr ((zc b t).get (t-15)) 18))^^^(((zc b t).get (t-15))>>>UInt32.ofNat 3)))+(((rr ((zc b t).get (t-2)) 17)^^^(rr ((zc b t).get (t-2)) 19))^^^(((zc b t).get (t-2))>>>UInt32.ofNat 10)))] at hBw103
        refine ⟨.inl (by kernel_rfl), ?_⟩
        refine zL (zr (zb (ze (zd 1 [(32,(vI t))] (za (zB (some 33) .i64 (IntKind.i64.wrap (((t:Nat):Int)+((1:Nat):Int))) (t+1) (zF (by omega) (by omega) (by omega)) ?_))))))
        refine zd 1 [(8,(vI (t+1)))] (zg (zD ?_))
        have hK120:=(((((((((((((hA.ext hEw11)).ext hEw12)).ext hEw51)).ext hEw78)).ext hEw95)).ext hEw102)).chg hCw103 (fun hs=>by have h:_=_:=hs;omega))
        have hK121:=(((((((((((((hK.ext hEw11)).ext hEw12)).ext hEw51)).ext hEw78)).ext hEw95)).ext hEw102)).chg hCw103 (fun hs=>by have h:_=_:=hs;omega))
        have hK122:=(((((((((((((hZ4.ext hEw11)).ext hEw12)).ext hEw51)).ext hEw78)).ext hEw95)).ext hEw102)).chg hCw103 (fun hs=>by have h:_=_:=hs;omega))
        have hX29:Ext w w103:=(Ext.own ((((((hEl.trans hEw11).trans hEw12).trans hEw51).trans hEw78).trans hEw95).trans hEw102) hCw103 (by omega))
        refine zR (t+1) ?_ ?_
        ·exact ⟨by omega,hK120,by have hz:=hBw103;rwa [show (zc b t).set t _=zc b (t+1) from zaA (by omega) (by unfold zbq zbo;ac_rfl)] at hz,hK121,hK122,hX29⟩
        ·first | omega |(dsimp only;omega)
      ·refine zk (some 81) (zae ((zc b t).get (t-2)) 19 _ (by decide) (by decide)) ?_
       rintro _ w104 ⟨rfl,hEw104⟩
       have hzw104:=hEw104.size
       refine ⟨.inr (((((Chg.refl (fun k=>k=w7.heap.size) w12).trans hEw51.chg).trans hEw78.chg).trans hEw95.chg).trans hEw104.chg), ?_⟩
       refine zh (hw:=show Chg (fun k=>k=w7.heap.size) w12 w104 from (((((Chg.refl (fun k=>k=w7.heap.size) w12).trans hEw51.chg).trans hEw78.chg).trans hEw95.chg).trans hEw104.chg)) hT164 23 66845935 (some 82) (vW (((rr ((zc b t).get (t-2)) 17)^^^(rr ((zc b t).get (t-2)) 19)).toNat)) (zw .u32 _ (zZ (rr ((zc b t).get (t-2)) 17) (rr ((zc b t).get (t-2)) 19))) (zh (hw:=show Chg (fun k=>k=w7.heap.size) w12 w104 from (((((Chg.refl (fun k=>k=w7.heap.size) w12).trans hEw51.chg).trans hEw78.chg).trans hEw95.chg).trans hEw104.chg)) hT164 26 133954799 (some 85) (vW ((((rr ((zc b t).get (t-2)) 17)^^^(rr ((zc b t).get (t-2)) 19))^^^(((zc b t).get (t-2))>>>UInt32.ofNat 10)).toNat)) (zw .u32 _ (zZ ((rr ((zc b t).get (t-2)) 17)^^^(rr ((zc b t).get (t-2)) 19)) (((zc b t).get (t-2))>>>UInt32.ofNat 10))) (zaB 4 8 133954815 133955055 ?_ ?_))
       ·have hK123:=(((((((((((hB.ext hEw11)).ext hEw12)).ext hEw51)).ext hEw78)).ext hEw95)).ext hEw104)
        refine zi (some 63) (Instr.loadAt 28 (vP w7.heap.size (0+(t-16)*1))) (vW (((zc b t).get (t-16)).toNat)) (zo (hK123.cell (zan (t-16) (by omega)))) (⟨.inr (((((Chg.refl (fun k=>k=w7.heap.size) w12).trans hEw51.chg).trans hEw78.chg).trans hEw95.chg).trans hEw104.chg), ?_⟩)
        refine zu 8 133955071 (zi (some 67) (Instr.loadAt 28 (vP w7.heap.size (0+(t-7)*1))) (vW (((zc b t).get (t-7)).toNat)) (zo (hK123.cell (zan (t-7) (by omega)))) ?_)
        refine ⟨.inr (((((Chg.refl (fun k=>k=w7.heap.size) w12).trans hEw51.chg).trans hEw78.chg).trans hEw95.chg).trans hEw104.chg), ?_⟩
        refine zh (hw:=show Chg (fun k=>k=w7.heap.size) w12 w104 from (((((Chg.refl (fun k=>k=w7.heap.size) w12).trans hEw51.chg).trans hEw78.chg).trans hEw95.chg).trans hEw104.chg)) hT164 9 133955583 (some 68) (vW ((((zc b t).get (t-16))+((zc b t).get (t-7))).toNat)) (zw .u32 _ (zU ((zc b t).get (t-16)) ((zc b t).get (t-7)))) (zh (hw:=show Chg (fun k=>k=w7.heap.size) w12 w104 from (((((Chg.refl (fun k=>k=w7.heap.size) w12).trans hEw51.chg).trans hEw78.chg).trans hEw95.chg).trans hEw104.chg)) hT164 18 134217727 (some 77) (vW (((((zc b t).get (t-16))+((zc b t).get (t-7)))+(((rr ((zc b t).get (t-15)) 7)^^^(rr ((zc b t).get (t-15)) 18))^^^(((zc b t).get (t-15))>>>UInt32.ofNat 3))).toNat)) (zw .u32 _ (zU (((zc b t).get (t-16))+((zc b t).get (t-7))) (((rr ((zc b t).get (t-15)) 7)^^^(rr ((zc b t).get (t-15)) 18))^^^(((zc b t).get (t-15))>>>UInt32.ofNat 3)))) ?_)
        refine zh (hw:=show Chg (fun k=>k=w7.heap.size) w12 w104 from (((((Chg.refl (fun k=>k=w7.heap.size) w12).trans hEw51.chg).trans hEw78.chg).trans hEw95.chg).trans hEw104.chg)) hT164 27 268435455 (some 86) (vW ((((((zc b t).get (t-16))+((zc b t).get (t-7)))+(((rr ((zc b t).get (t-15)) 7)^^^(rr ((zc b t).get (t-15)) 18))^^^(((zc b t).get (t-15))>>>UInt32.ofNat 3)))+(((rr ((zc b t).get (t-2)) 17)^^^(rr ((zc b t).get (t-2)) 19))^^^(((zc b t).get (t-2))>>>UInt32.ofNat 10))).toNat)) (zw .u32 _ (zU ((((zc b t).get (t-16))+((zc b t).get (t-7)))+(((rr ((zc b t).get (t-15)) 7)^^^(rr ((zc b t).get (t-15)) 18))^^^(((zc b t).get (t-15))>>>UInt32.ofNat 3))) (((rr ((zc b t).get (t-2)) 17)^^^(rr ((zc b t).get (t-2)) 19))^^^(((zc b t).get (t-2))>>>UInt32.ofNat 10)))) (zh (hw:=show Chg (fun k=>k=w7.heap.size) w12 w104 from (((((Chg.refl (fun k=>k=w7.heap.size) w12).trans hEw51.chg).trans hEw78.chg).trans hEw95.chg).trans hEw104.chg)) hT164 28 536870911 (some 87) (vP w7.heap.size (0+t*1)) (zm (Instr.indexAt 149 (vP w7.heap.size 0) (vI t)) (fun w' hC=>zW (E:=28) (sz:=1) (m:=64) (by omega))) ?_)
        refine zu 29 1073741823 (zY 28 w7.heap.size (0+t*1) 149 (vW ((((((zc b t).get (t-16))+((zc b t).get (t-7)))+(((rr ((zc b t).get (t-15)) 7)^^^(rr ((zc b t).get (t-15)) 18))^^^(((zc b t).get (t-15))>>>UInt32.ofNat 3)))+(((rr ((zc b t).get (t-2)) 17)^^^(rr ((zc b t).get (t-2)) 19))^^^(((zc b t).get (t-2))>>>UInt32.ofNat 10))).toNat)) (zV (zc b t)) hK123 (by first | decide |(simp;done)|(simp;omega)) ?_)
        intro w105 hBw105 hCw105
        have hzw105:=hCw105.size
        rw [show ((zV (zc b t)).set (0+t*1) (vW ((((((zc b t).get (t-16))+((zc b t).get (t-7)))+(((rr ((zc b t).get (t-15)) 7)^^^(rr ((zc b t).get (t-15)) 18))^^^(((zc b t).get (t-15))>>>UInt32.ofNat 3)))+(((rr ((zc b t).get (t-2)) 17)^^^(rr ((zc b t).get (t-2)) 19))^^^(((zc b t).get (t-2))>>>UInt32.ofNat 10))).toNat)):List Value)=zV ((zc b t).set t (((((zc b t).get (t-16))+((zc b t).get (t-7)))+(((rr ((zc b t).get (t-15)) 7)^^^(rr ((zc b t).get (t-15)) 18))^^^(((zc b t).get (t-15))>>>UInt32.ofNat 3)))+(((rr ((zc b t).get (t-2)) 17)^^^(rr ((zc b t).get (t-2)) 19))^^^(((zc b t).get (t-2))>>>UInt32.ofNat 10)))) from zaG t (((((zc b t).get (t-16))+((zc b t).get (t-7)))+(((rr ((zc b t).get (t-15)) 7)^^^(rr ((zc b t).get (t-15)) 18))^^^(((zc b t).get (t-15))>>>UInt32.ofNat 3)))+(((rr ((zc b t).get (t-2)) 17)^^^(rr ((zc b t).get (t-2)) 19))^^^(((zc b t).get (t-2))>>>UInt32.ofNat 10)))] at hBw105
        refine ⟨.inl (by kernel_rfl), ?_⟩
        refine zL (zr (zb (ze (zd 1 [(32,(vI t))] (za (zB (some 33) .i64 (IntKind.i64.wrap (((t:Nat):Int)+((1:Nat):Int))) (t+1) (zF (by omega) (by omega) (by omega)) ?_))))))
        refine zd 1 [(8,(vI (t+1)))] (zg (zD ?_))
        have hK124:=(((((((((((((hA.ext hEw11)).ext hEw12)).ext hEw51)).ext hEw78)).ext hEw95)).ext hEw104)).chg hCw105 (fun hs=>by have h:_=_:=hs;omega))
        have hK125:=(((((((((((((hK.ext hEw11)).ext hEw12)).ext hEw51)).ext hEw78)).ext hEw95)).ext hEw104)).chg hCw105 (fun hs=>by have h:_=_:=hs;omega))
        have hK126:=(((((((((((((hZ4.ext hEw11)).ext hEw12)).ext hEw51)).ext hEw78)).ext hEw95)).ext hEw104)).chg hCw105 (fun hs=>by have h:_=_:=hs;omega))
        have hX30:Ext w w105:=(Ext.own ((((((hEl.trans hEw11).trans hEw12).trans hEw51).trans hEw78).trans hEw95).trans hEw104) hCw105 (by omega))
        refine zR (t+1) ?_ ?_
        ·exact ⟨by omega,hK124,by have hz:=hBw105;rwa [show (zc b t).set t _=zc b (t+1) from zaA (by omega) (by unfold zbq zbo;ac_rfl)] at hz,hK125,hK126,hX30⟩
        ·first | omega |(dsimp only;omega)
       ·have hK127:=(((((((((((hB.ext hEw11)).ext hEw12)).ext hEw51)).ext hEw78)).ext hEw95)).ext hEw104)
        refine zi (some 67) (Instr.loadAt 28 (vP w7.heap.size (0+(t-7)*1))) (vW (((zc b t).get (t-7)).toNat)) (zo (hK127.cell (zan (t-7) (by omega)))) (⟨.inr (((((Chg.refl (fun k=>k=w7.heap.size) w12).trans hEw51.chg).trans hEw78.chg).trans hEw95.chg).trans hEw104.chg), ?_⟩)
        refine zu 4 133955071 (zi (some 63) (Instr.loadAt 28 (vP w7.heap.size (0+(t-16)*1))) (vW (((zc b t).get (t-16)).toNat)) (zo (hK127.cell (zan (t-16) (by omega)))) ?_)
        refine ⟨.inr (((((Chg.refl (fun k=>k=w7.heap.size) w12).trans hEw51.chg).trans hEw78.chg).trans hEw95.chg).trans hEw104.chg), ?_⟩
        refine zh (hw:=show Chg (fun k=>k=w7.heap.size) w12 w104 from (((((Chg.refl (fun k=>k=w7.heap.size) w12).trans hEw51.chg).trans hEw78.chg).trans hEw95.chg).trans hEw104.chg)) hT164 9 133955583 (some 68) (vW ((((zc b t).get (t-16))+((zc b t).get (t-7))).toNat)) (zw .u32 _ (zU ((zc b t).get (t-16)) ((zc b t).get (t-7)))) (zh (hw:=show Chg (fun k=>k=w7.heap.size) w12 w104 from (((((Chg.refl (fun k=>k=w7.heap.size) w12).trans hEw51.chg).trans hEw78.chg).trans hEw95.chg).trans hEw104.chg)) hT164 18 134217727 (some 77) (vW (((((zc b t).get (t-16))+((zc b t).get (t-7)))+(((rr ((zc b t).get (t-15)) 7)^^^(rr ((zc b t).get (t-15)) 18))^^^(((zc b t).get (t-15))>>>UInt32.ofNat 3))).toNat)) (zw .u32 _ (zU (((zc b t).get (t-16))+((zc b t).get (t-7))) (((rr ((zc b t).get (t-15)) 7)^^^(rr ((zc b t).get (t-15)) 18))^^^(((zc b t).get (t-15))>>>UInt32.ofNat 3)))) ?_)
        refine zh (hw:=show Chg (fun k=>k=w7.heap.size) w12 w104 from (((((Chg.refl (fun k=>k=w7.heap.size) w12).trans hEw51.chg).trans hEw78.chg).trans hEw95.chg).trans hEw104.chg)) hT164 27 268435455 (some 86) (vW ((((((zc b t).get (t-16))+((zc b t).get (t-7)))+(((rr ((zc b t).get (t-15)) 7)^^^(rr ((zc b t).get (t-15)) 18))^^^(((zc b t).get (t-15))>>>UInt32.ofNat 3)))+(((rr ((zc b t).get (t-2)) 17)^^^(rr ((zc b t).get (t-2)) 19))^^^(((zc b t).get (t-2))>>>UInt32.ofNat 10))).toNat)) (zw .u32 _ (zU ((((zc b t).get (t-16))+((zc b t).get (t-7)))+(((rr ((zc b t).get (t-15)) 7)^^^(rr ((zc b t).get (t-15)) 18))^^^(((zc b t).get (t-15))>>>UInt32.ofNat 3))) (((rr ((zc b t).get (t-2)) 17)^^^(rr ((zc b t).get (t-2)) 19))^^^(((zc b t).get (t-2))>>>UInt32.ofNat 10)))) (zh (hw:=show Chg (fun k=>k=w7.heap.size) w12 w104 from (((((Chg.refl (fun k=>k=w7.heap.size) w12).trans hEw51.chg).trans hEw78.chg).trans hEw95.chg).trans hEw104.chg)) hT164 28 536870911 (some 87) (vP w7.heap.size (0+t*1)) (zm (Instr.indexAt 149 (vP w7.heap.size 0) (vI t)) (fun w' hC=>zW (E:=28) (sz:=1) (m:=64) (by omega))) ?_)
        refine zu 29 1073741823 (zY 28 w7.heap.size (0+t*1) 149 (vW ((((((zc b t).get (t-16))+((zc b t).get (t-7)))+(((rr ((zc b t).get (t-15)) 7)^^^(rr ((zc b t).get (t-15)) 18))^^^(((zc b t).get (t-15))>>>UInt32.ofNat 3)))+(((rr ((zc b t).get (t-2)) 17)^^^(rr ((zc b t).get (t-2)) 19))^^^(((zc b t).get (t-2))>>>UInt32.ofNat 10))).toNat)) (zV (zc b t)) hK127 (by first | decide |(simp;done)|(simp;omega)) ?_)
        intro w106 hBw106 hCw106
        have hzw106:=hCw106.size
        rw [show ((zV (zc b t)).set (0+t*1) (vW ((((((zc b t).get (t-16))+((zc b t).get (t-7)))+(((rr ((zc b t).get (t-15)) 7)^^^(rr ((zc b t).get (t-15)) 18))^^^(((zc b t).get (t-15))>>>UInt32.ofNat 3)))+(((rr ((zc b t).get (t-2)) 17)^^^(rr ((zc b t).get (t-2)) 19))^^^(((zc b t).get (t-2))>>>UInt32.ofNat 10))).toNat)):List Value)=zV ((zc b t).set t (((((zc b t).get (t-16))+((zc b t).get (t-7)))+(((rr ((zc b t).get (t-15)) 7)^^^(rr ((zc b t).get (t-15)) 18))^^^(((zc b t).get (t-15))>>>UInt32.ofNat 3)))+(((rr ((zc b t).get (t-2)) 17)^^^(rr ((zc b t).get (t-2)) 19))^^^(((zc b t).get (t-2))>>>UInt32.ofNat 10)))) from zaG t (((((zc b t).get (t-16))+((zc b t).get (t-7)))+(((rr ((zc b t).get (t-15)) 7)^^^(rr ((zc b t).get (t-15)) 18))^^^(((zc b t).get (t-15))>>>UInt32.ofNat 3)))+(((rr ((zc b t).get (t-2)) 17)^^^(rr ((zc b t).get (t-2)) 19))^^^(((zc b t).get (t-2))>>>UInt32.ofNat 10)))] at hBw106
        refine ⟨.inl (by kernel_rfl), ?_⟩
        refine zL (zr (zb (ze (zd 1 [(32,(vI t))] (za (zB (some 33) .i64 (IntKind.i64.wrap (((t:Nat):Int)+((1:Nat):Int))) (t+1) (zF (by omega) (by omega) (by omega)) ?_))))))
        refine zd 1 [(8,(vI (t+1)))] (zg (zD ?_))
        have hK128:=(((((((((((((hA.ext hEw11)).ext hEw12)).ext hEw51)).ext hEw78)).ext hEw95)).ext hEw104)).chg hCw106 (fun hs=>by have h:_=_:=hs;omega))
        have hK129:=(((((((((((((hK.ext hEw11)).ext hEw12)).ext hEw51)).ext hEw78)).ext hEw95)).ext hEw104)).chg hCw106 (fun hs=>by have h:_=_:=hs;omega))
        have hK130:=(((((((((((((hZ4.ext hEw11)).ext hEw12)).ext hEw51)).ext hEw78)).ext hEw95)).ext hEw104)).chg hCw106 (fun hs=>by have h:_=_:=hs;omega))
        have hX31:Ext w w106:=(Ext.own ((((((hEl.trans hEw11).trans hEw12).trans hEw51).trans hEw78).trans hEw95).trans hEw104) hCw106 (by omega))
        refine zR (t+1) ?_ ?_
        ·exact ⟨by omega,hK128,by have hz:=hBw106;rwa [show (zc b t).set t _=zc b (t+1) from zaA (by omega) (by unfold zbq zbo;ac_rfl)] at hz,hK129,hK130,hX31⟩
        ·first | omega |(dsimp only;omega)
 ·replace hc31:¬(t<64):=by have:=zak hc31;omega
  refine zg (zb (zn (zag (zH (zH (zT (zb (zf (zah (Ext w9.drew) 24 [(89,4,0),(90,309485009821345068724781056,1),(91,4,0),(92,1237940039285380274899124224,4),(93,4,0),(94,4951760157141521099596496896,16),(95,4,0),(96,19807040628566084398385987584,64),(97,4,0),(98,79228162514264337593543950336,256),(99,4,0),(100,316912650057057350374175801344,1024),(101,4,0),(102,1267650600228229401496703205376,4096),(103,4,0),(104,5070602400912917605986812821504,16384),(14,618970019642690137449562112,3),(15,2475880078570760549798248448,65551),(16,9903520314283042199192993792,196671),(17,39614081257132168796771975168,459007),(18,158456325028528675187087900672,984063),(19,633825300114114700748351602688,2035711),(20,2535301200456458802993406410752,4145151),(21,10141204801825835211973625643008,8388607)] (fun hT1417=> ?_))))))))))
  have hEw107:Ext w9 w9.drew:=Ext.drew w9
  generalize w9.drew=w107 at hEw107⊢
  have hzw107:=hEw107.size
  refine zh hT1417 0 1 (some 88) (vP w.heap.size 0) (zm (Instr.indexAt 150 (vP w.heap.size 0) (vI 0)) (fun w' hC=>zW (E:=28) (sz:=1) (m:=8) (by omega))) (zh hT1417 1 3 (some 89) (vW ((h.get 0).toNat)) (zm (Instr.loadAt 28 (vP w.heap.size 0)) (fun w' hC=>zo (((hA.ext hEw107).ext hC).cell (zaE 0 (by omega))))) (zh hT1417 2 7 (some 90) (vP w.heap.size 1) (zm (Instr.indexAt 150 (vP w.heap.size 0) (vI 1)) (fun w' hC=>zW (E:=28) (sz:=1) (m:=8) (by omega))) (zh hT1417 3 15 (some 91) (vW ((h.get 1).toNat)) (zm (Instr.loadAt 28 (vP w.heap.size 1)) (fun w' hC=>zo (((hA.ext hEw107).ext hC).cell (zaE 1 (by omega))))) (zh hT1417 4 31 (some 92) (vP w.heap.size 2) (zm (Instr.indexAt 150 (vP w.heap.size 0) (vI 2)) (fun w' hC=>zW (E:=28) (sz:=1) (m:=8) (by omega))) (zh hT1417 5 63 (some 93) (vW ((h.get 2).toNat)) (zm (Instr.loadAt 28 (vP w.heap.size 2)) (fun w' hC=>zo (((hA.ext hEw107).ext hC).cell (zaE 2 (by omega))))) (zh hT1417 6 127 (some 94) (vP w.heap.size 3) (zm (Instr.indexAt 150 (vP w.heap.size 0) (vI 3)) (fun w' hC=>zW (E:=28) (sz:=1) (m:=8) (by omega))) (zh hT1417 7 255 (some 95) (vW ((h.get 3).toNat)) (zm (Instr.loadAt 28 (vP w.heap.size 3)) (fun w' hC=>zo (((hA.ext hEw107).ext hC).cell (zaE 3 (by omega))))) (zh hT1417 8 511 (some 96) (vP w.heap.size 4) (zm (Instr.indexAt 150 (vP w.heap.size 0) (vI 4)) (fun w' hC=>zW (E:=28) (sz:=1) (m:=8) (by omega))) ?_))))))))
  refine zh hT1417 9 1023 (some 97) (vW ((h.get 4).toNat)) (zm (Instr.loadAt 28 (vP w.heap.size 4)) (fun w' hC=>zo (((hA.ext hEw107).ext hC).cell (zaE 4 (by omega))))) (zh hT1417 10 2047 (some 98) (vP w.heap.size 5) (zm (Instr.indexAt 150 (vP w.heap.size 0) (vI 5)) (fun w' hC=>zW (E:=28) (sz:=1) (m:=8) (by omega))) (zh hT1417 11 4095 (some 99) (vW ((h.get 5).toNat)) (zm (Instr.loadAt 28 (vP w.heap.size 5)) (fun w' hC=>zo (((hA.ext hEw107).ext hC).cell (zaE 5 (by omega))))) (zh hT1417 12 8191 (some 100) (vP w.heap.size 6) (zm (Instr.indexAt 150 (vP w.heap.size 0) (vI 6)) (fun w' hC=>zW (E:=28) (sz:=1) (m:=8) (by omega))) (zh hT1417 13 16383 (some 101) (vW ((h.get 6).toNat)) (zm (Instr.loadAt 28 (vP w.heap.size 6)) (fun w' hC=>zo (((hA.ext hEw107).ext hC).cell (zaE 6 (by omega))))) (zh hT1417 14 32767 (some 102) (vP w.heap.size 7) (zm (Instr.indexAt 150 (vP w.heap.size 0) (vI 7)) (fun w' hC=>zW (E:=28) (sz:=1) (m:=8) (by omega))) (zh hT1417 15 65535 (some 103) (vW ((h.get 7).toNat)) (zm (Instr.loadAt 28 (vP w.heap.size 7)) (fun w' hC=>zo (((hA.ext hEw107).ext hC).cell (zaE 7 (by omega))))) (zl hT1417 [(16,13,(vW ((h.get 0).toNat))),(17,14,(vW ((h.get 1).toNat))),(18,15,(vW ((h.get 2).toNat))),(19,16,(vW ((h.get 3).toNat))),(20,17,(vW ((h.get 4).toNat))),(21,18,(vW ((h.get 5).toNat))),(22,19,(vW ((h.get 6).toNat))),(23,20,(vW ((h.get 7).toNat)))] 8 16777215 (zL (zb ?_)))))))))
  refine zf (zf (ze (zd 1 [(21,(vI 0))] (zg (zb (zJ ?_))))))
  obtain rfl:t=64:=by omega
  refine zaj (X:=Nat×WA 8) (fun ⟨i,x⟩=> [(13,(vW ((x.get 0).toNat))),(14,(vW ((x.get 1).toNat))),(15,(vW ((x.get 2).toNat))),(16,(vW ((x.get 3).toNat))),(17,(vW ((x.get 4).toNat))),(18,(vW ((x.get 5).toNat))),(19,(vW ((x.get 6).toNat))),(20,(vW ((x.get 7).toNat))),(21,(vI i))]) [22,23,24,25,104,105,106,107,108,109,110,111,112,113,114,115,116,117,118,119,120,121,122,123,124,125,126,127,128,129,130,131,132,133,134,135,136,137,138,139,140,141,142,143,144,145,146,147,148,149,150,151,152,153,154,155,156,157,158,159,160,161,162,163,164,165,166,167,168] (fun ⟨i,x⟩ w108=>i≤64∧x=zdW h (zc b 64) i∧Blk w108 w.heap.size (w8C h) 150∧Blk w108 w7.heap.size (zV (zc b 64)) 149∧Blk w108 w3.heap.size (zV kA) 149∧Blk w108 w1.heap.size (w8C (WA.zero 8)) 150∧Ext w w108) (fun ⟨i,x⟩=>64-i) (0,h) (by kernel_rfl) ⟨by omega,rfl,(hA.ext hEw107),(hB.ext hEw107),(hK.ext hEw107),(hZ4.ext hEw107),(hEl.trans hEw107)⟩ ?_
  rintro ⟨i,x⟩ dw108 w108 ⟨hi,hx,hA2,hB2,hK2,hZ42,hEm⟩
  have hzm:=hEm.size
  have hlthA2:=hA2.lt
  have hlthB2:=hB2.lt
  have hlthK2:=hK2.lt
  have hlthZ42:=hZ42.lt
  refine zf (zf (ze (zd 1 [(104,(vI i))] (za (zG (some 105) (decide (((i:Nat):Int)<((64:Nat):Int))) (fun hc105=> ?_) (fun hc105=> ?_))))))
  ·replace hc105:i<64:=by have:=zal hc105;omega
   refine zg (zb (zx (zA (zb (zf (zJ (zf (ze (zd 2 [(109,(vW ((x.get 5).toNat))),(108,(vW ((x.get 4).toNat)))] ?_)))))))))
   refine za (zB (some 110) .u32 ((IntKind.u32.wrap ((BitVec.ofInt IntKind.u32.bits (((x.get 4).toNat:Nat):Int)&&&BitVec.ofInt IntKind.u32.bits (((x.get 5).toNat:Nat):Int)).toNat:Int))) (((x.get 4)&&&(x.get 5)).toNat) (zdq (x.get 4) (x.get 5)) ?_)
   refine zd 1 [(111,(vW ((x.get 4).toNat)))] (za (zB (some 112) .u32 (IntKind.u32.wrap ((BitVec.ofInt IntKind.u32.bits (if IntKind.u32.signed then-1 else IntKind.u32.max)^^^BitVec.ofInt IntKind.u32.bits (((x.get 4).toNat:Nat):Int)).toNat:Int)) ((~~~(x.get 4)).toNat) (zlY (x.get 4)) ?_))
   refine zd 1 [(113,(vW ((x.get 6).toNat)))] (za (zB (some 114) .u32 ((IntKind.u32.wrap ((BitVec.ofInt IntKind.u32.bits (((~~~(x.get 4)).toNat:Nat):Int)&&&BitVec.ofInt IntKind.u32.bits (((x.get 6).toNat:Nat):Int)).toNat:Int))) (((~~~(x.get 4))&&&(x.get 6)).toNat) (zdq (~~~(x.get 4)) (x.get 6)) ?_))
   refine za (zB (some 115) .u32 ((IntKind.u32.wrap ((BitVec.ofInt IntKind.u32.bits (((x.get 4&&&x.get 5).toNat:Nat):Int)||| BitVec.ofInt IntKind.u32.bits (((~~~(x.get 4)&&&x.get 6).toNat:Nat):Int)).toNat:Int))) ((((x.get 4&&&x.get 5)^^^(~~~(x.get 4)&&&x.get 6))).toNat) ((zlt _ _).trans (by rw [zrF])) ?_)
   refine zd 1 [(22,(vW ((((x.get 4&&&x.get 5)^^^(~~~(x.get 4)&&&x.get 6))).toNat)))] (zg (zb (zf (ze (zd 2 [(117,(vW ((x.get 1).toNat))),(116,(vW ((x.get 0).toNat)))] (za (zB (some 118) .u32 ((IntKind.u32.wrap ((BitVec.ofInt IntKind.u32.bits (((x.get 0).toNat:Nat):Int)&&&BitVec.ofInt IntKind.u32.bits (((x.get 1).toNat:Nat):Int)).toNat:Int))) (((x.get 0)&&&(x.get 1)).toNat) (zdq (x.get 0) (x.get 1)) ?_)))))))
   refine zd 2 [(120,(vW ((x.get 2).toNat))),(119,(vW ((x.get 0).toNat)))] (za (zB (some 121) .u32 ((IntKind.u32.wrap ((BitVec.ofInt IntKind.u32.bits (((x.get 0).toNat:Nat):Int)&&&BitVec.ofInt IntKind.u32.bits (((x.get 2).toNat:Nat):Int)).toNat:Int))) (((x.get 0)&&&(x.get 2)).toNat) (zdq (x.get 0) (x.get 2)) ?_))
   refine za (zB (some 122) .u32 ((IntKind.u32.wrap ((BitVec.ofInt IntKind.u32.bits ((((x.get 0)&&&(x.get 1)).toNat:Nat):Int)||| BitVec.ofInt IntKind.u32.bits ((((x.get 0)&&&(x.get 2)).toNat:Nat):Int)).toNat:Int))) ((((x.get 0)&&&(x.get 1))|||((x.get 0)&&&(x.get 2))).toNat) (zlt ((x.get 0)&&&(x.get 1)) ((x.get 0)&&&(x.get 2))) ?_)
   refine zd 2 [(124,(vW ((x.get 2).toNat))),(123,(vW ((x.get 1).toNat)))] (za (zB (some 125) .u32 ((IntKind.u32.wrap ((BitVec.ofInt IntKind.u32.bits (((x.get 1).toNat:Nat):Int)&&&BitVec.ofInt IntKind.u32.bits (((x.get 2).toNat:Nat):Int)).toNat:Int))) (((x.get 1)&&&(x.get 2)).toNat) (zdq (x.get 1) (x.get 2)) ?_))
   refine za (zB (some 126) .u32 ((IntKind.u32.wrap ((BitVec.ofInt IntKind.u32.bits ((((x.get 0&&&x.get 1)|||(x.get 0&&&x.get 2)).toNat:Nat):Int)||| BitVec.ofInt IntKind.u32.bits (((x.get 1&&&x.get 2).toNat:Nat):Int)).toNat:Int))) ((((x.get 0&&&x.get 1)^^^(x.get 0&&&x.get 2)^^^(x.get 1&&&x.get 2))).toNat) ((zlt _ _).trans (by rw [zqK])) ?_)
   refine zd 1 [(23,(vW ((((x.get 0&&&x.get 1)^^^(x.get 0&&&x.get 2)^^^(x.get 1&&&x.get 2))).toNat)))] (zg (zb (zf (zah (Ext w108.drew) 21 [(128,1048576,0),(129,131072,0),(130,340282366920938463463374607431768211456,2),(131,131072,0),(132,1361129467683753853853498429727072845824,12),(133,3402823669209384634633746074317682114560,20),(134,131072,0),(135,10889035741470030830827987437816582766592,80),(136,27222589353675077077069968594541456916480,160),(137,43726284149340592555043637054982215172096,257),(138,4194304,0),(139,261336857795280739939871698507597986398208,1536),(140,2097152,0),(141,696898287454081973172991196020261297061920,4096),(142,1393796574908163946345982392040522594123776,8192),(143,3136042293543368879278460382091175836778496,18432),(144,2097152,0),(145,11150372599265311570767859136324180752990336,65536),(146,22300745198530623141535718272648361505980416,131072),(147,50176676696693902068455366113458813388455936,294912),(25,89202980794122492566142873090593446023921664,1048575)] (fun hT1494=> ?_)))))
   have hEw109:Ext w108 w108.drew:=Ext.drew w108
   generalize w108.drew=w109 at hEw109⊢
   have hzw109:=hEw109.size
   refine zl hT1494 [(0,127,(vW ((x.get 7).toNat))),(1,128,(vW ((x.get 4).toNat))),(3,130,(vW ((x.get 4).toNat))),(6,133,(vW ((x.get 4).toNat))),(10,137,(vW ((((x.get 4&&&x.get 5)^^^(~~~(x.get 4)&&&x.get 6))).toNat))),(12,139,(vI i))] 6 5195 (zh hT1494 13 13387 (some 140) (vP w3.heap.size (0+i*1)) (zm (Instr.indexAt 149 (vP w3.heap.size 0) (vI i)) (fun w' hC=>zW (E:=28) (sz:=1) (m:=64) (by omega))) (zh hT1494 14 29771 (some 141) (vW ((kA.get i).toNat)) (zm (Instr.loadAt 28 (vP w3.heap.size (0+i*1))) (fun w' hC=>zo (((hK2.ext hEw109).ext hC).cell (zan i (by omega))))) (zl hT1494 [(16,143,(vI i))] 1 95307 (zh hT1494 17 226379 (some 144) (vP w7.heap.size (0+i*1)) (zm (Instr.indexAt 149 (vP w7.heap.size 0) (vI i)) (fun w' hC=>zW (E:=28) (sz:=1) (m:=64) (by omega))) (zh hT1494 18 488523 (some 145) (vW (((zc b 64).get i).toNat)) (zm (Instr.loadAt 28 (vP w7.heap.size (0+i*1))) (fun w' hC=>zo (((hB2.ext hEw109).ext hC).cell (zan i (by omega))))) (zu 2 488527 (zk (some 129) (zae (x.get 4) 6 _ (by decide) (by decide)) ?_)))))))
   rintro _ w110 ⟨rfl,hEw110⟩
   have hzw110:=hEw110.size
   refine ⟨.inr hEw110, ?_⟩
   refine zu 4 488543 (zk (some 131) (zae (x.get 4) 11 _ (by decide) (by decide)) ?_)
   rintro _ w111 ⟨rfl,hEw111⟩
   have hzw111:=hEw111.size
   refine ⟨.inr (hEw110.trans hEw111), ?_⟩
   refine zh (hw:=show Ext w109 w111 from (hEw110.trans hEw111)) hT1494 5 488575 (some 132) (vW (((rr (x.get 4) 6)^^^(rr (x.get 4) 11)).toNat)) (zw .u32 _ (zZ (rr (x.get 4) 6) (rr (x.get 4) 11))) (zu 7 488703 (zk (some 134) (zae (x.get 4) 25 _ (by decide) (by decide)) ?_))
   rintro _ w112 ⟨rfl,hEw112⟩
   have hzw112:=hEw112.size
   refine ⟨.inr ((hEw110.trans hEw111).trans hEw112), ?_⟩
   refine zh (hw:=show Ext w109 w112 from ((hEw110.trans hEw111).trans hEw112)) hT1494 8 488959 (some 135) (vW ((((rr (x.get 4) 6)^^^(rr (x.get 4) 11))^^^(rr (x.get 4) 25)).toNat)) (zw .u32 _ (zZ ((rr (x.get 4) 6)^^^(rr (x.get 4) 11)) (rr (x.get 4) 25))) (zh (hw:=show Ext w109 w112 from ((hEw110.trans hEw111).trans hEw112)) hT1494 9 489471 (some 136) (vW (((x.get 7)+(((rr (x.get 4) 6)^^^(rr (x.get 4) 11))^^^(rr (x.get 4) 25))).toNat)) (zw .u32 _ (zU (x.get 7) (((rr (x.get 4) 6)^^^(rr (x.get 4) 11))^^^(rr (x.get 4) 25)))) (zh (hw:=show Ext w109 w112 from ((hEw110.trans hEw111).trans hEw112)) hT1494 11 491519 (some 138) (vW ((((x.get 7)+(((rr (x.get 4) 6)^^^(rr (x.get 4) 11))^^^(rr (x.get 4) 25)))+(((x.get 4&&&x.get 5)^^^(~~~(x.get 4)&&&x.get 6)))).toNat)) (zw .u32 _ (zU ((x.get 7)+(((rr (x.get 4) 6)^^^(rr (x.get 4) 11))^^^(rr (x.get 4) 25))) (((x.get 4&&&x.get 5)^^^(~~~(x.get 4)&&&x.get 6))))) (zh (hw:=show Ext w109 w112 from ((hEw110.trans hEw111).trans hEw112)) hT1494 15 524287 (some 142) (vW (((((x.get 7)+(((rr (x.get 4) 6)^^^(rr (x.get 4) 11))^^^(rr (x.get 4) 25)))+(((x.get 4&&&x.get 5)^^^(~~~(x.get 4)&&&x.get 6))))+(kA.get i)).toNat)) (zw .u32 _ (zU (((x.get 7)+(((rr (x.get 4) 6)^^^(rr (x.get 4) 11))^^^(rr (x.get 4) 25)))+(((x.get 4&&&x.get 5)^^^(~~~(x.get 4)&&&x.get 6)))) (kA.get i))) ?_)))
   refine zh (hw:=show Ext w109 w112 from ((hEw110.trans hEw111).trans hEw112)) hT1494 19 1048575 (some 146) (vW ((((((x.get 7)+(((rr (x.get 4) 6)^^^(rr (x.get 4) 11))^^^(rr (x.get 4) 25)))+(((x.get 4&&&x.get 5)^^^(~~~(x.get 4)&&&x.get 6))))+(kA.get i))+((zc b 64).get i)).toNat)) (zw .u32 _ (zU ((((x.get 7)+(((rr (x.get 4) 6)^^^(rr (x.get 4) 11))^^^(rr (x.get 4) 25)))+(((x.get 4&&&x.get 5)^^^(~~~(x.get 4)&&&x.get 6))))+(kA.get i)) ((zc b 64).get i))) (zl (hw:=show Ext w109 w112 from ((hEw110.trans hEw111).trans hEw112)) hT1494 [(20,24,(vW ((((((x.get 7)+(((rr (x.get 4) 6)^^^(rr (x.get 4) 11))^^^(rr (x.get 4) 25)))+(((x.get 4&&&x.get 5)^^^(~~~(x.get 4)&&&x.get 6))))+(kA.get i))+((zc b 64).get i)).toNat)))] 1 2097151 (zL (zb (zf (ze (zd 1 [(147,(vW ((x.get 0).toNat)))] (za (zk (some 148) (zae (x.get 0) 2 _ (by decide) (by decide)) ?_))))))))
   rintro _ w113 ⟨rfl,hEw113⟩
   have hzw113:=hEw113.size
   refine zd 1 [(149,(vW ((x.get 0).toNat)))] (za (zk (some 150) (zae (x.get 0) 13 _ (by decide) (by decide)) ?_))
   rintro _ w114 ⟨rfl,hEw114⟩
   have hzw114:=hEw114.size
   refine za (zB (some 151) .u32 ((IntKind.u32.wrap ((BitVec.ofInt IntKind.u32.bits (((rr (x.get 0) 2).toNat:Nat):Int)^^^BitVec.ofInt IntKind.u32.bits (((rr (x.get 0) 13).toNat:Nat):Int)).toNat:Int))) (((rr (x.get 0) 2)^^^(rr (x.get 0) 13)).toNat) (zZ (rr (x.get 0) 2) (rr (x.get 0) 13)) ?_)
   refine zd 1 [(152,(vW ((x.get 0).toNat)))] (za (zk (some 153) (zae (x.get 0) 22 _ (by decide) (by decide)) ?_))
   rintro _ w115 ⟨rfl,hEw115⟩
   have hzw115:=hEw115.size
   refine za (zB (some 154) .u32 ((IntKind.u32.wrap ((BitVec.ofInt IntKind.u32.bits ((((rr (x.get 0) 2)^^^(rr (x.get 0) 13)).toNat:Nat):Int)^^^BitVec.ofInt IntKind.u32.bits (((rr (x.get 0) 22).toNat:Nat):Int)).toNat:Int))) ((((rr (x.get 0) 2)^^^(rr (x.get 0) 13))^^^(rr (x.get 0) 22)).toNat) (zZ ((rr (x.get 0) 2)^^^(rr (x.get 0) 13)) (rr (x.get 0) 22)) ?_)
   refine zd 1 [(155,(vW ((((x.get 0&&&x.get 1)^^^(x.get 0&&&x.get 2)^^^(x.get 1&&&x.get 2))).toNat)))] (za (zB (some 156) .u32 (IntKind.u32.wrap ((((((rr (x.get 0) 2)^^^(rr (x.get 0) 13))^^^(rr (x.get 0) 22)).toNat:Nat):Int)+(((((x.get 0&&&x.get 1)^^^(x.get 0&&&x.get 2)^^^(x.get 1&&&x.get 2))).toNat:Nat):Int))) (((((rr (x.get 0) 2)^^^(rr (x.get 0) 13))^^^(rr (x.get 0) 22))+(((x.get 0&&&x.get 1)^^^(x.get 0&&&x.get 2)^^^(x.get 1&&&x.get 2)))).toNat) (zU (((rr (x.get 0) 2)^^^(rr (x.get 0) 13))^^^(rr (x.get 0) 22)) (((x.get 0&&&x.get 1)^^^(x.get 0&&&x.get 2)^^^(x.get 1&&&x.get 2)))) ?_))
   refine zd 1 [(25,(vW (((((rr (x.get 0) 2)^^^(rr (x.get 0) 13))^^^(rr (x.get 0) 22))+(((x.get 0&&&x.get 1)^^^(x.get 0&&&x.get 2)^^^(x.get 1&&&x.get 2)))).toNat)))] (zg (zb (ze (zd 5 [(161,(vW ((((((x.get 7)+(((rr (x.get 4) 6)^^^(rr (x.get 4) 11))^^^(rr (x.get 4) 25)))+(((x.get 4&&&x.get 5)^^^(~~~(x.get 4)&&&x.get 6))))+(kA.get i))+((zc b 64).get i)).toNat))),(160,(vW ((x.get 3).toNat))),(159,(vW ((x.get 4).toNat))),(158,(vW ((x.get 5).toNat))),(157,(vW ((x.get 6).toNat)))] (za (zB (some 162) .u32 (IntKind.u32.wrap ((((x.get 3).toNat:Nat):Int)+(((((((x.get 7)+(((rr (x.get 4) 6)^^^(rr (x.get 4) 11))^^^(rr (x.get 4) 25)))+(((x.get 4&&&x.get 5)^^^(~~~(x.get 4)&&&x.get 6))))+(kA.get i))+((zc b 64).get i)).toNat:Nat):Int))) (((x.get 3)+(((((x.get 7)+(((rr (x.get 4) 6)^^^(rr (x.get 4) 11))^^^(rr (x.get 4) 25)))+(((x.get 4&&&x.get 5)^^^(~~~(x.get 4)&&&x.get 6))))+(kA.get i))+((zc b 64).get i))).toNat) (zU (x.get 3) (((((x.get 7)+(((rr (x.get 4) 6)^^^(rr (x.get 4) 11))^^^(rr (x.get 4) 25)))+(((x.get 4&&&x.get 5)^^^(~~~(x.get 4)&&&x.get 6))))+(kA.get i))+((zc b 64).get i))) ?_))))))
   refine zd 5 [(167,(vW (((((rr (x.get 0) 2)^^^(rr (x.get 0) 13))^^^(rr (x.get 0) 22))+(((x.get 0&&&x.get 1)^^^(x.get 0&&&x.get 2)^^^(x.get 1&&&x.get 2)))).toNat))),(166,(vW ((((((x.get 7)+(((rr (x.get 4) 6)^^^(rr (x.get 4) 11))^^^(rr (x.get 4) 25)))+(((x.get 4&&&x.get 5)^^^(~~~(x.get 4)&&&x.get 6))))+(kA.get i))+((zc b 64).get i)).toNat))),(165,(vW ((x.get 0).toNat))),(164,(vW ((x.get 1).toNat))),(163,(vW ((x.get 2).toNat)))] (za (zB (some 168) .u32 (IntKind.u32.wrap ((((((((x.get 7)+(((rr (x.get 4) 6)^^^(rr (x.get 4) 11))^^^(rr (x.get 4) 25)))+(((x.get 4&&&x.get 5)^^^(~~~(x.get 4)&&&x.get 6))))+(kA.get i))+((zc b 64).get i)).toNat:Nat):Int)+((((((rr (x.get 0) 2)^^^(rr (x.get 0) 13))^^^(rr (x.get 0) 22))+(((x.get 0&&&x.get 1)^^^(x.get 0&&&x.get 2)^^^(x.get 1&&&x.get 2)))).toNat:Nat):Int))) (((((((x.get 7)+(((rr (x.get 4) 6)^^^(rr (x.get 4) 11))^^^(rr (x.get 4) 25)))+(((x.get 4&&&x.get 5)^^^(~~~(x.get 4)&&&x.get 6))))+(kA.get i))+((zc b 64).get i))+((((rr (x.get 0) 2)^^^(rr (x.get 0) 13))^^^(rr (x.get 0) 22))+(((x.get 0&&&x.get 1)^^^(x.get 0&&&x.get 2)^^^(x.get 1&&&x.get 2))))).toNat) (zU (((((x.get 7)+(((rr (x.get 4) 6)^^^(rr (x.get 4) 11))^^^(rr (x.get 4) 25)))+(((x.get 4&&&x.get 5)^^^(~~~(x.get 4)&&&x.get 6))))+(kA.get i))+((zc b 64).get i)) ((((rr (x.get 0) 2)^^^(rr (x.get 0) 13))^^^(rr (x.get 0) 22))+(((x.get 0&&&x.get 1)^^^(x.get 0&&&x.get 2)^^^(x.get 1&&&x.get 2))))) ?_))
   refine zd 8 [(13,(vW (((((((x.get 7)+(((rr (x.get 4) 6)^^^(rr (x.get 4) 11))^^^(rr (x.get 4) 25)))+(((x.get 4&&&x.get 5)^^^(~~~(x.get 4)&&&x.get 6))))+(kA.get i))+((zc b 64).get i))+((((rr (x.get 0) 2)^^^(rr (x.get 0) 13))^^^(rr (x.get 0) 22))+(((x.get 0&&&x.get 1)^^^(x.get 0&&&x.get 2)^^^(x.get 1&&&x.get 2))))).toNat))),(14,(vW ((x.get 0).toNat))),(15,(vW ((x.get 1).toNat))),(16,(vW ((x.get 2).toNat))),(17,(vW (((x.get 3)+(((((x.get 7)+(((rr (x.get 4) 6)^^^(rr (x.get 4) 11))^^^(rr (x.get 4) 25)))+(((x.get 4&&&x.get 5)^^^(~~~(x.get 4)&&&x.get 6))))+(kA.get i))+((zc b 64).get i))).toNat))),(18,(vW ((x.get 4).toNat))),(19,(vW ((x.get 5).toNat))),(20,(vW ((x.get 6).toNat)))] (zg (zr (zb (ze (zd 1 [(106,(vI i))] (za (zB (some 107) .i64 (IntKind.i64.wrap (((i:Nat):Int)+((1:Nat):Int))) (i+1) (zF (by omega) (by omega) (by omega)) ?_)))))))
   refine zd 1 [(21,(vI (i+1)))] (zg (zD ?_))
   have hK131:=(((((((((((((hA2.ext hEw109)).ext hEw110)).ext hEw111)).ext hEw112)).ext hEw113)).ext hEw114)).ext hEw115)
   have hK132:=(((((((((((((hB2.ext hEw109)).ext hEw110)).ext hEw111)).ext hEw112)).ext hEw113)).ext hEw114)).ext hEw115)
   have hK133:=(((((((((((((hK2.ext hEw109)).ext hEw110)).ext hEw111)).ext hEw112)).ext hEw113)).ext hEw114)).ext hEw115)
   have hK134:=(((((((((((((hZ42.ext hEw109)).ext hEw110)).ext hEw111)).ext hEw112)).ext hEw113)).ext hEw114)).ext hEw115)
   have hX32:Ext w w115:=(((((((hEm.trans hEw109).trans hEw110).trans hEw111).trans hEw112).trans hEw113).trans hEw114).trans hEw115)
   refine zR (i+1,rnd x (kA.get i) ((zc b 64).get i)) ?_ ?_
   ·exact ⟨by omega,by rw [zdW,←hx],hK131,hK132,hK133,hK134,hX32⟩
   ·first | omega |(dsimp only;omega)
  ·replace hc105:¬(i<64):=by have:=zak hc105;omega
   refine zg (zb (zn (zag (zH (zH (zT (zb (zf (ze ?_)))))))))
   refine za (zi (some 169) (Instr.indexAt 150 (vP w.heap.size 0) (vI 0)) (vP w.heap.size 0) (zW (E:=28) (sz:=1) (m:=8) (by omega)) ?_)
   refine za (zi (some 170) (Instr.loadAt 28 (vP w.heap.size 0)) (vW ((h.get 0).toNat)) (zo (hA2.cell (zaE 0 (by omega)))) ?_)
   refine zd 1 [(171,(vW ((x.get 0).toNat)))] (za (zB (some 172) .u32 (IntKind.u32.wrap ((((h.get 0).toNat:Nat):Int)+(((x.get 0).toNat:Nat):Int))) (((h.get 0)+(x.get 0)).toNat) (zU (h.get 0) (x.get 0)) ?_))
   refine za (zi (some 173) (Instr.indexAt 150 (vP w.heap.size 0) (vI 1)) (vP w.heap.size 1) (zW (E:=28) (sz:=1) (m:=8) (by omega)) ?_)
   refine za (zi (some 174) (Instr.loadAt 28 (vP w.heap.size 1)) (vW ((h.get 1).toNat)) (zo (hA2.cell (zaE 1 (by omega)))) ?_)
   refine zd 1 [(175,(vW ((x.get 1).toNat)))] (za (zB (some 176) .u32 (IntKind.u32.wrap ((((h.get 1).toNat:Nat):Int)+(((x.get 1).toNat:Nat):Int))) (((h.get 1)+(x.get 1)).toNat) (zU (h.get 1) (x.get 1)) ?_))
   refine za (zi (some 177) (Instr.indexAt 150 (vP w.heap.size 0) (vI 2)) (vP w.heap.size 2) (zW (E:=28) (sz:=1) (m:=8) (by omega)) ?_)
   refine za (zi (some 178) (Instr.loadAt 28 (vP w.heap.size 2)) (vW ((h.get 2).toNat)) (zo (hA2.cell (zaE 2 (by omega)))) ?_)
   refine zd 1 [(179,(vW ((x.get 2).toNat)))] (za (zB (some 180) .u32 (IntKind.u32.wrap ((((h.get 2).toNat:Nat):Int)+(((x.get 2).toNat:Nat):Int))) (((h.get 2)+(x.get 2)).toNat) (zU (h.get 2) (x.get 2)) ?_))
   refine za (zi (some 181) (Instr.indexAt 150 (vP w.heap.size 0) (vI 3)) (vP w.heap.size 3) (zW (E:=28) (sz:=1) (m:=8) (by omega)) ?_)
   refine za (zi (some 182) (Instr.loadAt 28 (vP w.heap.size 3)) (vW ((h.get 3).toNat)) (zo (hA2.cell (zaE 3 (by omega)))) ?_)
   refine zd 1 [(183,(vW ((x.get 3).toNat)))] (za (zB (some 184) .u32 (IntKind.u32.wrap ((((h.get 3).toNat:Nat):Int)+(((x.get 3).toNat:Nat):Int))) (((h.get 3)+(x.get 3)).toNat) (zU (h.get 3) (x.get 3)) ?_))
   refine za (zi (some 185) (Instr.indexAt 150 (vP w.heap.size 0) (vI 4)) (vP w.heap.size 4) (zW (E:=28) (sz:=1) (m:=8) (by omega)) ?_)
   refine za (zi (some 186) (Instr.loadAt 28 (vP w.heap.size 4)) (vW ((h.get 4).toNat)) (zo (hA2.cell (zaE 4 (by omega)))) ?_)
   refine zd 1 [(187,(vW ((x.get 4).toNat)))] (za (zB (some 188) .u32 (IntKind.u32.wrap ((((h.get 4).toNat:Nat):Int)+(((x.get 4).toNat:Nat):Int))) (((h.get 4)+(x.get 4)).toNat) (zU (h.get 4) (x.get 4)) ?_))
   refine za (zi (some 189) (Instr.indexAt 150 (vP w.heap.size 0) (vI 5)) (vP w.heap.size 5) (zW (E:=28) (sz:=1) (m:=8) (by omega)) ?_)
   refine za (zi (some 190) (Instr.loadAt 28 (vP w.heap.size 5)) (vW ((h.get 5).toNat)) (zo (hA2.cell (zaE 5 (by omega)))) ?_)
   refine zd 1 [(191,(vW ((x.get 5).toNat)))] (za (zB (some 192) .u32 (IntKind.u32.wrap ((((h.get 5).toNat:Nat):Int)+(((x.get 5).toNat:Nat):Int))) (((h.get 5)+(x.get 5)).toNat) (zU (h.get 5) (x.get 5)) ?_))
   refine za (zi (some 193) (Instr.indexAt 150 (vP w.heap.size 0) (vI 6)) (vP w.heap.size 6) (zW (E:=28) (sz:=1) (m:=8) (by omega)) ?_)
   refine za (zi (some 194) (Instr.loadAt 28 (vP w.heap.size 6)) (vW ((h.get 6).toNat)) (zo (hA2.cell (zaE 6 (by omega)))) ?_)
   refine zd 1 [(195,(vW ((x.get 6).toNat)))] (za (zB (some 196) .u32 (IntKind.u32.wrap ((((h.get 6).toNat:Nat):Int)+(((x.get 6).toNat:Nat):Int))) (((h.get 6)+(x.get 6)).toNat) (zU (h.get 6) (x.get 6)) ?_))
   refine za (zi (some 197) (Instr.indexAt 150 (vP w.heap.size 0) (vI 7)) (vP w.heap.size 7) (zW (E:=28) (sz:=1) (m:=8) (by omega)) ?_)
   refine za (zi (some 198) (Instr.loadAt 28 (vP w.heap.size 7)) (vW ((h.get 7).toNat)) (zo (hA2.cell (zaE 7 (by omega)))) ?_)
   refine zd 1 [(199,(vW ((x.get 7).toNat)))] (za (zB (some 200) .u32 (IntKind.u32.wrap ((((h.get 7).toNat:Nat):Int)+(((x.get 7).toNat:Nat):Int))) (((h.get 7)+(x.get 7)).toNat) (zU (h.get 7) (x.get 7)) ?_))
   refine zd 1 [(201,(vA (w8C ⟨[((h.get 0)+(x.get 0)),((h.get 1)+(x.get 1)),((h.get 2)+(x.get 2)),((h.get 3)+(x.get 3)),((h.get 4)+(x.get 4)),((h.get 5)+(x.get 5)),((h.get 6)+(x.get 6)),((h.get 7)+(x.get 7))],rfl⟩)))] (za (zE 150 w1.heap.size 0 150 (vA (w8C ⟨[((h.get 0)+(x.get 0)),((h.get 1)+(x.get 1)),((h.get 2)+(x.get 2)),((h.get 3)+(x.get 3)),((h.get 4)+(x.get 4)),((h.get 5)+(x.get 5)),((h.get 6)+(x.get 6)),((h.get 7)+(x.get 7))],rfl⟩)) (w8C (WA.zero 8)) (w8C ⟨[((h.get 0)+(x.get 0)),((h.get 1)+(x.get 1)),((h.get 2)+(x.get 2)),((h.get 3)+(x.get 3)),((h.get 4)+(x.get 4)),((h.get 5)+(x.get 5)),((h.get 6)+(x.get 6)),((h.get 7)+(x.get 7))],rfl⟩) hZ42 (by rw [zbf];kernel_rfl) (by first |(simp;done)|(simp;omega)) (zcZ _) ?_))
   intro w116 hBw116 hCw116
   have hzw116:=hCw116.size
   rw [zq _ _ (by simp)] at hBw116
   refine zg (zb (zp (zbA (show zS Tryz.prog 202 _ _ (.cell 4 150) (vA (w8C ⟨[((h.get 0)+(x.get 0)),((h.get 1)+(x.get 1)),((h.get 2)+(x.get 2)),((h.get 3)+(x.get 3)),((h.get 4)+(x.get 4)),((h.get 5)+(x.get 5)),((h.get 6)+(x.get 6)),((h.get 7)+(x.get 7))],rfl⟩)) from ⟨⟨w1.heap.size,0,none⟩,(by kernel_rfl),zM (T:=150) (vs:=w8C ⟨[((h.get 0)+(x.get 0)),((h.get 1)+(x.get 1)),((h.get 2)+(x.get 2)),((h.get 3)+(x.get 3)),((h.get 4)+(x.get 4)),((h.get 5)+(x.get 5)),((h.get 6)+(x.get 6)),((h.get 7)+(x.get 7))],rfl⟩) (hBw116).all (by rw [zbf];kernel_rfl)⟩) ?_)))
   obtain rfl:i=64:=by omega
   exact ⟨by rw [znk,hx],(Ext.own hEm hCw116 (by omega))⟩
end Go.Proofs.YtgdpdnokcnhgnaaGreatDoor
namespace Go.Proofs.YtgdpdnokcnhgnaaGreatDoor
open Go Go.RowKit Go.Cs
set_option maxRecDepth 100000
theorem zrw (w:World) (hg1:Gl 2 (w8C zbc) w):
  Calls Tryz.prog 101 #[] w (Ret fun r w'=>r=(vA (stC Sta.new))∧Ext w w'):=by
 refine zK (n:=3) (σ:= []) Tryz.func101 rfl ?_
 have hgl1:=hg1.lt
 refine zf (ze (za (zz (some 0) (Instr.alloc 186 true (.tuple #[])) (vP w.heap.size 0) (stC Sta.zero) 186 ?_)))
 intro w1 hBw1 hEw1
 have hzw1:=hEw1.size;have hlw1:=hBw1.lt
 refine zg (zb (zf (ze (za (zi (some 1) (Instr.loadAt 150 (vP 2 0)) (vA (w8C zbc)) (zI (vs:=w8C zbc) ((hg1.ext hEw1).all) (by rw [zbf];kernel_rfl)) ?_)))))
 refine za (zi (some 2) (Instr.build 186 #[(0,vT),(1,(vA (w8C zbc)))]) (vA (stC Sta.new)) ((zjJ zbc).trans (congrArg (fun z:Sta=>Result.ok (Value.agg (stC z).toArray) _) (show (⟨true,zbc,List.replicate 64 0,0,by simp,by decide⟩:Sta)=Sta.new from rfl))) ?_)
 refine za (zE 186 w.heap.size 0 186 (vA (stC Sta.new)) (stC Sta.zero) (stC Sta.new) hBw1 (by rw [zbG];kernel_rfl) (by first |(simp;done)|(simp;omega)) (zdQ _) ?_)
 intro w2 hBw2 hCw2
 have hzw2:=hCw2.size
 rw [zq _ _ (by simp)] at hBw2
 exact zg (zb (zp (zbA (show zS Tryz.prog 3 _ _ (.cell 0 186) (vA (stC Sta.new)) from ⟨⟨w.heap.size,0,none⟩,(by kernel_rfl),zM (T:=186) (vs:=stC Sta.new) (hBw2).all (by rw [zbG];kernel_rfl)⟩) (⟨rfl,(Ext.own hEw1 hCw2 (by omega))⟩))))
theorem zfj (s:Sta) {lo_b hi_b:Nat} {a_b:Option Addr} {n_b c_b:Nat} {b:List UInt8} (l:List UInt8) (w:World) (h_b:Bs lo_b hi_b w a_b n_b c_b b) (hp0:Sm s l) (hp1:l.length+n_b<2305843009213693952) (hg2:Gl 3 (zV kA) w):
  Calls Tryz.prog 102 #[(vA (stC s)),(.slice a_b n_b c_b)] w (Ret fun r w'=>∃(a0:Sta),r=(vA (stC a0))∧Sm a0 (l++b)∧Ext w w'):=by
 refine zK (n:=43) (σ:= [(0,(vA (stC s))),(1,(.slice a_b n_b c_b))]) Tryz.func102 rfl ?_
 replace h_b:=h_b.now;have hle_b:=h_b.le
 have hgl2:=hg2.lt
 refine zf (ze (za (zz (some 2) (Instr.box 186 (vA (stC s))) (vP w.heap.size 0) (stC s) 186 ?_)))
 intro w1 hBw1 hEw1
 have hzw1:=hEw1.size;have hlw1:=hBw1.lt
 refine za (zz (some 4) (Instr.alloc 186 true (.tuple #[])) (vP w1.heap.size 0) (stC Sta.zero) 186 ?_)
 intro w2 hBw2 hEw2
 have hzw2:=hEw2.size;have hlw2:=hBw2.lt
 refine zg (zb (zf (zf (ze (zd 1 [(7,(vP w.heap.size 0))] (za (zi (some 8) (Instr.loadAt 4 (vP w.heap.size 0)) vT (zo ((hBw1.ext hEw2).cell (show (stC s)[0]? =some vT from congrArg (fun z=>some (Value.bool z)) hp0.bg))) ?_)))))))
 refine zd 1 [(9,vF)] (zg (zb (zn (zA (zb (zf (zJ (zaj (X:=Nat×Sta×Option Addr) (fun ⟨p,y,ad⟩=> [(1,(.slice ad (n_b-p) (c_b-p)))]) [5,6,11,12,13,14,15,16,17,18,19,20,21,22,23,24,25,26,27,28,29,30,31,32,33,34,35,36,37,38,39,40,41] (fun ⟨p,y,ad⟩ w3=>p≤n_b∧Sm y (l++b.take p)∧Bs lo_b w.heap.size w3 ad (n_b-p) (c_b-p) (b.drop p)∧Blk w3 w.heap.size (stC y) 186∧Blk w3 w1.heap.size (stC Sta.zero) 186∧Ext w w3) (fun ⟨p,y,ad⟩=>n_b-p) (0,s,a_b) (by kernel_rfl) ⟨by omega,by rw [List.take_zero,List.append_nil];exact hp0,by rw [List.drop_zero];exact (((h_b.ext hEw1)).ext hEw2),(hBw1.ext hEw2),hBw2,(hEw1.trans hEw2)⟩ ?_))))))))
 rintro ⟨p,y,ad⟩ dw3 w3 ⟨hp,hsm,hBs,hB2,hB4,hEl⟩
 have hzl:=hEl.size
 have hl2:=hB2.lt;have hl4:=hB4.lt
 have hlen:=h_b.len_eq
 have hle1:=hBs.le
 have hll:(l++b.take p).length=l.length+p:=by simp;omega
 have hmy:y.many=l.length+p:=hsm.many.trans hll
 refine zf (zf (ze (zd 2 [(12,(vI (n_b-p))),(11,(.slice ad (n_b-p) (c_b-p)))] (za (zG (some 13) (decide (((n_b-p:Nat):Int)>((0:Nat):Int))) (fun hc13=> ?_) (fun hc13=> ?_))))))
 ·replace hc13:n_b-p>0:=by have:=zal hc13;omega
  refine zg (zb (zx (zA (zb (zJ (zf (ze (zd 1 [(14,(vP w.heap.size 73))] (za (zi (some 15) (Instr.loadAt 29 (vP w.heap.size 73)) (vQ y.many) (zo (hB2.cell (zgo _))) ?_))))))))))
  refine za (zB (some 16) .u64 (((y.many:Nat):Int).tmod ((64:Nat):Int)) (y.many%64) (zb3 _ _) ?_)
  refine za (zB (some 17) .i64 (IntKind.i64.wrap ((y.many%64:Nat):Int)) (y.many%64) (zF rfl (by omega) (by omega)) ?_)
  refine zd 1 [(5,(vI (y.many%64)))] (zg (zb (zf (ze (zd 2 [(19,(vI (y.many%64))),(18,(vP w.heap.size 9))] (za (zi (some 20) (Instr.sliceAt 184 (vP w.heap.size 9) (some (vI (y.many%64))) none none) (.slice (pA w.heap.size (9+(y.many%64)*1)) (64-(y.many%64)) (64-(y.many%64))) (zgw (len:=64) (E:=5) (sz:=1) (l:=y.many%64) (r:=64) (m:=64) (.inr ⟨_,rfl⟩) (.inl ⟨rfl,rfl⟩) (.inl ⟨rfl,rfl⟩) (by simp) (by omega) (by omega) (by omega) (by omega)) ?_)))))))
  refine zd 1 [(21,(.slice ad (n_b-p) (c_b-p)))] (za (zgp (a:=(pA w.heap.size (9+(y.many%64)*1))) (dl:=64-(y.many%64)) (dc:=64-(y.many%64)) (some 22) 57 57 3 5 w.heap.size (9+y.many%64) hB2 (fun _=>by rw [Nat.mul_one]) (by simp;omega) hBs.es (fun _=>rfl) ?_))
  intro w4 hBw4 hCw4
  have hzw4:=hCw4.size
  rw [show zad (stC y) (9+y.many%64) (((b.drop p).take (min (n_b-p) (64-(y.many%64)))).map u8v)=stC (y.put (y.many%64) ((b.drop p).take (min (n_b-p) (64-(y.many%64)))) (by simp;omega)) from zqh (by simp;omega)] at hBw4
  refine zd 1 [(6,(vI (min (n_b-p) (64-(y.many%64)))))] (zg (zb (zf (ze (zd 1 [(23,(vP w.heap.size 73))] (za (zi (some 24) (Instr.loadAt 29 (vP w.heap.size 73)) (vQ ((y.put (y.many%64) ((b.drop p).take (min (n_b-p) (64-(y.many%64)))) (by simp;omega)).many)) (zo (hBw4.cell (zgo _))) ?_)))))))
  refine zd 1 [(25,(vI (min (n_b-p) (64-(y.many%64)))))] (za (zB (some 26) .u64 (IntKind.u64.wrap ((min (n_b-p) (64-(y.many%64)):Nat):Int)) (min (n_b-p) (64-(y.many%64))) (zbh rfl rfl (by show _<2^64;omega)) ?_))
  refine za (zB (some 27) .u64 (IntKind.u64.wrap ((((y.put (y.many%64) ((b.drop p).take (min (n_b-p) (64-(y.many%64)))) (by simp;omega)).many:Nat):Int)+((min (n_b-p) (64-(y.many%64)):Nat):Int))) (y.many+min (n_b-p) (64-(y.many%64))) (zbh rfl (by push_cast;rfl) (by show _<2^64;omega)) ?_)
  refine zd 1 [(28,(vP w.heap.size 73))] (za (zY 29 w.heap.size 73 186 (vQ (y.many+min (n_b-p) (64-(y.many%64)))) (stC (y.put (y.many%64) ((b.drop p).take (min (n_b-p) (64-(y.many%64)))) (by simp;omega))) hBw4 (by first | decide |(simp;done)|(simp;omega)) ?_))
  intro w5 hBw5 hCw5
  have hzw5:=hCw5.size
  rw [show ((stC (y.put (y.many%64) ((b.drop p).take (min (n_b-p) (64-(y.many%64)))) (by simp;omega))).set 73 (vQ (y.many+min (n_b-p) (64-(y.many%64)))):List Value)=stC ((y.put (y.many%64) ((b.drop p).take (min (n_b-p) (64-(y.many%64)))) (by simp;omega)).setMany (y.many+min (n_b-p) (64-(y.many%64))) (by omega)) from zlv (by omega)] at hBw5
  refine zg (zb (zf (ze (zd 2 [(30,(vI (min (n_b-p) (64-(y.many%64))))),(29,(.slice ad (n_b-p) (c_b-p)))] ?_))))
  obtain ⟨a1,hR1,hS1⟩:=((((hBs).chg hCw4 (fun k h1 h2 hs=>by have h:k=_:=hs;omega))).chg hCw5 (fun k h1 h2 hs=>by have h:k=_:=hs;omega)).slice Tryz.prog 57 5 (min (n_b-p) (64-(y.many%64))) (n_b-p) (c_b-p) (some (vI (min (n_b-p) (64-(y.many%64))))) none none
  refine za (zi (some 31) (Instr.sliceAt 57 (.slice ad (n_b-p) (c_b-p)) (some (vI (min (n_b-p) (64-(y.many%64))))) none none) (.slice a1 (n_b-p-(min (n_b-p) (64-(y.many%64)))) (c_b-p-(min (n_b-p) (64-(y.many%64))))) (hR1 _) ?_)
  refine zd 1 [(1,(.slice a1 (n_b-p-(min (n_b-p) (64-(y.many%64)))) (c_b-p-(min (n_b-p) (64-(y.many%64))))))] (zg (zb (zf (ze (zd 2 [(33,(vI (min (n_b-p) (64-(y.many%64))))),(32,(vI (y.many%64)))] (za (zB (some 34) .i64 (IntKind.i64.wrap (((y.many%64:Nat):Int)+((min (n_b-p) (64-(y.many%64)):Nat):Int))) (y.many%64+(min (n_b-p) (64-(y.many%64)))) (zF (by omega) (by omega) (by omega)) ?_)))))))
  refine za (zG (some 35) ((((y.many%64+(min (n_b-p) (64-(y.many%64))):Nat):Int)==((64:Nat):Int))) (fun hc35=> ?_) (fun hc35=> ?_))
  ·replace hc35:y.many%64+(min (n_b-p) (64-(y.many%64)))=64:=by have:=zat hc35;omega
   refine zg (zb (zx (ze (zd 1 [(36,(vP w.heap.size 1))] (za (zi (some 37) (Instr.loadAt 150 (vP w.heap.size 1)) (vA (w8C ((y.put (y.many%64) ((b.drop p).take (min (n_b-p) (64-(y.many%64)))) (by simp;omega)).setMany (y.many+min (n_b-p) (64-(y.many%64))) (by omega)).h)) (zI (vs:=w8C ((y.put (y.many%64) ((b.drop p).take (min (n_b-p) (64-(y.many%64)))) (by simp;omega)).setMany (y.many+min (n_b-p) (64-(y.many%64))) (by omega)).h) (hBw5.at 1 (w8C ((y.put (y.many%64) ((b.drop p).take (min (n_b-p) (64-(y.many%64)))) (by simp;omega)).setMany (y.many+min (n_b-p) (64-(y.many%64))) (by omega)).h) (zot _)) (by rw [zbf];kernel_rfl)) ?_))))))
   refine zd 1 [(38,(vP w.heap.size 9))] (za (zi (some 39) (Instr.loadAt 184 (vP w.heap.size 9)) (vA (zck ((y.put (y.many%64) ((b.drop p).take (min (n_b-p) (64-(y.many%64)))) (by simp;omega)).setMany (y.many+min (n_b-p) (64-(y.many%64))) (by omega)).rb)) (zI (vs:=zck ((y.put (y.many%64) ((b.drop p).take (min (n_b-p) (64-(y.many%64)))) (by simp;omega)).setMany (y.many+min (n_b-p) (64-(y.many%64))) (by omega)).rb) (hBw5.at 9 (zck ((y.put (y.many%64) ((b.drop p).take (min (n_b-p) (64-(y.many%64)))) (by simp;omega)).setMany (y.many+min (n_b-p) (64-(y.many%64))) (by omega)).rb) (zpm _)) (by rw [zjd];kernel_rfl)) ?_))
   have hK1:=(((((hg2.ext hEl)).chg hCw4 (fun hs=>by have h:_=_:=hs;omega))).chg hCw5 (fun hs=>by have h:_=_:=hs;omega))
   refine za (zk (some 40) (zpB (((y.put (y.many%64) ((b.drop p).take (min (n_b-p) (64-(y.many%64)))) (by simp;omega)).setMany (y.many+min (n_b-p) (64-(y.many%64))) (by omega)).h) (((y.put (y.many%64) ((b.drop p).take (min (n_b-p) (64-(y.many%64)))) (by simp;omega)).setMany (y.many+min (n_b-p) (64-(y.many%64))) (by omega)).rb) _ hK1) ?_)
   rintro _ w6 ⟨rfl,hEw6⟩
   have hzw6:=hEw6.size
   refine zd 1 [(41,(vP w.heap.size 1))] (za (zE 150 w.heap.size 1 186 (vA (w8C (zdZ (((y.put (y.many%64) ((b.drop p).take (min (n_b-p) (64-(y.many%64)))) (by simp;omega)).setMany (y.many+min (n_b-p) (64-(y.many%64))) (by omega)).h) (((y.put (y.many%64) ((b.drop p).take (min (n_b-p) (64-(y.many%64)))) (by simp;omega)).setMany (y.many+min (n_b-p) (64-(y.many%64))) (by omega)).rb).l))) (stC ((y.put (y.many%64) ((b.drop p).take (min (n_b-p) (64-(y.many%64)))) (by simp;omega)).setMany (y.many+min (n_b-p) (64-(y.many%64))) (by omega))) (w8C (zdZ (((y.put (y.many%64) ((b.drop p).take (min (n_b-p) (64-(y.many%64)))) (by simp;omega)).setMany (y.many+min (n_b-p) (64-(y.many%64))) (by omega)).h) (((y.put (y.many%64) ((b.drop p).take (min (n_b-p) (64-(y.many%64)))) (by simp;omega)).setMany (y.many+min (n_b-p) (64-(y.many%64))) (by omega)).rb).l)) (hBw5.ext hEw6) (by rw [zbf];kernel_rfl) (by first |(simp;done)|(simp;omega)) (zcZ _) ?_))
   intro w7 hBw7 hCw7
   have hzw7:=hCw7.size
   rw [show (zad (stC ((y.put (y.many%64) ((b.drop p).take (min (n_b-p) (64-(y.many%64)))) (by simp;omega)).setMany (y.many+min (n_b-p) (64-(y.many%64))) (by omega))) 1 (w8C (zdZ (((y.put (y.many%64) ((b.drop p).take (min (n_b-p) (64-(y.many%64)))) (by simp;omega)).setMany (y.many+min (n_b-p) (64-(y.many%64))) (by omega)).h) (((y.put (y.many%64) ((b.drop p).take (min (n_b-p) (64-(y.many%64)))) (by simp;omega)).setMany (y.many+min (n_b-p) (64-(y.many%64))) (by omega)).rb).l)):List Value)=stC (((y.put (y.many%64) ((b.drop p).take (min (n_b-p) (64-(y.many%64)))) (by simp;omega)).setMany (y.many+min (n_b-p) (64-(y.many%64))) (by omega)).setH (zdZ (((y.put (y.many%64) ((b.drop p).take (min (n_b-p) (64-(y.many%64)))) (by simp;omega)).setMany (y.many+min (n_b-p) (64-(y.many%64))) (by omega)).h) (((y.put (y.many%64) ((b.drop p).take (min (n_b-p) (64-(y.many%64)))) (by simp;omega)).setMany (y.many+min (n_b-p) (64-(y.many%64))) (by omega)).rb).l)) from zkG] at hBw7
   refine zg (zr (zD ?_))
   rw [show n_b-p-(min (n_b-p) (64-(y.many%64)))=n_b-(p+min (n_b-p) (64-(y.many%64))) from by omega,show c_b-p-(min (n_b-p) (64-(y.many%64)))=c_b-(p+min (n_b-p) (64-(y.many%64))) from by omega]
   have hK2:=((((((((hB4).chg hCw4 (fun hs=>by have h:_=_:=hs;omega))).chg hCw5 (fun hs=>by have h:_=_:=hs;omega))).ext hEw6)).chg hCw7 (fun hs=>by have h:_=_:=hs;omega))
   have hX1:Ext w w7:=(Ext.own ((Ext.own (Ext.own hEl hCw4 (by omega)) hCw5 (by omega)).trans hEw6) hCw7 (by omega))
   refine zR (p+min (n_b-p) (64-(y.many%64)),(((y.put (y.many%64) ((b.drop p).take (min (n_b-p) (64-(y.many%64)))) (by simp;omega)).setMany (y.many+min (n_b-p) (64-(y.many%64))) (by omega)).setH (zdZ (((y.put (y.many%64) ((b.drop p).take (min (n_b-p) (64-(y.many%64)))) (by simp;omega)).setMany (y.many+min (n_b-p) (64-(y.many%64))) (by omega)).h) (((y.put (y.many%64) ((b.drop p).take (min (n_b-p) (64-(y.many%64)))) (by simp;omega)).setMany (y.many+min (n_b-p) (64-(y.many%64))) (by omega)).rb).l)),a1) ?_ ?_
   ·exact ⟨by omega,by rw [List.take_add,←List.append_assoc];exact hsm.full (a:=y.many%64) (n:=min (n_b-p) (64-(y.many%64))) (by omega) (by simp;omega) (by omega) _ _,by have hz:=(((hS1.ext hEw6)).chg hCw7 (fun k h1 h2 hs=>by have h:k=_:=hs;omega));rw [show n_b-p-(min (n_b-p) (64-(y.many%64)))=n_b-(p+min (n_b-p) (64-(y.many%64))) from by omega,show c_b-p-(min (n_b-p) (64-(y.many%64)))=c_b-(p+min (n_b-p) (64-(y.many%64))) from by omega,List.take_of_length_le (by simp;omega),List.drop_drop] at hz;exact hz,hBw7,hK2,hX1⟩
   ·first | omega |(dsimp only;omega)
  ·replace hc35:¬(y.many%64+(min (n_b-p) (64-(y.many%64)))=64):=by have:=zas hc35;omega
   refine zg (zb (zn (zA (zr (zD ?_)))))
   rw [show n_b-p-(min (n_b-p) (64-(y.many%64)))=n_b-(p+min (n_b-p) (64-(y.many%64))) from by omega,show c_b-p-(min (n_b-p) (64-(y.many%64)))=c_b-(p+min (n_b-p) (64-(y.many%64))) from by omega]
   refine zR (p+min (n_b-p) (64-(y.many%64)),((y.put (y.many%64) ((b.drop p).take (min (n_b-p) (64-(y.many%64)))) (by simp;omega)).setMany (y.many+min (n_b-p) (64-(y.many%64))) (by omega)),a1) ?_ ?_
   ·exact ⟨by omega,by rw [List.take_add,←List.append_assoc];exact hsm.part (a:=y.many%64) (n:=min (n_b-p) (64-(y.many%64))) (by omega) (by simp;omega) (by omega) _ _,by have hz:=hS1;rw [show n_b-p-(min (n_b-p) (64-(y.many%64)))=n_b-(p+min (n_b-p) (64-(y.many%64))) from by omega,show c_b-p-(min (n_b-p) (64-(y.many%64)))=c_b-(p+min (n_b-p) (64-(y.many%64))) from by omega,List.take_of_length_le (by simp;omega),List.drop_drop] at hz;exact hz,hBw5,((((hB4).chg hCw4 (fun hs=>by have h:_=_:=hs;omega))).chg hCw5 (fun hs=>by have h:_=_:=hs;omega)),(Ext.own (Ext.own hEl hCw4 (by omega)) hCw5 (by omega))⟩
   ·first | omega |(dsimp only;omega)
 ·replace hc13:¬(n_b-p>0):=by have:=zak hc13;omega
  refine zg (zb (zn (zag (zH (zH (zT (zb (zf (ze ?_)))))))))
  refine za (zi (some 42) (Instr.loadAt 186 (vP w.heap.size 0)) (vA (stC y)) (zI (vs:=stC y) (hB2.all) (by rw [zbG];kernel_rfl)) ?_)
  refine za (zE 186 w1.heap.size 0 186 (vA (stC y)) (stC Sta.zero) (stC y) hB4 (by rw [zbG];kernel_rfl) (by first |(simp;done)|(simp;omega)) (zdQ _) ?_)
  intro w8 hBw8 hCw8
  have hzw8:=hCw8.size
  rw [zq _ _ (by simp)] at hBw8
  refine zg (zb (zp (zbA (show zS Tryz.prog 43 _ _ (.cell 4 186) (vA (stC y)) from ⟨⟨w1.heap.size,0,none⟩,(by kernel_rfl),zM (T:=186) (vs:=stC y) (hBw8).all (by rw [zbG];kernel_rfl)⟩) ?_)))
  obtain rfl:p=n_b:=by omega
  rw [List.take_of_length_le (by omega)] at hsm
  exact ⟨y,rfl,hsm,(Ext.own hEl hCw8 (by omega))⟩
end Go.Proofs.YtgdpdnokcnhgnaaGreatDoor
namespace Go.Proofs.YtgdpdnokcnhgnaaGreatDoor
open Go Go.RowKit Go.Cs
set_option maxRecDepth 100000
theorem zqH (s:Sta) (l:List UInt8) (w:World) (hp0:Sm s l) (hp1:l.length<1099511627776) (hg2:Gl 3 (zV kA) w):
  Calls Tryz.prog 103 #[(vA (stC s))] w (Ret fun r w'=>r=(vA (zC (zQ l)))∧Ext w w'):=by
 refine zK (n:=37) (σ:= [(0,(vA (stC s)))]) Tryz.func103 rfl ?_
 have hgl2:=hg2.lt
 have hs0:s.many=l.length:=hp0.many
 refine zf (ze (za (zz (some 1) (Instr.box 186 (vA (stC s))) (vP w.heap.size 0) (stC s) 186 ?_)))
 intro w1 hBw1 hEw1
 have hzw1:=hEw1.size;have hlw1:=hBw1.lt
 refine za (zz (some 2) (Instr.alloc 23 true (.tuple #[])) (vP w1.heap.size 0) (zC Dig.zero) 23 ?_)
 intro w2 hBw2 hEw2
 have hzw2:=hEw2.size;have hlw2:=hBw2.lt
 refine zg (zb (zf (ze (zd 1 [(6,(vP w.heap.size 73))] (za (zi (some 7) (Instr.loadAt 29 (vP w.heap.size 73)) (vQ s.many) (zo ((hBw1.ext hEw2).cell (zgo _))) ?_))))))
 refine zd 1 [(3,(vQ s.many))] (zg (zb (zf (ze (za (zi (some 8) (Instr.loadAt 186 (vP w.heap.size 0)) (vA (stC s)) (zI (vs:=stC s) ((hBw1.ext hEw2).all) (by rw [zbG];kernel_rfl)) ?_))))))
 refine za (zz (some 9) (Instr.buildSlice 57 1 #[(0,(vB 128))]) (.slice (pA w2.heap.size 0) 1 1) [(vB 128)] 5 ?_)
 intro w3 hBw3 hEw3
 have hzw3:=hEw3.size;have hlw3:=hBw3.lt
 have hSw3:Bs w2.heap.size (w2.heap.size+1) w3 (pA w2.heap.size 0) 1 1 [128]:=Bs.of_blk hBw3 (by kernel_rfl) rfl (Nat.le_refl _) (by decide) (Nat.le_refl _) (Nat.lt_succ_self _)
 have hK1:=(((((hg2.ext hEw1)).ext hEw2)).ext hEw3)
 refine za (zk (some 10) (zfj s l _ hSw3 (hp0) (by first | omega |(simp;omega)) hK1) ?_)
 rintro _ w4 ⟨a1,rfl,hFz1_0,hEw4⟩
 have hzw4:=hEw4.size
 have hK2:=(((((hBw1.ext hEw2)).ext hEw3)).ext hEw4)
 refine za (zE 186 w.heap.size 0 186 (vA (stC a1)) (stC s) (stC a1) hK2 (by rw [zbG];kernel_rfl) (by first |(simp;done)|(simp;omega)) (zdQ _) ?_)
 have hK3:=(((((hBw1.ext hEw2)).ext hEw3)).ext hEw4)
 intro w5 hBw5 hCw5
 have hzw5:=hCw5.size
 rw [zq _ _ (by simp)] at hBw5
 refine zg (zb (zf (zJ ?_)))
 have hK4:=(((((hBw2.ext hEw3)).ext hEw4)).chg hCw5 (fun hs=>by have h:_=_:=hs;omega))
 have hX1:Ext w w5:=(Ext.own (((hEw1.trans hEw2).trans hEw3).trans hEw4) hCw5 (by omega))
 refine zaj (X:=Nat×Sta) (fun ⟨z,y⟩=> []) [11,12,13,14,15,16,17] (fun ⟨z,y⟩ w6=>z≤zcj l.length∧Sm y (l++ [128]++List.replicate z 0)∧Blk w6 w.heap.size (stC y) 186∧Blk w6 w1.heap.size (zC Dig.zero) 23∧Ext w w6) (fun ⟨z,y⟩=>zcj l.length-z) (0,a1) (by kernel_rfl) ⟨Nat.zero_le _,by rw [List.replicate_zero,List.append_nil];exact hFz1_0,hBw5,hK4,hX1⟩ ?_
 rintro ⟨z,y⟩ dw6 w6 ⟨hz,hsm,hB1,hB2,hEl⟩
 have hzl:=hEl.size
 have hl1:=hB1.lt;have hl2:=hB2.lt
 have hmy:y.many=l.length+1+z:=hsm.many.trans (by simp;omega)
 have hpz:zcj l.length=(119-l.length%64)%64:=rfl
 refine zf (zf (ze (zd 1 [(11,(vP w.heap.size 73))] (za (zi (some 12) (Instr.loadAt 29 (vP w.heap.size 73)) (vQ y.many) (zo (hB1.cell (zgo _))) ?_)))))
 refine za (zB (some 13) .u64 (((y.many:Nat):Int).tmod ((64:Nat):Int)) (y.many%64) (zb3 _ _) ?_)
 refine za (zG (some 14) ((((y.many%64:Nat):Int) !=((56:Nat):Int))) (fun hc14=> ?_) (fun hc14=> ?_))
 ·replace hc14:¬(y.many%64=56):=by have:=zbK hc14;omega
  refine zg (zb (zx (zA (zb (zJ (ze (za (zi (some 15) (Instr.loadAt 186 (vP w.heap.size 0)) (vA (stC y)) (zI (vs:=stC y) (hB1.all) (by rw [zbG];kernel_rfl)) ?_))))))))
  refine za (zz (some 16) (Instr.buildSlice 57 1 #[(0,(vB 0))]) (.slice (pA w6.heap.size 0) 1 1) [(vB 0)] 5 ?_)
  intro w7 hBw7 hEw7
  have hzw7:=hEw7.size;have hlw7:=hBw7.lt
  have hSw7:Bs w6.heap.size (w6.heap.size+1) w7 (pA w6.heap.size 0) 1 1 [0]:=Bs.of_blk hBw7 (by kernel_rfl) rfl (Nat.le_refl _) (by decide) (Nat.le_refl _) (Nat.lt_succ_self _)
  refine za (zk (some 17) (zfj y (l++ [128]++List.replicate z 0) _ hSw7 (hsm) (by first | omega |(simp;omega)) (((hg2.ext hEl)).ext hEw7)) ?_)
  rintro _ w8 ⟨a2,rfl,hFz2_0,hEw8⟩
  have hzw8:=hEw8.size
  refine za (zE 186 w.heap.size 0 186 (vA (stC a2)) (stC y) (stC a2) (((hB1.ext hEw7)).ext hEw8) (by rw [zbG];kernel_rfl) (by first |(simp;done)|(simp;omega)) (zdQ _) ?_)
  intro w9 hBw9 hCw9
  have hzw9:=hCw9.size
  rw [zq _ _ (by simp)] at hBw9
  refine zg (zr (zD ?_))
  have hK5:=(((((hB2.ext hEw7)).ext hEw8)).chg hCw9 (fun hs=>by have h:_=_:=hs;omega))
  have hX2:Ext w w9:=(Ext.own ((hEl.trans hEw7).trans hEw8) hCw9 (by omega))
  refine zR (z+1,a2) ?_ ?_
  ·exact ⟨by omega,by have hz:=hFz2_0;rw [List.append_assoc] at hz;rw [List.replicate_succ'];exact hz,hBw9,hK5,hX2⟩
  ·first | omega |(dsimp only;omega)
 ·replace hc14:y.many%64=56:=by have:=zbH hc14;omega
  refine zg (zb (zn (zag (zH (zH (zT (zb (zf (zah (Chg (fun k=>k=w.heap.size) w6.drew) 6 [(19,2,0),(20,8,0),(21,524288,2),(22,1048576,4),(23,2359296,9),(0,4194306,31)] (fun hT96=> ?_))))))))))
  have hEw10:Ext w6 w6.drew:=Ext.drew w6
  generalize w6.drew=w10 at hEw10⊢
  have hzw10:=hEw10.size
  refine zl (hw:=show Chg (fun k=>k=w.heap.size) w10 w10 from (Chg.refl (fun k=>k=w.heap.size) w10)) hT96 [(1,19,(vQ s.many))] 1 2 (zh (hw:=show Chg (fun k=>k=w.heap.size) w10 w10 from (Chg.refl (fun k=>k=w.heap.size) w10)) hT96 2 6 (some 20) (vQ (8*l.length%2^64)) (zw .u64 (IntKind.u64.wrap (((8:Nat):Int)*((s.many:Nat):Int))) (by rw [hs0];exact zcq rfl (by simp))) (zaB 0 3 7 14 ?_ ?_))
  ·refine zi (some 18) (Instr.loadAt 186 (vP w.heap.size 0)) (vA (stC y)) (zI (vs:=stC y) ((hB1.ext hEw10).all) (by rw [zbG];kernel_rfl)) (⟨.inr (Chg.refl (fun k=>k=w.heap.size) w10), ?_⟩)
   refine zu 3 15 (zk (some 21) (zic (8*l.length%2^64) _) ?_)
   rintro _ w11 ⟨a3,rfl,hFz3_0,hEw11⟩
   have hzw11:=hEw11.size
   refine ⟨.inr ((Chg.refl (fun k=>k=w.heap.size) w10).trans hEw11.chg), ?_⟩
   have hK6:=(((((hg2.ext hEl)).ext hEw10)).ext hEw11)
   refine zu 4 31 (zk (some 22) (zfj y (l++ [128]++List.replicate z 0) _ hFz3_0 (hsm) (by first | omega |(simp;omega)) hK6) ?_)
   rintro _ w12 ⟨a4,rfl,hFz4_0,hEw12⟩
   have hzw12:=hEw12.size
   refine ⟨.inr (((Chg.refl (fun k=>k=w.heap.size) w10).trans hEw11.chg).trans hEw12.chg), ?_⟩
   have hK7:=(((((hB1.ext hEw10)).ext hEw11)).ext hEw12)
   refine zu 5 63 (zE 186 w.heap.size 0 186 (vA (stC a4)) (stC y) (stC a4) hK7 (by rw [zbG];kernel_rfl) (by first |(simp;done)|(simp;omega)) (zdQ _) ?_)
   have hK8:=(((((hB1.ext hEw10)).ext hEw11)).ext hEw12)
   intro w13 hBw13 hCw13
   have hzw13:=hCw13.size
   rw [zq _ _ (by simp)] at hBw13
   refine ⟨.inl (by kernel_rfl), ?_⟩
   refine zL (zb (zf (zf (ze (zd 1 [(23,(vP w.heap.size 1))] (za (zi (some 24) (Instr.loadAt 150 (vP w.heap.size 1)) (vA (w8C a4.h)) (zI (vs:=w8C a4.h) (hBw13.at 1 (w8C a4.h) (zot _)) (by rw [zbf];kernel_rfl)) ?_)))))))
   refine zd 1 [(25,(vI 0))] (zg (zb (zJ ?_)))
   obtain rfl:z=zcj l.length:=by omega
   have hfin:a4.h=zcC (zbv l) ((zbv l).length/64):=by exact (show Sm _ (zbv l) from hFz4_0).h
   generalize hH:a4.h=H at hfin⊢
   have hK9:=(((((((hB2.ext hEw10)).ext hEw11)).ext hEw12)).chg hCw13 (fun hs=>by have h:_=_:=hs;omega))
   have hX3:Ext w w13:=(Ext.own (((hEl.trans hEw10).trans hEw11).trans hEw12) hCw13 (by omega))
   refine zaj (X:=Nat) (fun i=> [(25,(vI i))]) [4,5,26,27,28,29,30,31,32,33,34,35] (fun i w14=>i≤8∧Blk w14 w1.heap.size (u8s (dgP H i)) 23∧Ext w w14) (fun i=>8-i) 0 (by kernel_rfl) ⟨by omega,(zgJ H).symm▸hK9,hX3⟩ ?_
   rintro i dw14 w14 ⟨hi,hBd,hEm⟩
   have hzm:=hEm.size
   have hld:=hBd.lt
   have hdl:=zgt H hi
   refine zf (ze (za (zG (some 26) (decide (((i:Nat):Int)<((8:Nat):Int))) (fun hc26=> ?_) (fun hc26=> ?_))))
   ·replace hc26:i<8:=by have:=zal hc26;omega
    refine zg (zb (zf (zx (zA (zb (zf (zJ (zf (ze ?_)))))))))
    refine zd 1 [(27,(vI i))] (za (zi (some 28) (Instr.index 150 (vA (w8C H)) (vI i)) (vW ((H.get i).toNat)) (zhW (E:=28) (m:=8) (by omega) (zlO (by omega))) ?_))
    refine zd 2 [(5,(vW ((H.get i).toNat))),(4,(vI i))] (zg (zb (zah (Chg (fun k=>k=w1.heap.size) w14.drew) 6 [(30,16,0),(31,536870912,1),(32,1073741828,2),(33,32,0),(34,4294967296,8),(35,10737418240,20)] (fun hT161=> ?_))))
    have hEw15:Ext w14 w14.drew:=Ext.drew w14
    generalize w14.drew=w15 at hEw15⊢
    have hzw15:=hEw15.size
    refine zl (hw:=show Chg (fun k=>k=w1.heap.size) w15 w15 from (Chg.refl (fun k=>k=w1.heap.size) w15)) hT161 [(0,29,(vI i))] 1 1 (zh (hw:=show Chg (fun k=>k=w1.heap.size) w15 w15 from (Chg.refl (fun k=>k=w1.heap.size) w15)) hT161 1 3 (some 30) (vI (4*i)) (zw .i64 (IntKind.i64.wrap (((4:Nat):Int)*((i:Nat):Int))) (zF (by omega) (by omega) (by omega))) (zh (hw:=show Chg (fun k=>k=w1.heap.size) w15 w15 from (Chg.refl (fun k=>k=w1.heap.size) w15)) hT161 2 7 (some 31) (.slice (pA w1.heap.size (0+(4*i)*1)) (32-(4*i)) (32-(4*i))) (zm (Instr.sliceAt 23 (vP w1.heap.size 0) (some (vI (4*i))) none none) (fun w' hC=>zgw (len:=32) (E:=5) (sz:=1) (l:=4*i) (r:=32) (m:=32) (.inr ⟨_,rfl⟩) (.inl ⟨rfl,rfl⟩) (.inl ⟨rfl,rfl⟩) (by simp) (by omega) (by omega) (by omega) (by omega))) (zl (hw:=show Chg (fun k=>k=w1.heap.size) w15 w15 from (Chg.refl (fun k=>k=w1.heap.size) w15)) hT161 [(3,32,(vW ((H.get i).toNat)))] 1 15 (zu 4 31 (zk (some 33) (zd4 ((H.get i).toNat) _ (UInt32.toNat_lt _)) ?_)))))
    rintro _ w16 ⟨a5,rfl,hFz5_0,hEw16⟩
    have hzw16:=hEw16.size
    refine ⟨.inr ((Chg.refl (fun k=>k=w1.heap.size) w15).trans hEw16.chg), ?_⟩
    refine zu 5 63 (zgp (a:=(pA w1.heap.size (0+(4*i)*1))) (dl:=32-(4*i)) (dc:=32-(4*i)) (some 34) 57 57 3 5 w1.heap.size (i*4) (((hBd.ext hEw15)).ext hEw16) (fun _=>by rw [Nat.zero_add,Nat.mul_one,Nat.mul_comm]) (by rw [zaN,hdl];omega) hFz5_0.es (fun _=>rfl) ?_)
    intro w17 hBw17 hCw17
    have hzw17:=hCw17.size
    rw [show zad (u8s (dgP H i)) (i*4) (((be ((H.get i).toNat) 4).take (min 4 (32-(4*i)))).map u8v)=u8s (dgP H (i+1)) from by rw [show min 4 (32-(4*i))=4 from by omega,List.take_of_length_le (by simp)];exact zja (by omega)] at hBw17
    refine ⟨.inr (Chg.then ((Chg.refl (fun k=>k=w1.heap.size) w15).trans hEw16.chg) hCw17 (fun k hk hs=>by have h:k=_:=hs;first | exact hs | exact .inl h | exact .inr h |(exfalso;omega))), ?_⟩
    refine zL (zr (zb (ze (za (zB (some 35) .i64 (IntKind.i64.wrap (((i:Nat):Int)+((1:Nat):Int))) (i+1) (zF (by omega) (by omega) (by omega)) ?_)))))
    refine zd 1 [(25,(vI (i+1)))] (zg (zD ?_))
    have hX4:Ext w w17:=(Ext.own ((hEm.trans hEw15).trans hEw16) hCw17 (by omega))
    refine zR (i+1) ?_ ?_
    ·exact ⟨by omega,hBw17,hX4⟩
    ·first | omega |(dsimp only;omega)
   ·replace hc26:¬(i<8):=by have:=zak hc26;omega
    refine zg (zb (zf (zn (zag (zH (zH (zT (zb (zf ?_)))))))))
    refine ze ?_
    obtain rfl:i=8:=by omega
    have hBe:Blk w14 w1.heap.size (zC (zQ l)) 23:=by have hq:=hBd;rw [hfin,zh5] at hq;exact hq
    refine za (zi (some 36) (Instr.loadAt 23 (vP w1.heap.size 0)) (vA (zC (zQ l))) (zI (vs:=zC (zQ l)) hBe.all (by rw [zab];kernel_rfl)) ?_)
    refine za (zE 23 w1.heap.size 0 23 (vA (zC (zQ l))) (zC (zQ l)) (zC (zQ l)) hBe (by rw [zab];kernel_rfl) (by first |(simp;done)|(simp;omega)) (zaX _) ?_)
    intro w18 hBw18 hCw18
    have hzw18:=hCw18.size
    rw [zq _ _ (by simp)] at hBw18
    exact zg (zb (zp (zbA (show zS Tryz.prog 37 _ _ (.cell 2 23) (vA (zC (zQ l))) from ⟨⟨w1.heap.size,0,none⟩,(by kernel_rfl),zM (T:=23) (vs:=zC (zQ l)) (hBw18).all (by rw [zab];kernel_rfl)⟩) (⟨rfl,(Ext.own hEm hCw18 (by omega))⟩))))
  ·refine zk (some 21) (zic (8*l.length%2^64) _) ?_
   rintro _ w19 ⟨a6,rfl,hFz6_0,hEw19⟩
   have hzw19:=hEw19.size
   refine ⟨.inr ((Chg.refl (fun k=>k=w.heap.size) w10).trans hEw19.chg), ?_⟩
   refine zu 0 15 (zi (some 18) (Instr.loadAt 186 (vP w.heap.size 0)) (vA (stC y)) (zI (vs:=stC y) ((((hB1.ext hEw10)).ext hEw19).all) (by rw [zbG];kernel_rfl)) ?_)
   refine ⟨.inr ((Chg.refl (fun k=>k=w.heap.size) w10).trans hEw19.chg), ?_⟩
   have hK10:=(((((hg2.ext hEl)).ext hEw10)).ext hEw19)
   refine zu 4 31 (zk (some 22) (zfj y (l++ [128]++List.replicate z 0) _ hFz6_0 (hsm) (by first | omega |(simp;omega)) hK10) ?_)
   rintro _ w20 ⟨a7,rfl,hFz7_0,hEw20⟩
   have hzw20:=hEw20.size
   refine ⟨.inr (((Chg.refl (fun k=>k=w.heap.size) w10).trans hEw19.chg).trans hEw20.chg), ?_⟩
   have hK11:=(((((hB1.ext hEw10)).ext hEw19)).ext hEw20)
   refine zu 5 63 (zE 186 w.heap.size 0 186 (vA (stC a7)) (stC y) (stC a7) hK11 (by rw [zbG];kernel_rfl) (by first |(simp;done)|(simp;omega)) (zdQ _) ?_)
   have hK12:=(((((hB1.ext hEw10)).ext hEw19)).ext hEw20)
   intro w21 hBw21 hCw21
   have hzw21:=hCw21.size
   rw [zq _ _ (by simp)] at hBw21
   refine ⟨.inl (by kernel_rfl), ?_⟩
   refine zL (zb (zf (zf (ze (zd 1 [(23,(vP w.heap.size 1))] (za (zi (some 24) (Instr.loadAt 150 (vP w.heap.size 1)) (vA (w8C a7.h)) (zI (vs:=w8C a7.h) (hBw21.at 1 (w8C a7.h) (zot _)) (by rw [zbf];kernel_rfl)) ?_)))))))
   refine zd 1 [(25,(vI 0))] (zg (zb (zJ ?_)))
   obtain rfl:z=zcj l.length:=by omega
   have hfin:a7.h=zcC (zbv l) ((zbv l).length/64):=by exact (show Sm _ (zbv l) from hFz7_0).h
   generalize hH:a7.h=H at hfin⊢
   have hK13:=(((((((hB2.ext hEw10)).ext hEw19)).ext hEw20)).chg hCw21 (fun hs=>by have h:_=_:=hs;omega))
   have hX5:Ext w w21:=(Ext.own (((hEl.trans hEw10).trans hEw19).trans hEw20) hCw21 (by omega))
   refine zaj (X:=Nat) (fun i=> [(25,(vI i))]) [4,5,26,27,28,29,30,31,32,33,34,35] (fun i w22=>i≤8∧Blk w22 w1.heap.size (u8s (dgP H i)) 23∧Ext w w22) (fun i=>8-i) 0 (by kernel_rfl) ⟨by omega,(zgJ H).symm▸hK13,hX5⟩ ?_
   rintro i dw22 w22 ⟨hi,hBd,hEm⟩
   have hzm:=hEm.size
   have hld:=hBd.lt
   have hdl:=zgt H hi
   refine zf (ze (za (zG (some 26) (decide (((i:Nat):Int)<((8:Nat):Int))) (fun hc26=> ?_) (fun hc26=> ?_))))
   ·replace hc26:i<8:=by have:=zal hc26;omega
    refine zg (zb (zf (zx (zA (zb (zf (zJ (zf (ze ?_)))))))))
    refine zd 1 [(27,(vI i))] (za (zi (some 28) (Instr.index 150 (vA (w8C H)) (vI i)) (vW ((H.get i).toNat)) (zhW (E:=28) (m:=8) (by omega) (zlO (by omega))) ?_))
    refine zd 2 [(5,(vW ((H.get i).toNat))),(4,(vI i))] (zg (zb (zah (Chg (fun k=>k=w1.heap.size) w22.drew) 6 [(30,16,0),(31,536870912,1),(32,1073741828,2),(33,32,0),(34,4294967296,8),(35,10737418240,20)] (fun hT272=> ?_))))
    have hEw23:Ext w22 w22.drew:=Ext.drew w22
    generalize w22.drew=w23 at hEw23⊢
    have hzw23:=hEw23.size
    refine zl (hw:=show Chg (fun k=>k=w1.heap.size) w23 w23 from (Chg.refl (fun k=>k=w1.heap.size) w23)) hT272 [(0,29,(vI i))] 1 1 (zh (hw:=show Chg (fun k=>k=w1.heap.size) w23 w23 from (Chg.refl (fun k=>k=w1.heap.size) w23)) hT272 1 3 (some 30) (vI (4*i)) (zw .i64 (IntKind.i64.wrap (((4:Nat):Int)*((i:Nat):Int))) (zF (by omega) (by omega) (by omega))) (zh (hw:=show Chg (fun k=>k=w1.heap.size) w23 w23 from (Chg.refl (fun k=>k=w1.heap.size) w23)) hT272 2 7 (some 31) (.slice (pA w1.heap.size (0+(4*i)*1)) (32-(4*i)) (32-(4*i))) (zm (Instr.sliceAt 23 (vP w1.heap.size 0) (some (vI (4*i))) none none) (fun w' hC=>zgw (len:=32) (E:=5) (sz:=1) (l:=4*i) (r:=32) (m:=32) (.inr ⟨_,rfl⟩) (.inl ⟨rfl,rfl⟩) (.inl ⟨rfl,rfl⟩) (by simp) (by omega) (by omega) (by omega) (by omega))) (zl (hw:=show Chg (fun k=>k=w1.heap.size) w23 w23 from (Chg.refl (fun k=>k=w1.heap.size) w23)) hT272 [(3,32,(vW ((H.get i).toNat)))] 1 15 (zu 4 31 (zk (some 33) (zd4 ((H.get i).toNat) _ (UInt32.toNat_lt _)) ?_)))))
    rintro _ w24 ⟨a8,rfl,hFz8_0,hEw24⟩
    have hzw24:=hEw24.size
    refine ⟨.inr ((Chg.refl (fun k=>k=w1.heap.size) w23).trans hEw24.chg), ?_⟩
    refine zu 5 63 (zgp (a:=(pA w1.heap.size (0+(4*i)*1))) (dl:=32-(4*i)) (dc:=32-(4*i)) (some 34) 57 57 3 5 w1.heap.size (i*4) (((hBd.ext hEw23)).ext hEw24) (fun _=>by rw [Nat.zero_add,Nat.mul_one,Nat.mul_comm]) (by rw [zaN,hdl];omega) hFz8_0.es (fun _=>rfl) ?_)
    intro w25 hBw25 hCw25
    have hzw25:=hCw25.size
    rw [show zad (u8s (dgP H i)) (i*4) (((be ((H.get i).toNat) 4).take (min 4 (32-(4*i)))).map u8v)=u8s (dgP H (i+1)) from by rw [show min 4 (32-(4*i))=4 from by omega,List.take_of_length_le (by simp)];exact zja (by omega)] at hBw25
    refine ⟨.inr (Chg.then ((Chg.refl (fun k=>k=w1.heap.size) w23).trans hEw24.chg) hCw25 (fun k hk hs=>by have h:k=_:=hs;first | exact hs | exact .inl h | exact .inr h |(exfalso;omega))), ?_⟩
    refine zL (zr (zb (ze (za (zB (some 35) .i64 (IntKind.i64.wrap (((i:Nat):Int)+((1:Nat):Int))) (i+1) (zF (by omega) (by omega) (by omega)) ?_)))))
    refine zd 1 [(25,(vI (i+1)))] (zg (zD ?_))
    have hX6:Ext w w25:=(Ext.own ((hEm.trans hEw23).trans hEw24) hCw25 (by omega))
    refine zR (i+1) ?_ ?_
    ·exact ⟨by omega,hBw25,hX6⟩
    ·first | omega |(dsimp only;omega)
   ·replace hc26:¬(i<8):=by have:=zak hc26;omega
    refine zg (zb (zf (zn (zag (zH (zH (zT (zb (zf ?_)))))))))
    refine ze ?_
    obtain rfl:i=8:=by omega
    have hBe:Blk w22 w1.heap.size (zC (zQ l)) 23:=by have hq:=hBd;rw [hfin,zh5] at hq;exact hq
    refine za (zi (some 36) (Instr.loadAt 23 (vP w1.heap.size 0)) (vA (zC (zQ l))) (zI (vs:=zC (zQ l)) hBe.all (by rw [zab];kernel_rfl)) ?_)
    refine za (zE 23 w1.heap.size 0 23 (vA (zC (zQ l))) (zC (zQ l)) (zC (zQ l)) hBe (by rw [zab];kernel_rfl) (by first |(simp;done)|(simp;omega)) (zaX _) ?_)
    intro w26 hBw26 hCw26
    have hzw26:=hCw26.size
    rw [zq _ _ (by simp)] at hBw26
    exact zg (zb (zp (zbA (show zS Tryz.prog 37 _ _ (.cell 2 23) (vA (zC (zQ l))) from ⟨⟨w1.heap.size,0,none⟩,(by kernel_rfl),zM (T:=23) (vs:=zC (zQ l)) (hBw26).all (by rw [zab];kernel_rfl)⟩) (⟨rfl,(Ext.own hEm hCw26 (by omega))⟩))))
theorem zrD {lo_ls hi_ls:Nat} {a_ls:Option Addr} {n_ls c_ls:Nat} {v_ls:List Value} {ls:List (List UInt8)} (w:World) (h_ls:Ps lo_ls hi_ls w a_ls n_ls c_ls v_ls ls) (hp0:zX ls<1099511627776) (hg1:Gl 2 (w8C zbc) w) (hg2:Gl 3 (zV kA) w):
  Calls Tryz.prog 73 #[(.slice a_ls n_ls c_ls)] w (Ret fun r w'=>r=(vA (zC (zQ ls.flatten)))∧Ext w w'):=by
 refine zK (n:=19) (σ:= [(0,(.slice a_ls n_ls c_ls))]) Tryz.func73 rfl ?_
 replace h_ls:=h_ls.now;have hle_ls:=h_ls.le
 have hgl1:=hg1.lt
 have hgl2:=hg2.lt
 refine zf (ze (za (zz (some 2) (Instr.alloc 23 true (.tuple #[])) (vP w.heap.size 0) (zC Dig.zero) 23 ?_)))
 intro w1 hBw1 hEw1
 have hzw1:=hEw1.size;have hlw1:=hBw1.lt
 refine zg (zb (zf (ze (za (zk (some 6) (zrw _ (hg1.ext hEw1)) ?_)))))
 rintro _ w2 ⟨rfl,hEw2⟩
 have hzw2:=hEw2.size
 refine za (zz (some 3) (Instr.alloc 186 true (.tuple #[])) (vP w2.heap.size 0) (stC Sta.zero) 186 ?_)
 intro w3 hBw3 hEw3
 have hzw3:=hEw3.size;have hlw3:=hBw3.lt
 refine za (zE 186 w2.heap.size 0 186 (vA (stC Sta.new)) (stC Sta.zero) (stC Sta.new) hBw3 (by rw [zbG];kernel_rfl) (by first |(simp;done)|(simp;omega)) (zdQ _) ?_)
 intro w4 hBw4 hCw4
 have hzw4:=hCw4.size
 rw [zq _ _ (by simp)] at hBw4
 refine zg (zb (zf (zf (ze (zd 3 [(9,(vI 0)),(8,(vI n_ls)),(7,(.slice a_ls n_ls c_ls))] (zg (zb (zJ ?_))))))))
 have hK1:=(((((hBw1.ext hEw2)).ext hEw3)).chg hCw4 (fun hs=>by have h:_=_:=hs;omega))
 have hX1:Ext w w4:=(Ext.own ((hEw1.trans hEw2).trans hEw3) hCw4 (by omega))
 refine zaj (X:=Nat×Sta) (fun ⟨i,y⟩=> [(9,(vI i))]) [5,10,11,12,13,14,15,16] (fun ⟨i,y⟩ w5=>i≤n_ls∧Sm y (ls.take i).flatten∧Blk w5 w2.heap.size (stC y) 186∧Blk w5 w.heap.size (zC Dig.zero) 23∧Ext w w5) (fun ⟨i,y⟩=>n_ls-i) (0,Sta.new) (by kernel_rfl) ⟨by omega,Sm.new,hBw4,hK1,hX1⟩ ?_
 rintro ⟨i,y⟩ dw5 w5 ⟨hi,hsm,hB3,hB2,hEl⟩
 have hzl:=hEl.size
 have hl3:=hB3.lt;have hl2:=hB2.lt
 have hlen:=h_ls.len_eq
 have hsl:=zdS ls i
 have hsl1:=zdS ls (i+1)
 have hfl:=zdj (ls.take i)
 refine zf (ze (za (zG (some 10) (decide (((i:Nat):Int)<((n_ls:Nat):Int))) (fun hc10=> ?_) (fun hc10=> ?_))))
 ·replace hc10:i<n_ls:=by have:=zal hc10;omega
  refine zg (zb (zf (zx (zA (zb (zf (zJ (zf (ze ?_)))))))))
  obtain ⟨b1,o1,rfl⟩:=h_ls.addr (by omega)
  refine za (zi (some 11) (Instr.indexAt 183 (.slice (pA b1 o1) n_ls c_ls) (vI i)) (vP b1 (o1+i*1)) (zap (E:=57) (sz:=1) (by omega)) ?_)
  obtain ⟨a1,n1,cp1,hP1,hS1⟩:=((h_ls.ext hEl)).cell (i:=i) (by omega)
  have hlehS1:=hS1.le;have hlnhS1:=hS1.len_eq;have hsthS1:=zeg (ls:=ls) (i:=i) (by omega)
  refine za (zi (some 12) (Instr.loadAt 57 (vP b1 (o1+i*1))) (.slice a1 n1 cp1) (zo hP1) ?_)
  refine zd 1 [(5,(.slice a1 n1 cp1))] (zg (zb (ze (za (zi (some 13) (Instr.loadAt 186 (vP w2.heap.size 0)) (vA (stC y)) (zI (vs:=stC y) (hB3.all) (by rw [zbG];kernel_rfl)) ?_)))))
  refine zd 1 [(14,(.slice a1 n1 cp1))] (za (zk (some 15) (zfj y ((ls.take i).flatten) _ hS1 (hsm) (by first | omega | decide) (hg2.ext hEl)) ?_))
  rintro _ w6 ⟨a2,rfl,hFz2_0,hEw6⟩
  have hzw6:=hEw6.size
  refine za (zE 186 w2.heap.size 0 186 (vA (stC a2)) (stC y) (stC a2) (hB3.ext hEw6) (by rw [zbG];kernel_rfl) (by first |(simp;done)|(simp;omega)) (zdQ _) ?_)
  intro w7 hBw7 hCw7
  have hzw7:=hCw7.size
  rw [zq _ _ (by simp)] at hBw7
  refine zg (zr (zb (ze (za (zB (some 16) .i64 (IntKind.i64.wrap (((i:Nat):Int)+((1:Nat):Int))) (i+1) (zF (by omega) (by omega) (by omega)) ?_)))))
  refine zd 1 [(9,(vI (i+1)))] (zg (zD (zR (i+1,a2) ?_ ?_)))
  ·exact ⟨by omega,by rw [zf2 (by omega)];exact hFz2_0,hBw7,(((hB2.ext hEw6)).chg hCw7 (fun hs=>by have h:_=_:=hs;omega)),(Ext.own (hEl.trans hEw6) hCw7 (by omega))⟩
  ·first | omega |(dsimp only;omega)
 ·replace hc10:¬(i<n_ls):=by have:=zak hc10;omega
  obtain rfl:i=n_ls:=by omega
  rw [List.take_of_length_le (by omega)] at hsm hfl
  refine zg (zb (zf (zn (zag (zH (zH (zT (zb (zf ?_)))))))))
  refine ze (za (zi (some 17) (Instr.loadAt 186 (vP w2.heap.size 0)) (vA (stC y)) (zI (vs:=stC y) (hB3.all) (by rw [zbG];kernel_rfl)) ?_))
  refine za (zk (some 18) (zqH y ls.flatten _ (hsm) (by first | omega | decide) (hg2.ext hEl)) ?_)
  rintro _ w8 ⟨rfl,hEw8⟩
  have hzw8:=hEw8.size
  refine za (zE 23 w.heap.size 0 23 (vA (zC (zQ ls.flatten))) (zC Dig.zero) (zC (zQ ls.flatten)) (hB2.ext hEw8) (by rw [zab];kernel_rfl) (by first |(simp;done)|(simp;omega)) (zaX _) ?_)
  intro w9 hBw9 hCw9
  have hzw9:=hCw9.size
  rw [zq _ _ (by simp)] at hBw9
  exact zg (zb (zp (zbA (show zS Tryz.prog 19 _ _ (.cell 2 23) (vA (zC (zQ ls.flatten))) from ⟨⟨w.heap.size,0,none⟩,(by kernel_rfl),zM (T:=23) (vs:=zC (zQ ls.flatten)) (hBw9).all (by rw [zab];kernel_rfl)⟩) (⟨rfl,(Ext.own (hEl.trans hEw8) hCw9 (by omega))⟩))))
end Go.Proofs.YtgdpdnokcnhgnaaGreatDoor
namespace Go.Proofs.YtgdpdnokcnhgnaaGreatDoor
open Go Go.RowKit Go.Cs
set_option maxRecDepth 100000
theorem zqw {lo_b hi_b:Nat} {a_b:Option Addr} {n_b c_b:Nat} {b:List UInt8} (w:World) (h_b:Bs lo_b hi_b w a_b n_b c_b b) (hp0:n_b≤1099511627776):
  Calls Tryz.prog 60 #[(.slice a_b n_b c_b)] w (Ret fun r w'=>r=(vA (zC (zQ b)))∧Ext w w'):=by
 refine zK (n:=69) (σ:= [(0,(.slice a_b n_b c_b))]) Tryz.func60 rfl ?_
 replace h_b:=h_b.now;have hle_b:=h_b.le
 refine zf (ze (za (zz (some 2) (Instr.alloc 23 true (.tuple #[])) (vP w.heap.size 0) (zC Dig.zero) 23 ?_)))
 intro w1 hBw1 hEw1
 have hzw1:=hEw1.size;have hlw1:=hBw1.lt
 refine zg (zb (zf (ze (za (zz (some 11) (Instr.buildSlice 57 0 #[]) (.slice (pA w1.heap.size 0) 0 0) [] 5 ?_)))))
 intro w2 hBw2 hEw2
 have hzw2:=hEw2.size;have hlw2:=hBw2.lt
 have hSw2:Bs w1.heap.size (w1.heap.size+1) w2 (pA w1.heap.size 0) 0 0 []:=Bs.of_blk hBw2 (by kernel_rfl) rfl (Nat.le_refl _) (by decide) (Nat.le_refl _) (Nat.lt_succ_self _)
 refine zd 1 [(12,(.slice a_b n_b c_b))] ?_
 have hO1:Cs.Own u8v w1.heap.size (w1.heap.size+1) w2 (pA w1.heap.size 0) 0 0 5 ([]):=Cs.Own.of_blk hBw2 (by simp) (by first | rfl | exact rfl) hSw2.len_eq (Nat.le_refl _) (by simp only [maxLen];omega) (Nat.le_refl _) (Nat.lt_succ_self _)
 refine za (zbS (some 13) 57 57 5 1 (.int .u8 0) hO1 (((h_b.ext hEw1)).ext hEw2).es (fun _=>rfl) ?_)
 intro a1 c1 w3 hOw3 hCw3
 have hzw3:=hCw3.size
 have hSw3:=hOw3.bs
 refine za (zz (some 14) (Instr.buildSlice 57 1 #[(0,(vB 128))]) (.slice (pA w3.heap.size 0) 1 1) [(vB 128)] 5 ?_)
 intro w4 hBw4 hEw4
 have hzw4:=hEw4.size;have hlw4:=hBw4.lt
 have hSw4:Bs w3.heap.size (w3.heap.size+1) w4 (pA w3.heap.size 0) 1 1 [128]:=Bs.of_blk hBw4 (by kernel_rfl) rfl (Nat.le_refl _) (by decide) (Nat.le_refl _) (Nat.lt_succ_self _)
 refine za (zbS (some 15) 57 57 5 1 (.int .u8 0) (hOw3.ext hEw4) hSw4.es (fun _=>rfl) ?_)
 intro a2 c2 w5 hOw5 hCw5
 have hzw5:=hCw5.size
 have hSw5:=hOw5.bs
 refine zd 1 [(3,(.slice a2 (0+n_b+1) c2))] (zg (zb (zf (zJ ?_))))
 have hK1:=(((((((hBw1.ext hEw2)).chg hCw3 (fun hs=>by have hn:=hO1.ne hs;omega))).ext hEw4)).chg hCw5 (fun hs=>by have hn:=(hOw3.ext hEw4).ne hs;omega))
 have hX1:Ext w1 w5:=(Ext.ownS ((Ext.ownS hEw2 hCw3 (fun k hs hk=>by have hn:=hO1.ne hs;omega)).trans hEw4) hCw5 (fun k hs hk=>by have hn:=(hOw3.ext hEw4).ne hs;omega))
 refine zaj (X:=Nat×Option Addr×Nat) (fun ⟨z,p,cp⟩=> [(3,(.slice p (0+n_b+1+z) cp))]) [16,17,18,19,20,21,22] (fun ⟨z,p,cp⟩ w6=>z≤zcj b.length∧Cs.Own u8v w1.heap.size w6.heap.size w6 p (0+n_b+1+z) cp 5 (b++ [128]++List.replicate z 0)∧Blk w6 w.heap.size (zC Dig.zero) 23∧Ext w1 w6) (fun ⟨z,p,cp⟩=>zcj b.length-z) (0,a2,c2) (by kernel_rfl) ⟨Nat.zero_le _,by rw [List.replicate_zero,List.append_nil];exact (hOw5).mono (by omega) (Nat.le_refl _),hK1,hX1⟩ ?_
 rintro ⟨z,p,cp⟩ dw6 w6 ⟨hz,hO,hB2,hEl⟩
 have hzl:=hEl.size
 have hlen:=h_b.len_eq
 have hl2:=hB2.lt
 have hle:=hO.es.le
 have hpz:zcj b.length=(119-b.length%64)%64:=rfl
 refine zf (zf (ze (zd 2 [(17,(vI (0+n_b+1+z))),(16,(.slice p (0+n_b+1+z) cp))] (za (zB (some 18) .i64 (((0+n_b+1+z:Nat):Int).tmod ((64:Nat):Int)) ((0+n_b+1+z)%64) (zb3 _ _) ?_)))))
 refine za (zG (some 19) (((((0+n_b+1+z)%64:Nat):Int) !=((56:Nat):Int))) (fun hc19=> ?_) (fun hc19=> ?_))
 ·replace hc19:¬((0+n_b+1+z)%64=56):=by have:=zbK hc19;omega
  refine zg (zb (zx (zA (zb (zJ (ze (zd 1 [(20,(.slice p (0+n_b+1+z) cp))] (za (zz (some 21) (Instr.buildSlice 57 1 #[(0,(vB 0))]) (.slice (pA w6.heap.size 0) 1 1) [(vB 0)] 5 ?_)))))))))
  intro w7 hBw7 hEw7
  have hzw7:=hEw7.size;have hlw7:=hBw7.lt
  have hSw7:Bs w6.heap.size (w6.heap.size+1) w7 (pA w6.heap.size 0) 1 1 [0]:=Bs.of_blk hBw7 (by kernel_rfl) rfl (Nat.le_refl _) (by decide) (Nat.le_refl _) (Nat.lt_succ_self _)
  refine za (zbS (some 22) 57 57 5 1 (.int .u8 0) (hO.ext hEw7) hSw7.es (fun _=>rfl) ?_)
  intro a3 c3 w8 hOw8 hCw8
  have hzw8:=hCw8.size
  have hSw8:=hOw8.bs
  refine zd 1 [(3,(.slice a3 (0+n_b+1+z+1) c3))] (zg (zr (zD (zR (z+1,a3,c3) ?_ ?_))))
  ·exact ⟨by omega,by have hz:=hOw8;rw [List.append_assoc] at hz;rw [List.replicate_succ'];exact hz,(((hB2.ext hEw7)).chg hCw8 (fun hs=>by have hn:=(hO.ext hEw7).ne hs;omega)),(Ext.ownS (hEl.trans hEw7) hCw8 (fun k hs hk=>by have hn:=(hO.ext hEw7).ne hs;omega))⟩
  ·first | omega |(dsimp only;omega)
 ·replace hc19:(0+n_b+1+z)%64=56:=by have:=zbH hc19;omega
  refine zg (zb (zn (zag (zH (zH (zT (zb (zf (ze ?_)))))))))
  refine zd 3 [(25,(vI n_b)),(24,(.slice a_b n_b c_b)),(23,(.slice p (0+n_b+1+z) cp))] (za (zB (some 26) .u64 (IntKind.u64.wrap ((n_b:Nat):Int)) n_b (zbh rfl rfl (by show _<2^64;omega)) ?_))
  refine za (zB (some 27) .u64 (IntKind.u64.wrap (((8:Nat):Int)*((n_b:Nat):Int))) ((8*n_b)%2^64) (zcq rfl (by simp)) ?_)
  refine za (zk (some 28) (zi9 ((8*n_b)%2^64) _ (Nat.mod_lt _ (by decide))) ?_)
  rintro _ w9 ⟨a4,rfl,hFz1_0,hFz1_1,hFz1_2,hFz1_3,hEw9⟩
  have hzw9:=hEw9.size
  have hla4:=hFz1_1.lt;have hna4:=hFz1_3
  have hSa4:Bs a4 (a4+1) w9 (pA a4 0) 8 8 (be ((8*n_b)%2^64) 8):=Bs.of_blk hFz1_1 rfl hFz1_2 (Nat.le_refl _) (zbY hna4) (Nat.le_refl _) (Nat.lt_succ_self _)
  refine za (zbS (some 29) 57 57 5 1 (.int .u8 0) (hO.ext hEw9) hSa4.es (fun _=>rfl) ?_)
  intro a5 c4 w10 hOw10 hCw10
  have hzw10:=hCw10.size
  have hSw10:=hOw10.bs
  refine zd 1 [(3,(.slice a5 (0+n_b+1+z+8) c4))] (zg (zb (zf (ze (za (zk (some 31) (zjL _) ?_))))))
  rintro _ w11 ⟨rfl,hEw11⟩
  have hzw11:=hEw11.size
  refine zd 3 [(33,(vA (w8C zbc))),(32,(vA (zV kA))),(30,(.tuple #[(vA (zV kA)),(vA (w8C zbc))]))] (za (zz (some 4) (Instr.alloc 149 true (.tuple #[])) (vP w11.heap.size 0) (zV (WA.zero 64)) 149 ?_))
  intro w12 hBw12 hEw12
  have hzw12:=hEw12.size;have hlw12:=hBw12.lt
  refine za (zz (some 5) (Instr.alloc 150 true (.tuple #[])) (vP w12.heap.size 0) (w8C (WA.zero 8)) 150 ?_)
  intro w13 hBw13 hEw13
  have hzw13:=hEw13.size;have hlw13:=hBw13.lt
  refine za (zE 149 w11.heap.size 0 149 (vA (zV kA)) (zV (WA.zero 64)) (zV kA) (hBw12.ext hEw13) (by rw [zcS];kernel_rfl) (by first |(simp;done)|(simp;omega)) (zeI _) ?_)
  intro w14 hBw14 hCw14
  have hzw14:=hCw14.size
  rw [zq _ _ (by simp)] at hBw14
  refine za (zE 150 w12.heap.size 0 150 (vA (w8C zbc)) (w8C (WA.zero 8)) (w8C zbc) ((hBw13).chg hCw14 (fun hs=>by have h:_=_:=hs;omega)) (by rw [zbf];kernel_rfl) (by first |(simp;done)|(simp;omega)) (zcZ _) ?_)
  intro w15 hBw15 hCw15
  have hzw15:=hCw15.size
  rw [zq _ _ (by simp)] at hBw15
  refine zg (zb (zf (zf (ze (zd 1 [(6,(vI 0))] (zg (zb (zJ ?_))))))))
  obtain rfl:z=zcj b.length:=by omega
  have hK2:=(((((((((hSw10.ext hEw11)).ext hEw12)).ext hEw13)).chg hCw14 (fun k h1 h2 hs=>by have h:k=_:=hs;omega))).chg hCw15 (fun k h1 h2 hs=>by have h:k=_:=hs;omega))
  have hSp:Bs w1.heap.size w10.heap.size w15 a5 (0+n_b+1+(zcj b.length)+8) c4 (zbv b):=by have hq:=hK2;rw [zp5 hlen rfl] at hq;exact hq
  have hpl:(zbv b).length=0+n_b+1+(zcj b.length)+8:=hSp.len_eq.symm
  have hp64:=zob b
  have hK3:=(((((((((((((hB2.ext hEw9)).chg hCw10 (fun hs=>by have hn:=(hO.ext hEw9).ne hs;omega))).ext hEw11)).ext hEw12)).ext hEw13)).chg hCw14 (fun hs=>by have h:_=_:=hs;omega))).chg hCw15 (fun hs=>by have h:_=_:=hs;omega))
  have hX2:Ext w1 w15:=(Ext.own (Ext.own ((((Ext.ownS (hEl.trans hEw9) hCw10 (fun k hs hk=>by have hn:=(hO.ext hEw9).ne hs;omega)).trans hEw11).trans hEw12).trans hEw13) hCw14 (by omega)) hCw15 (by omega))
  refine zaj (X:=Nat) (fun k=> [(6,(vI (64*k)))]) [34,35,36,37,38,39,40,41,42,43,44,45,46] (fun k w16=>k≤(zbv b).length/64∧Bs w1.heap.size w10.heap.size w16 a5 (0+n_b+1+(zcj b.length)+8) c4 (zbv b)∧Blk w16 w12.heap.size (w8C (zcC (zbv b) k)) 150∧Blk w16 w.heap.size (zC Dig.zero) 23∧Ext w1 w16) (fun k=>(zbv b).length/64-k) 0 (by kernel_rfl) ⟨Nat.zero_le _,hSp,hBw15,hK3,hX2⟩ ?_
  rintro k dw16 w16 ⟨hk,hSk,hB5,hB2b,hEm⟩
  have hzm:=hEm.size
  have hl5:=hB5.lt;have hl2b:=hB2b.lt
  have hlk:=hSk.le
  refine zf (zf (ze (zd 3 [(36,(vI (0+n_b+1+(zcj b.length)+8))),(35,(.slice a5 (0+n_b+1+(zcj b.length)+8) c4)),(34,(vI (64*k)))] (za (zG (some 37) (decide (((64*k:Nat):Int)<((0+n_b+1+(zcj b.length)+8:Nat):Int))) (fun hc37=> ?_) (fun hc37=> ?_))))))
  ·replace hc37:64*k<0+n_b+1+(zcj b.length)+8:=by have:=zal hc37;omega
   refine zg (zb (zx (zA (zb (zf (zJ (zah (Chg (fun k=>k=w12.heap.size) w16.drew) 8 [(41,32,0),(42,8,0),(43,64,0),(44,64,0),(45,8796093022208,8),(46,24189255811072,22),(47,36283883716608,33),(0,70368744177696,127)] (fun hT155=> ?_))))))))
   have hEw17:Ext w16 w16.drew:=Ext.drew w16
   generalize w16.drew=w17 at hEw17⊢
   have hzw17:=hEw17.size
   refine zl (hw:=show Chg (fun k=>k=w12.heap.size) w17 w17 from (Chg.refl (fun k=>k=w12.heap.size) w17)) hT155 [(1,41,(.slice a5 (0+n_b+1+(zcj b.length)+8) c4)),(2,42,(vI (64*k))),(3,43,(vI (64*k)))] 3 14 (zh (hw:=show Chg (fun k=>k=w12.heap.size) w17 w17 from (Chg.refl (fun k=>k=w12.heap.size) w17)) hT155 4 30 (some 44) (vI (64*k+64)) (zw .i64 (IntKind.i64.wrap (((64*k:Nat):Int)+((64:Nat):Int))) (zF (by omega) (by omega) (by omega))) ?_)
   obtain ⟨a6,hR1,hS1⟩:=(hSk.ext hEw17).slice Tryz.prog 57 5 (64*k) (64*k+64) c4 (some (vI (64*k))) (some (vI (64*k+64))) none
   refine zh (hw:=show Chg (fun k=>k=w12.heap.size) w17 w17 from (Chg.refl (fun k=>k=w12.heap.size) w17)) hT155 5 62 (some 45) (.slice a6 (64*k+64-(64*k)) (c4-(64*k))) (zm (Instr.sliceAt 57 (.slice a5 (0+n_b+1+(zcj b.length)+8) c4) (some (vI (64*k))) (some (vI (64*k+64))) none) (fun w' hC=>hR1 _)) (zu 0 63 (zi (some 40) (Instr.loadAt 150 (vP w12.heap.size 0)) (vA (w8C (zcC (zbv b) k))) (zI (vs:=w8C (zcC (zbv b) k)) ((hB5.ext hEw17).all) (by rw [zbf];kernel_rfl)) ?_))
   refine ⟨.inr (Chg.refl (fun k=>k=w12.heap.size) w17), ?_⟩
   refine zu 6 127 (zk (some 46) (zpx (zcC (zbv b) k) _ hS1 (by first | omega | decide)) ?_)
   rintro _ w18 ⟨rfl,hEw18⟩
   have hzw18:=hEw18.size
   refine ⟨.inr ((Chg.refl (fun k=>k=w12.heap.size) w17).trans hEw18.chg), ?_⟩
   refine zu 7 255 (zE 150 w12.heap.size 0 150 (vA (w8C (zdZ (zcC (zbv b) k) (((zbv b).drop (64*k)).take (64*k+64-(64*k)))))) (w8C (zcC (zbv b) k)) (w8C (zdZ (zcC (zbv b) k) (((zbv b).drop (64*k)).take (64*k+64-(64*k))))) (((hB5.ext hEw17)).ext hEw18) (by rw [zbf];kernel_rfl) (by first |(simp;done)|(simp;omega)) (zcZ _) ?_)
   intro w19 hBw19 hCw19
   have hzw19:=hCw19.size
   rw [zq _ _ (by simp)] at hBw19
   refine ⟨.inl (by kernel_rfl), ?_⟩
   refine zL (zr (zb (ze (zd 1 [(38,(vI (64*k)))] (za (zB (some 39) .i64 (IntKind.i64.wrap (((64*k:Nat):Int)+((64:Nat):Int))) (64*k+64) (zF (by omega) (by omega) (by omega)) ?_))))))
   refine zd 1 [(6,(vI (64*k+64)))] (zg (zD ?_))
   have hK4:=(((((hSk.ext hEw17)).ext hEw18)).chg hCw19 (fun k h1 h2 hs=>by have h:k=_:=hs;omega))
   have hK5:=(((((hB2b.ext hEw17)).ext hEw18)).chg hCw19 (fun hs=>by have h:_=_:=hs;omega))
   have hX3:Ext w1 w19:=(Ext.own ((hEm.trans hEw17).trans hEw18) hCw19 (by omega))
   refine zR (k+1) ?_ ?_
   ·exact ⟨by omega,hK4,by have hz:=hBw19;rw [show 64*k+64-(64*k)=64 from by omega] at hz;exact hz,hK5,hX3⟩
   ·first | omega |(dsimp only;omega)
  ·replace hc37:¬(64*k<0+n_b+1+(zcj b.length)+8):=by have:=zak hc37;omega
   refine zg (zb (zn (zag (zH (zH (zT (zb (zf (ze ?_)))))))))
   refine za (zz (some 7) (Instr.alloc 23 true (.tuple #[])) (vP w16.heap.size 0) (zC Dig.zero) 23 ?_)
   intro w20 hBw20 hEw20
   have hzw20:=hEw20.size;have hlw20:=hBw20.lt
   refine zg (zb (zf (zf (ze (zd 1 [(8,(vI 0))] (zg (zb (zJ ?_))))))))
   obtain rfl:k=(zbv b).length/64:=by omega
   obtain ⟨H,hH⟩:∃H,H=zcC (zbv b) ((zbv b).length/64):=⟨_,rfl⟩
   have hBH:Blk w20 w12.heap.size (w8C H) 150:=by rw [hH];exact (hB5.ext hEw20)
   refine zaj (X:=Nat) (fun i=> [(8,(vI i))]) [9,10,47,48,49,50,51,52,53,54,55,56,57,58,59,60,61,62,63,64,65,66,67] (fun i w21=>i≤8∧Blk w21 w12.heap.size (w8C H) 150∧Blk w21 w16.heap.size (u8s (dgP H i)) 23∧Blk w21 w.heap.size (zC Dig.zero) 23∧Ext w1 w21) (fun i=>8-i) 0 (by kernel_rfl) ⟨by omega,hBH,(zgJ H).symm▸hBw20,(hB2b.ext hEw20),(hEm.trans hEw20)⟩ ?_
   rintro i dw21 w21 ⟨hi,hBh,hBd,hB2c,hEn⟩
   have hzn:=hEn.size
   have hlh:=hBh.lt;have hld:=hBd.lt;have hl2c:=hB2c.lt
   have hdl:=zgt H hi
   refine zf (zf (ze (zd 1 [(47,(vI i))] (za (zG (some 48) (decide (((i:Nat):Int)<((8:Nat):Int))) (fun hc48=> ?_) (fun hc48=> ?_))))))
   ·replace hc48:i<8:=by have:=zal hc48;omega
    refine zg (zb (zx (zA (zb (zf (zJ (zf (ze (zd 1 [(51,(vI i))] ?_)))))))))
    refine za (zi (some 52) (Instr.indexAt 150 (vP w12.heap.size 0) (vI i)) (vP w12.heap.size (0+i*1)) (zW (E:=28) (sz:=1) (m:=8) (by omega)) ?_)
    refine za (zi (some 53) (Instr.loadAt 28 (vP w12.heap.size (0+i*1))) (vW ((H.get i).toNat)) (zo (hBh.cell (zaE i (by omega)))) ?_)
    refine za (zk (some 54) (zjN ((H.get i).toNat) _ (UInt32.toNat_lt _)) ?_)
    rintro _ w22 ⟨a7,rfl,hFz4_0,hFz4_1,hFz4_2,hFz4_3,hEw22⟩
    have hzw22:=hEw22.size
    have hla7:=hFz4_1.lt;have hna7:=hFz4_3
    have hSa7:Bs a7 (a7+1) w22 (pA a7 0) 4 4 (be ((H.get i).toNat) 4):=Bs.of_blk hFz4_1 rfl hFz4_2 (Nat.le_refl _) (zbY hna7) (Nat.le_refl _) (Nat.lt_succ_self _)
    refine zd 1 [(9,(.slice (pA a7 0) 4 4))] (zg (zb (zf (ze (zd 1 [(10,(vI 0))] (zg (zb (zJ (zaj (X:=Nat) (fun j=> [(10,(vI j))]) [55,56,57,58,59,60,61,62,63,64,65,66,67] (fun j w23=>j≤4∧Blk w23 w16.heap.size (u8s (dgQ H i j)) 23∧Chg (fun q=>q=w16.heap.size) w22 w23) (fun j=>4-j) 0 (by kernel_rfl) ⟨by omega,by rw [zoc];exact (hBd.ext hEw22),Chg.refl _ _⟩ ?_)))))))))
    rintro j dw23 w23 ⟨hj,hBq,hCj⟩
    have hzj:=hCj.size
    refine zf (zf (ze (zd 1 [(55,(vI j))] (za (zG (some 56) (decide (((j:Nat):Int)<((4:Nat):Int))) (fun hc56=> ?_) (fun hc56=> ?_))))))
    ·replace hc56:j<4:=by have:=zal hc56;omega
     refine zg (zb (zx (zA (zb (zf (zJ (ze (zd 1 [(59,(vI i))] (za (zB (some 60) .i64 (IntKind.i64.wrap (((4:Nat):Int)*((i:Nat):Int))) (4*i) (zF (by omega) (by omega) (by omega)) ?_))))))))))
     refine zd 1 [(61,(vI j))] (za (zB (some 62) .i64 (IntKind.i64.wrap (((4*i:Nat):Int)+((j:Nat):Int))) (4*i+j) (zF (by omega) (by omega) (by omega)) ?_))
     refine zd 2 [(64,(vI j)),(63,(.slice (pA a7 0) 4 4))] (za (zi (some 65) (Instr.indexAt 57 (.slice (pA a7 0) 4 4) (vI j)) (vP a7 (0+j*1)) (zap (E:=5) (sz:=1) (by omega)) ?_))
     refine za (zi (some 66) (Instr.loadAt 5 (vP a7 (0+j*1))) (vB (byt (be ((H.get i).toNat) 4) j)) (zo (((hSa7).chg hCj (fun k h1 h2 hs=>by have h:k=_:=hs;omega)).cell1 (by omega))) ?_)
     refine za (zi (some 67) (Instr.indexAt 23 (vP w16.heap.size 0) (vI (4*i+j))) (vP w16.heap.size (0+(4*i+j)*1)) (zW (E:=5) (sz:=1) (m:=32) (by omega)) ?_)
     refine za (zY 5 w16.heap.size (0+(4*i+j)*1) 23 (vB (byt (be ((H.get i).toNat) 4) j)) (u8s (dgQ H i j)) hBq (by rw [zaN,zpb H (by omega) (by omega)];omega) ?_)
     intro w24 hBw24 hCw24
     have hzw24:=hCw24.size
     rw [show ((u8s (dgQ H i j)).set (0+(4*i+j)*1) (vB (byt (be ((H.get i).toNat) 4) j)):List Value)=u8s (dgQ H i (j+1)) from zpS (by omega) (by omega)] at hBw24
     refine zg (zr (zb (ze (zd 1 [(57,(vI j))] (za (zB (some 58) .i64 (IntKind.i64.wrap (((j:Nat):Int)+((1:Nat):Int))) (j+1) (zF (by omega) (by omega) (by omega)) ?_))))))
     refine zd 1 [(10,(vI (j+1)))] (zg (zD (zR (j+1) ?_ ?_)))
     ·exact ⟨by omega,hBw24,(Chg.then (Chg.then (Chg.refl (fun q=>q=w16.heap.size) w22) hCj (fun k hk hs=>by have h:k=_:=hs;first | exact hs | exact .inl h | exact .inr h |(exfalso;omega))) hCw24 (fun k hk hs=>by have h:k=_:=hs;first | exact hs | exact .inl h | exact .inr h |(exfalso;omega)))⟩
     ·first | omega |(dsimp only;omega)
    ·replace hc56:¬(j<4):=by have:=zak hc56;omega
     refine zg (zb (zn (zag (zH (zH (zT (zr (zb (ze ?_)))))))))
     refine zd 1 [(49,(vI i))] (za (zB (some 50) .i64 (IntKind.i64.wrap (((i:Nat):Int)+((1:Nat):Int))) (i+1) (zF (by omega) (by omega) (by omega)) ?_))
     refine zd 1 [(8,(vI (i+1)))] (zg (zD (zR (i+1) ?_ ?_)))
     ·exact ⟨by omega,(((hBh.ext hEw22)).chg hCj (fun hs=>by have h:_=_:=hs;omega)),by have hz:=hBq;rw [show j=4 from by omega,zn5] at hz;exact hz,(((hB2c.ext hEw22)).chg hCj (fun hs=>by have h:_=_:=hs;omega)),(Ext.own (hEn.trans hEw22) hCj (by omega))⟩
     ·first | omega |(dsimp only;omega)
   ·replace hc48:¬(i<8):=by have:=zak hc48;omega
    refine zg (zb (zn (zag (zH (zH (zT (zb (zf (ze ?_)))))))))
    obtain rfl:i=8:=by omega
    have hBe:Blk w21 w16.heap.size (zC (zQ b)) 23:=by have hq:=hBd;rw [hH,zh5] at hq;exact hq
    refine za (zi (some 68) (Instr.loadAt 23 (vP w16.heap.size 0)) (vA (zC (zQ b))) (zI (vs:=zC (zQ b)) hBe.all (by rw [zab];kernel_rfl)) ?_)
    refine za (zE 23 w.heap.size 0 23 (vA (zC (zQ b))) (zC Dig.zero) (zC (zQ b)) hB2c (by rw [zab];kernel_rfl) (by first |(simp;done)|(simp;omega)) (zaX _) ?_)
    intro w25 hBw25 hCw25
    have hzw25:=hCw25.size
    rw [zq _ _ (by simp)] at hBw25
    exact zg (zb (zp (zbA (show zS Tryz.prog 69 _ _ (.cell 2 23) (vA (zC (zQ b))) from ⟨⟨w.heap.size,0,none⟩,(by kernel_rfl),zM (T:=23) (vs:=zC (zQ b)) (hBw25).all (by rw [zab];kernel_rfl)⟩) (⟨rfl,(Ext.own (hEw1.trans hEn) hCw25 (by omega))⟩))))
end Go.Proofs.YtgdpdnokcnhgnaaGreatDoor
