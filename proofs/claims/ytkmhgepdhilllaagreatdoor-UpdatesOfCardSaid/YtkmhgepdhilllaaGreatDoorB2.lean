/- Lemmas and walks: what each function does, by its own code. No condition beyond those of each statement. -/
import Derived.Test.YtkmhgepdhilllaaGreatDoorB1
set_option linter.all false
set_option linter.unusedVariables false
namespace Go.Proofs.YtkmhgepdhilllaaGreatDoor
open Go Go.RowKit Go.Cs
set_option maxRecDepth 100000
theorem zkP (w:World):
  Calls Tryz.prog 100 #[] w (Ret fun r w'=>r=(.tuple #[(vA (zax kA)),(vA (w8C zbm))])∧Ext w w'):=by
 refine zC (n:=4) (σ:= []) Tryz.func100 rfl ?_
 refine ze (zd (za (zaf (zax (WA.zero 64)) 167 ?_)))
 intro w1 hBw1 hEw1 hzw1 hlw1
 refine za (zaf (w8C (WA.zero 8)) 168 ?_)
 intro w2 hBw2 hEw2 hzw2 hlw2
 refine zf (zb (ze (zd (zc 2 [(3,(vA (w8C zbm))),(2,(vA (zax kA)))] (za (zG 167 w.heap.size 0 167 (vA (zax kA)) (zax (WA.zero 64)) (zax kA) (hBw1.ext hEw2) (by rw [zdv];kernel_rfl) (by first |(simp;done)|(simp;omega)) (zf9 _) ?_))))))
 intro w3 hBw3 hCw3
 have hzw3:=hCw3.size
 rw [zy _ _ (by simp)] at hBw3
 refine za (zG 168 w1.heap.size 0 168 (vA (w8C zbm)) (w8C (WA.zero 8)) (w8C zbm) (hBw2.chg hCw3) (by rw [zbO];kernel_rfl) (by first |(simp;done)|(simp;omega)) (zdL _) ?_)
 intro w4 hBw4 hCw4
 have hzw4:=hCw4.size
 rw [zy _ _ (by simp)] at hBw4
 refine zf (zb (zj (za6 (show zX Tryz.prog 4 _ _ (.cell 0 167) (vA (zax kA)) from ⟨⟨w.heap.size,0,none⟩,(by kernel_rfl),zI (T:=167) (vs:=zax kA) ((hBw3.chg hCw4)).all (by rw [zdv];kernel_rfl)⟩) (show zX Tryz.prog 4 _ _ (.cell 1 168) (vA (w8C zbm)) from ⟨⟨w1.heap.size,0,none⟩,(by kernel_rfl),zI (T:=168) (vs:=w8C zbm) (hBw4).all (by rw [zbO];kernel_rfl)⟩) ?_)))
 have hX1:Ext w w4:=(Ext.own (Ext.own (hEw1.trans hEw2) hCw3 (by omega)) hCw4 (by omega))
 exact ⟨rfl,hX1⟩
theorem zsX (h:(WA 8)) {lo_b hi_b:Nat} {a_b:Option Addr} {n_b c_b:Nat} {b:List UInt8} (w:World) (h_b:Bs lo_b hi_b w a_b n_b c_b b) (hp0:n_b=64):
  Calls Tryz.prog 101 #[(vA (w8C h)),(.slice a_b n_b c_b)] w (Ret fun r w'=>r=(vA (w8C (zeU h b)))∧Ext w w'):=by
 refine zC (n:=202) (σ:= [(0,(vA (w8C h))),(1,(.slice a_b n_b c_b))]) Tryz.func101 rfl ?_
 replace h_b:=h_b.now;have hle_b:=h_b.le
 refine ze (zd (za (zab (Instr.box 168 (vA (w8C h))) (vP w.heap.size 0) (w8C h) 168 ?_)))
 intro w1 hBw1 hEw1 hzw1 hlw1
 refine za (zaf (w8C (WA.zero 8)) 168 ?_)
 intro w2 hBw2 hEw2 hzw2 hlw2
 refine zf (zb (ze (zd (za (zq (zkP _) ?_)))))
 rintro _ w3 ⟨rfl,hEw3⟩
 have hzw3:=hEw3.size
 refine zc 3 [(29,(vA (w8C zbm))),(28,(vA (zax kA))),(26,(.tuple #[(vA (zax kA)),(vA (w8C zbm))]))] (za (zaf (zax (WA.zero 64)) 167 ?_))
 intro w4 hBw4 hEw4 hzw4 hlw4
 refine za (zaf (w8C (WA.zero 8)) 168 ?_)
 intro w5 hBw5 hEw5 hzw5 hlw5
 refine za (zG 167 w3.heap.size 0 167 (vA (zax kA)) (zax (WA.zero 64)) (zax kA) (hBw4.ext hEw5) (by rw [zdv];kernel_rfl) (by first |(simp;done)|(simp;omega)) (zf9 _) ?_)
 intro w6 hBw6 hCw6
 have hzw6:=hCw6.size
 rw [zy _ _ (by simp)] at hBw6
 refine za (zG 168 w4.heap.size 0 168 (vA (w8C zbm)) (w8C (WA.zero 8)) (w8C zbm) (hBw5.chg hCw6) (by rw [zbO];kernel_rfl) (by first |(simp;done)|(simp;omega)) (zdL _) ?_)
 intro w7 hBw7 hCw7
 have hzw7:=hCw7.size
 rw [zy _ _ (by simp)] at hBw7
 refine zf (zb (ze (zd (za (zaf (zax (WA.zero 64)) 167 ?_)))))
 intro w8 hBw8 hEw8 hzw8 hlw8
 refine zf (zb (ze (ze (zd (zc 1 [(8,(vI 0))] (zf (zb (zr ?_))))))))
 have hK1:=(((((((hBw1.ext hEw2).ext hEw3).ext hEw4).ext hEw5).chg hCw6).chg hCw7).ext hEw8)
 have hK2:=((((((hBw2.ext hEw3).ext hEw4).ext hEw5).chg hCw6).chg hCw7).ext hEw8)
 have hX1:Ext w w8:=((Ext.own (Ext.own ((((hEw1.trans hEw2).trans hEw3).trans hEw4).trans hEw5) hCw6 (by omega)) hCw7 (by omega)).trans hEw8)
 refine zW (X:=Nat) (fun t=> [(8,(vI t))]) [9,10,11,12,30,31,32,33,34,35,36,37,38,39,40,41,42,43,44,45,46,47,48,49,50,51,52,53,54,55,56,57,58,59,60,61,62,63,64,65,66,67,68,69,70,71,72,73,74,75,76,77,78,79,80,81,82,83,84,85,86,87] (fun t w9=>t≤64∧Blk w9 w.heap.size (w8C h) 168∧Blk w9 w7.heap.size (zax (zB b t)) 167∧Blk w9 w3.heap.size (zax kA) 167∧Blk w9 w1.heap.size (w8C (WA.zero 8)) 168∧Ext w w9) (fun t=>64-t) 0 (by kernel_rfl) ⟨by omega,hK1,hBw8,((hBw6.chg hCw7).ext hEw8),hK2,hX1⟩ ?_
 rintro t dw9 w9 ⟨ht,hA,hB,hK,hZ4,hEl⟩
 have hzl:=hEl.size
 have hlb:=h_b.len_eq
 have hlthA:=hA.lt
 have hlthB:=hB.lt
 have hlthK:=hK.lt
 have hlthZ4:=hZ4.lt
 refine ze (ze (zd (zc 1 [(30,(vI t))] (za (zE (some 31) (decide (((t:Nat):Int)<((64:Nat):Int))) (fun hc31=> ?_) (fun hc31=> ?_))))))
 ·replace hc31:t<64:=by have:=zac hc31;omega
  refine zf (zb (zv (zo (zb (ze (zr (ze (ze (zd ?_)))))))))
  refine zc 1 [(34,(vI t))] (za (zE (some 35) (decide (((t:Nat):Int)<((16:Nat):Int))) (fun hc35=> ?_) (fun hc35=> ?_)))
  ·replace hc35:t<16:=by have:=zac hc35;omega
   refine zf (zb (zv (ze (zd (zc 2 [(38,(vI t)),(37,(.slice a_b n_b c_b))] (za (zn (some 39) .i64 (IntKind.i64.wrap (((4:Nat):Int)*((t:Nat):Int))) (4*t) (zu) ?_)))))))
   refine zc 1 [(40,(vI t))] (za (zn (some 41) .i64 (IntKind.i64.wrap (((4:Nat):Int)*((t:Nat):Int))) (4*t) (zu) ?_))
   refine za (zn (some 42) .i64 (IntKind.i64.wrap (((4*t:Nat):Int)+((4:Nat):Int))) (4*t+4) (zu) ?_)
   obtain ⟨a1,hR1,hS1⟩:=(h_b.ext hEl).slice Tryz.prog 23 5 (4*t) (4*t+4) c_b (some (vI (4*t))) (some (vI (4*t+4))) none
   refine za (zaM (Instr.sliceAt 23 (.slice a_b n_b c_b) (some (vI (4*t))) (some (vI (4*t+4))) none) (.slice a1 (4*t+4-(4*t)) (c_b-(4*t))) (hR1 _) ?_)
   refine za (zq (zut 4 _ hS1 (by first | omega | decide)) ?_)
   rintro _ _ ⟨rfl,rfl⟩
   refine zc 5 [(10,(vI (zcK ((b.drop (4*t)).take (4*t+4-(4*t))) 4))),(9,(vQ (zaY ((b.drop (4*t)).take (4*t+4-(4*t))) 4))),(46,(vI (zcK ((b.drop (4*t)).take (4*t+4-(4*t))) 4))),(45,(vQ (zaY ((b.drop (4*t)).take (4*t+4-(4*t))) 4))),(36,(.tuple #[(vQ (zaY ((b.drop (4*t)).take (4*t+4-(4*t))) 4)),(vI (zcK ((b.drop (4*t)).take (4*t+4-(4*t))) 4))]))] (zf (zb (ze (zd (zc 2 [(48,(vQ (zaY ((b.drop (4*t)).take (4*t+4-(4*t))) 4))),(47,(vI t))] (za (zn (some 49) .u32 (IntKind.u32.wrap ((zaY ((b.drop (4*t)).take (4*t+4-(4*t))) 4:Nat):Int)) ((UInt32.ofNat (zaY ((b.drop (4*t)).take 4) 4)).toNat) (by rw [show 4*t+4-4*t=4 from by omega,UInt32.toNat_ofNat',Nat.mod_eq_of_lt (zdM _ 4)];exact zbA rfl rfl (show _<2^32 from zdM _ 4)) ?_)))))))
   refine za (zbk w7.heap.size 0 t 64 1 ?_)
   refine za (zak 53 w7.heap.size (0+t*1) 167 (vW ((UInt32.ofNat (zaY ((b.drop (4*t)).take 4) 4)).toNat)) (zax (zB b t)) hB (by first | decide |(simp;done)|(simp;omega)) ?_)
   intro w10 hBw10 hCw10
   have hzw10:=hCw10.size
   rw [show ((zax (zB b t)).set (0+t*1) (vW ((UInt32.ofNat (zaY ((b.drop (4*t)).take 4) 4)).toNat)):List Value)=zax ((zB b t).set t (UInt32.ofNat (zaY ((b.drop (4*t)).take 4) 4))) from zhI t (UInt32.ofNat (zaY ((b.drop (4*t)).take 4) 4))] at hBw10
   refine zf (zb (zP (zp (zF (zb (zd (zc 1 [(32,(vI t))] (za (zn (some 33) .i64 (IntKind.i64.wrap (((t:Nat):Int)+((1:Nat):Int))) (t+1) (zu) ?_)))))))))
   refine zc 1 [(8,(vI (t+1)))] (zf (zz (zL (t+1) ?_ ?_)))
   ·exact ⟨by omega,(hA.chg hCw10),by have hz:=hBw10;rwa [show (zB b t).set t _=zB b (t+1) from zkn (by omega) rfl] at hz,(hK.chg hCw10),(hZ4.chg hCw10),(Ext.own hEl hCw10 (by omega))⟩
   ·first | omega |(dsimp only;omega)
  ·replace hc35:¬(t<16):=by have:=zad hc35;omega
   refine zf (zb (zh (zo (zb (ze (zaa 10 (fun w11 hEw11 hzw11 hT142=> ?_)))))))
   refine zg hT142 [(0,51,(vI t))] 1 (zk hT142 1 (vI (t-15)) (zY .i64 (IntKind.i64.wrap (((t:Nat):Int)-((15:Nat):Int))) (zu)) (zaP hT142 2 w7.heap.size 0 (t-15) 64 1 (zt hT142 3 w7.heap.size (0+(t-15)*1) (fun w' hC=>(((hB.ext hEw11).ext hC).cell (zcW (t-15) (by omega)))) (zg hT142 [(4,55,(vI t))] 1 (zk hT142 5 (vI (t-2)) (zY .i64 (IntKind.i64.wrap (((t:Nat):Int)-((2:Nat):Int))) (zu)) (zaP hT142 6 w7.heap.size 0 (t-2) 64 1 (zt hT142 7 w7.heap.size (0+(t-2)*1) (fun w' hC=>(((hB.ext hEw11).ext hC).cell (zcW (t-2) (by omega)))) (zg hT142 [(8,11,(vW (((zB b t).get (t-15)).toNat))),(9,12,(vW (((zB b t).get (t-2)).toNat)))] 2 (zD ?_)))))))))
   refine zb (zaa 30 (fun w12 hEw12 hzw12 hT154=> ?_))
   refine zg hT154 [(0,59,(vI t)),(1,60,(vI t))] 2 (zk hT154 2 (vI (t-16)) (zY .i64 (IntKind.i64.wrap (((t:Nat):Int)-((16:Nat):Int))) (zu)) (zaP hT154 3 w7.heap.size 0 (t-16) 64 1 (zt hT154 4 w7.heap.size (0+(t-16)*1) (fun w' hC=>((((hB.ext hEw11).ext hEw12).ext hC).cell (zcW (t-16) (by omega)))) (zg hT154 [(5,64,(vI t))] 1 (zk hT154 6 (vI (t-7)) (zY .i64 (IntKind.i64.wrap (((t:Nat):Int)-((7:Nat):Int))) (zu)) (zaP hT154 7 w7.heap.size 0 (t-7) 64 1 (zt hT154 8 w7.heap.size (0+(t-7)*1) (fun w' hC=>((((hB.ext hEw11).ext hEw12).ext hC).cell (zcW (t-7) (by omega)))) (zk hT154 9 (vW ((((zB b t).get (t-16))+((zB b t).get (t-7))).toNat)) (zY .u32 _ (zbl ((zB b t).get (t-16)) ((zB b t).get (t-7)))) (zg hT154 [(10,69,(vW (((zB b t).get (t-15)).toNat))),(12,71,(vW (((zB b t).get (t-15)).toNat))),(15,74,(vW (((zB b t).get (t-15)).toNat)))] 3 ?_)))))))))
   refine zk hT154 16 (vW ((((zB b t).get (t-15))>>>UInt32.ofNat 3).toNat)) (zY .u32 _ (ziF ((zB b t).get (t-15)) 3 (by decide))) (zg hT154 [(19,78,(vW (((zB b t).get (t-2)).toNat))),(21,80,(vW (((zB b t).get (t-2)).toNat))),(24,83,(vW (((zB b t).get (t-2)).toNat)))] 3 (zk hT154 25 (vW ((((zB b t).get (t-2))>>>UInt32.ofNat 10).toNat)) (zY .u32 _ (ziF ((zB b t).get (t-2)) 10 (by decide))) (zx 11 (zq (zdI ((zB b t).get (t-15)) 7 _ (by decide) (by decide)) ?_))))
   rintro _ w13 ⟨rfl,hEw13⟩
   have hzw13:=hEw13.size
   refine ⟨.inr hEw13, ?_⟩
   refine zx 13 (zq (zdI ((zB b t).get (t-15)) 18 _ (by decide) (by decide)) ?_)
   rintro _ w14 ⟨rfl,hEw14⟩
   have hzw14:=hEw14.size
   have hX2:Ext w12 w14:=(hEw13.trans hEw14)
   refine ⟨.inr hX2, ?_⟩
   refine zk (hw:=hX2) hT154 14 (vW (((rr ((zB b t).get (t-15)) 7)^^^(rr ((zB b t).get (t-15)) 18)).toNat)) (zY .u32 _ (zca (rr ((zB b t).get (t-15)) 7) (rr ((zB b t).get (t-15)) 18))) (zk (hw:=hX2) hT154 17 (vW ((((rr ((zB b t).get (t-15)) 7)^^^(rr ((zB b t).get (t-15)) 18))^^^(((zB b t).get (t-15))>>>UInt32.ofNat 3)).toNat)) (zY .u32 _ (zca ((rr ((zB b t).get (t-15)) 7)^^^(rr ((zB b t).get (t-15)) 18)) (((zB b t).get (t-15))>>>UInt32.ofNat 3))) (zk (hw:=hX2) hT154 18 (vW (((((zB b t).get (t-16))+((zB b t).get (t-7)))+(((rr ((zB b t).get (t-15)) 7)^^^(rr ((zB b t).get (t-15)) 18))^^^(((zB b t).get (t-15))>>>UInt32.ofNat 3))).toNat)) (zY .u32 _ (zbl (((zB b t).get (t-16))+((zB b t).get (t-7))) (((rr ((zB b t).get (t-15)) 7)^^^(rr ((zB b t).get (t-15)) 18))^^^(((zB b t).get (t-15))>>>UInt32.ofNat 3)))) (zx 20 (zq (zdI ((zB b t).get (t-2)) 17 _ (by decide) (by decide)) ?_))))
   rintro _ w15 ⟨rfl,hEw15⟩
   have hzw15:=hEw15.size
   have hX3:Ext w12 w15:=((hEw13.trans hEw14).trans hEw15)
   refine ⟨.inr hX3, ?_⟩
   refine zx 22 (zq (zdI ((zB b t).get (t-2)) 19 _ (by decide) (by decide)) ?_)
   rintro _ w16 ⟨rfl,hEw16⟩
   have hzw16:=hEw16.size
   have hX4:Ext w12 w16:=(((hEw13.trans hEw14).trans hEw15).trans hEw16)
   refine ⟨.inr hX4, ?_⟩
   refine zk (hw:=hX4) hT154 23 (vW (((rr ((zB b t).get (t-2)) 17)^^^(rr ((zB b t).get (t-2)) 19)).toNat)) (zY .u32 _ (zca (rr ((zB b t).get (t-2)) 17) (rr ((zB b t).get (t-2)) 19))) (zk (hw:=hX4) hT154 26 (vW ((((rr ((zB b t).get (t-2)) 17)^^^(rr ((zB b t).get (t-2)) 19))^^^(((zB b t).get (t-2))>>>UInt32.ofNat 10)).toNat)) (zY .u32 _ (zca ((rr ((zB b t).get (t-2)) 17)^^^(rr ((zB b t).get (t-2)) 19)) (((zB b t).get (t-2))>>>UInt32.ofNat 10))) (zk (hw:=hX4) hT154 27 (vW ((((((zB b t).get (t-16))+((zB b t).get (t-7)))+(((rr ((zB b t).get (t-15)) 7)^^^(rr ((zB b t).get (t-15)) 18))^^^(((zB b t).get (t-15))>>>UInt32.ofNat 3)))+(((rr ((zB b t).get (t-2)) 17)^^^(rr ((zB b t).get (t-2)) 19))^^^(((zB b t).get (t-2))>>>UInt32.ofNat 10))).toNat)) (zY .u32 _ (zbl ((((zB b t).get (t-16))+((zB b t).get (t-7)))+(((rr ((zB b t).get (t-15)) 7)^^^(rr ((zB b t).get (t-15)) 18))^^^(((zB b t).get (t-15))>>>UInt32.ofNat 3))) (((rr ((zB b t).get (t-2)) 17)^^^(rr ((zB b t).get (t-2)) 19))^^^(((zB b t).get (t-2))>>>UInt32.ofNat 10)))) (zaP (hw:=hX4) hT154 28 w7.heap.size 0 t 64 1 ?_)))
   have hK3:=(((hB.ext hEw11).ext hEw12).ext hX4)
   refine zx 29 (zak 53 w7.heap.size (0+t*1) 167 (vW ((((((zB b t).get (t-16))+((zB b t).get (t-7)))+(((rr ((zB b t).get (t-15)) 7)^^^(rr ((zB b t).get (t-15)) 18))^^^(((zB b t).get (t-15))>>>UInt32.ofNat 3)))+(((rr ((zB b t).get (t-2)) 17)^^^(rr ((zB b t).get (t-2)) 19))^^^(((zB b t).get (t-2))>>>UInt32.ofNat 10))).toNat)) (zax (zB b t)) hK3 (by first | decide |(simp;done)|(simp;omega)) ?_)
   have hK4:=(((hB.ext hEw11).ext hEw12).ext hX4)
   intro w17 hBw17 hCw17
   have hzw17:=hCw17.size
   rw [show ((zax (zB b t)).set (0+t*1) (vW ((((((zB b t).get (t-16))+((zB b t).get (t-7)))+(((rr ((zB b t).get (t-15)) 7)^^^(rr ((zB b t).get (t-15)) 18))^^^(((zB b t).get (t-15))>>>UInt32.ofNat 3)))+(((rr ((zB b t).get (t-2)) 17)^^^(rr ((zB b t).get (t-2)) 19))^^^(((zB b t).get (t-2))>>>UInt32.ofNat 10))).toNat)):List Value)=zax ((zB b t).set t (((((zB b t).get (t-16))+((zB b t).get (t-7)))+(((rr ((zB b t).get (t-15)) 7)^^^(rr ((zB b t).get (t-15)) 18))^^^(((zB b t).get (t-15))>>>UInt32.ofNat 3)))+(((rr ((zB b t).get (t-2)) 17)^^^(rr ((zB b t).get (t-2)) 19))^^^(((zB b t).get (t-2))>>>UInt32.ofNat 10)))) from zhI t (((((zB b t).get (t-16))+((zB b t).get (t-7)))+(((rr ((zB b t).get (t-15)) 7)^^^(rr ((zB b t).get (t-15)) 18))^^^(((zB b t).get (t-15))>>>UInt32.ofNat 3)))+(((rr ((zB b t).get (t-2)) 17)^^^(rr ((zB b t).get (t-2)) 19))^^^(((zB b t).get (t-2))>>>UInt32.ofNat 10)))] at hBw17
   refine ⟨.inl (by kernel_rfl), ?_⟩
   refine zD (zi (zb (zd (zc 1 [(32,(vI t))] (za (zn (some 33) .i64 (IntKind.i64.wrap (((t:Nat):Int)+((1:Nat):Int))) (t+1) (zu) ?_))))))
   refine zc 1 [(8,(vI (t+1)))] (zf (zz ?_))
   have hK5:=((((hA.ext hEw11).ext hEw12).ext hX4).chg hCw17)
   have hK6:=((((hK.ext hEw11).ext hEw12).ext hX4).chg hCw17)
   have hK7:=((((hZ4.ext hEw11).ext hEw12).ext hX4).chg hCw17)
   have hX5:Ext w w17:=(Ext.own (((hEl.trans hEw11).trans hEw12).trans hX4) hCw17 (by omega))
   refine zL (t+1) ?_ ?_
   ·exact ⟨by omega,hK5,by have hz:=hBw17;rwa [show (zB b t).set t _=zB b (t+1) from zk4 (by omega) (by unfold znZ zn0;ac_rfl)] at hz,hK6,hK7,hX5⟩
   ·first | omega |(dsimp only;omega)
 ·replace hc31:¬(t<64):=by have:=zad hc31;omega
  refine zf (zb (zh (zP (zp (zp (zF (zb (ze (zaa 24 (fun w18 hEw18 hzw18 hT227=> ?_))))))))))
  refine zk hT227 0 (vP w.heap.size 0) (zae (Instr.indexAt 168 (vP w.heap.size 0) (vI 0)) (fun w' hC=>za2 (E:=53) (sz:=1) (m:=8))) (zt hT227 1 w.heap.size 0 (fun w' hC=>(((hA.ext hEw18).ext hC).cell (zaR 0 (by omega)))) (zk hT227 2 (vP w.heap.size 1) (zae (Instr.indexAt 168 (vP w.heap.size 0) (vI 1)) (fun w' hC=>za2 (E:=53) (sz:=1) (m:=8))) (zt hT227 3 w.heap.size 1 (fun w' hC=>(((hA.ext hEw18).ext hC).cell (zaR 1 (by omega)))) (zk hT227 4 (vP w.heap.size 2) (zae (Instr.indexAt 168 (vP w.heap.size 0) (vI 2)) (fun w' hC=>za2 (E:=53) (sz:=1) (m:=8))) (zt hT227 5 w.heap.size 2 (fun w' hC=>(((hA.ext hEw18).ext hC).cell (zaR 2 (by omega)))) (zk hT227 6 (vP w.heap.size 3) (zae (Instr.indexAt 168 (vP w.heap.size 0) (vI 3)) (fun w' hC=>za2 (E:=53) (sz:=1) (m:=8))) (zt hT227 7 w.heap.size 3 (fun w' hC=>(((hA.ext hEw18).ext hC).cell (zaR 3 (by omega)))) (zk hT227 8 (vP w.heap.size 4) (zae (Instr.indexAt 168 (vP w.heap.size 0) (vI 4)) (fun w' hC=>za2 (E:=53) (sz:=1) (m:=8))) (zt hT227 9 w.heap.size 4 (fun w' hC=>(((hA.ext hEw18).ext hC).cell (zaR 4 (by omega)))) ?_)))))))))
  refine zk hT227 10 (vP w.heap.size 5) (zae (Instr.indexAt 168 (vP w.heap.size 0) (vI 5)) (fun w' hC=>za2 (E:=53) (sz:=1) (m:=8))) (zt hT227 11 w.heap.size 5 (fun w' hC=>(((hA.ext hEw18).ext hC).cell (zaR 5 (by omega)))) (zk hT227 12 (vP w.heap.size 6) (zae (Instr.indexAt 168 (vP w.heap.size 0) (vI 6)) (fun w' hC=>za2 (E:=53) (sz:=1) (m:=8))) (zt hT227 13 w.heap.size 6 (fun w' hC=>(((hA.ext hEw18).ext hC).cell (zaR 6 (by omega)))) (zk hT227 14 (vP w.heap.size 7) (zae (Instr.indexAt 168 (vP w.heap.size 0) (vI 7)) (fun w' hC=>za2 (E:=53) (sz:=1) (m:=8))) (zt hT227 15 w.heap.size 7 (fun w' hC=>(((hA.ext hEw18).ext hC).cell (zaR 7 (by omega)))) (zg hT227 [(16,13,(vW ((h.get 0).toNat))),(17,14,(vW ((h.get 1).toNat))),(18,15,(vW ((h.get 2).toNat))),(19,16,(vW ((h.get 3).toNat))),(20,17,(vW ((h.get 4).toNat))),(21,18,(vW ((h.get 5).toNat))),(22,19,(vW ((h.get 6).toNat))),(23,20,(vW ((h.get 7).toNat)))] 8 (zD (zb (ze ?_)))))))))
  refine ze (zd (zc 1 [(21,(vI 0))] (zf (zb (zr ?_)))))
  obtain rfl:t=64:=by omega
  refine zW (X:=Nat×WA 8) (fun ⟨i,x⟩=> [(13,(vW ((x.get 0).toNat))),(14,(vW ((x.get 1).toNat))),(15,(vW ((x.get 2).toNat))),(16,(vW ((x.get 3).toNat))),(17,(vW ((x.get 4).toNat))),(18,(vW ((x.get 5).toNat))),(19,(vW ((x.get 6).toNat))),(20,(vW ((x.get 7).toNat))),(21,(vI i))]) [22,23,24,25,104,105,106,107,108,109,110,111,112,113,114,115,116,117,118,119,120,121,122,123,124,125,126,127,128,129,130,131,132,133,134,135,136,137,138,139,140,141,142,143,144,145,146,147,148,149,150,151,152,153,154,155,156,157,158,159,160,161,162,163,164,165,166,167,168] (fun ⟨i,x⟩ w19=>i≤64∧x=zeR h (zB b 64) i∧Blk w19 w.heap.size (w8C h) 168∧Blk w19 w7.heap.size (zax (zB b 64)) 167∧Blk w19 w3.heap.size (zax kA) 167∧Blk w19 w1.heap.size (w8C (WA.zero 8)) 168∧Ext w w19) (fun ⟨i,x⟩=>64-i) (0,h) (by kernel_rfl) ⟨by omega,rfl,(hA.ext hEw18),(hB.ext hEw18),(hK.ext hEw18),(hZ4.ext hEw18),(hEl.trans hEw18)⟩ ?_
  rintro ⟨i,x⟩ dw19 w19 ⟨hi,hx,hA2,hB2,hK2,hZ42,hEm⟩
  have hzm:=hEm.size
  have hlthA2:=hA2.lt
  have hlthB2:=hB2.lt
  have hlthK2:=hK2.lt
  have hlthZ42:=hZ42.lt
  refine ze (ze (zd (zc 1 [(104,(vI i))] (za (zE (some 105) (decide (((i:Nat):Int)<((64:Nat):Int))) (fun hc105=> ?_) (fun hc105=> ?_))))))
  ·replace hc105:i<64:=by have:=zac hc105;omega
   refine zf (zb (zv (zo (zb (ze (zr (ze (zd (zc 2 [(109,(vW ((x.get 5).toNat))),(108,(vW ((x.get 4).toNat)))] ?_)))))))))
   refine za (zn (some 110) .u32 ((IntKind.u32.wrap ((BitVec.ofInt IntKind.u32.bits (((x.get 4).toNat:Nat):Int)&&&BitVec.ofInt IntKind.u32.bits (((x.get 5).toNat:Nat):Int)).toNat:Int))) (((x.get 4)&&&(x.get 5)).toNat) (zeq (x.get 4) (x.get 5)) ?_)
   refine zc 1 [(111,(vW ((x.get 4).toNat)))] (za (zn (some 112) .u32 (IntKind.u32.wrap ((BitVec.ofInt IntKind.u32.bits (if IntKind.u32.signed then-1 else IntKind.u32.max)^^^BitVec.ofInt IntKind.u32.bits (((x.get 4).toNat:Nat):Int)).toNat:Int)) ((~~~(x.get 4)).toNat) (zoz (x.get 4)) ?_))
   refine zc 1 [(113,(vW ((x.get 6).toNat)))] (za (zn (some 114) .u32 ((IntKind.u32.wrap ((BitVec.ofInt IntKind.u32.bits (((~~~(x.get 4)).toNat:Nat):Int)&&&BitVec.ofInt IntKind.u32.bits (((x.get 6).toNat:Nat):Int)).toNat:Int))) (((~~~(x.get 4))&&&(x.get 6)).toNat) (zeq (~~~(x.get 4)) (x.get 6)) ?_))
   refine za (zn (some 115) .u32 ((IntKind.u32.wrap ((BitVec.ofInt IntKind.u32.bits (((x.get 4&&&x.get 5).toNat:Nat):Int)||| BitVec.ofInt IntKind.u32.bits (((~~~(x.get 4)&&&x.get 6).toNat:Nat):Int)).toNat:Int))) ((((x.get 4&&&x.get 5)^^^(~~~(x.get 4)&&&x.get 6))).toNat) ((znN _ _).trans (by rw [zuZ])) ?_)
   refine zc 1 [(22,(vW ((((x.get 4&&&x.get 5)^^^(~~~(x.get 4)&&&x.get 6))).toNat)))] (zf (zb (ze (zd (zc 2 [(117,(vW ((x.get 1).toNat))),(116,(vW ((x.get 0).toNat)))] (za (zn (some 118) .u32 ((IntKind.u32.wrap ((BitVec.ofInt IntKind.u32.bits (((x.get 0).toNat:Nat):Int)&&&BitVec.ofInt IntKind.u32.bits (((x.get 1).toNat:Nat):Int)).toNat:Int))) (((x.get 0)&&&(x.get 1)).toNat) (zeq (x.get 0) (x.get 1)) ?_)))))))
   refine zc 2 [(120,(vW ((x.get 2).toNat))),(119,(vW ((x.get 0).toNat)))] (za (zn (some 121) .u32 ((IntKind.u32.wrap ((BitVec.ofInt IntKind.u32.bits (((x.get 0).toNat:Nat):Int)&&&BitVec.ofInt IntKind.u32.bits (((x.get 2).toNat:Nat):Int)).toNat:Int))) (((x.get 0)&&&(x.get 2)).toNat) (zeq (x.get 0) (x.get 2)) ?_))
   refine za (zn (some 122) .u32 ((IntKind.u32.wrap ((BitVec.ofInt IntKind.u32.bits ((((x.get 0)&&&(x.get 1)).toNat:Nat):Int)||| BitVec.ofInt IntKind.u32.bits ((((x.get 0)&&&(x.get 2)).toNat:Nat):Int)).toNat:Int))) ((((x.get 0)&&&(x.get 1))|||((x.get 0)&&&(x.get 2))).toNat) (znN ((x.get 0)&&&(x.get 1)) ((x.get 0)&&&(x.get 2))) ?_)
   refine zc 2 [(124,(vW ((x.get 2).toNat))),(123,(vW ((x.get 1).toNat)))] (za (zn (some 125) .u32 ((IntKind.u32.wrap ((BitVec.ofInt IntKind.u32.bits (((x.get 1).toNat:Nat):Int)&&&BitVec.ofInt IntKind.u32.bits (((x.get 2).toNat:Nat):Int)).toNat:Int))) (((x.get 1)&&&(x.get 2)).toNat) (zeq (x.get 1) (x.get 2)) ?_))
   refine za (zn (some 126) .u32 ((IntKind.u32.wrap ((BitVec.ofInt IntKind.u32.bits ((((x.get 0&&&x.get 1)|||(x.get 0&&&x.get 2)).toNat:Nat):Int)||| BitVec.ofInt IntKind.u32.bits (((x.get 1&&&x.get 2).toNat:Nat):Int)).toNat:Int))) ((((x.get 0&&&x.get 1)^^^(x.get 0&&&x.get 2)^^^(x.get 1&&&x.get 2))).toNat) ((znN _ _).trans (by rw [ztY])) ?_)
   refine zc 1 [(23,(vW ((((x.get 0&&&x.get 1)^^^(x.get 0&&&x.get 2)^^^(x.get 1&&&x.get 2))).toNat)))] (zf (zb (ze (zaa 21 (fun w20 hEw20 hzw20 hT301=> ?_)))))
   refine zg hT301 [(0,127,(vW ((x.get 7).toNat))),(1,128,(vW ((x.get 4).toNat))),(3,130,(vW ((x.get 4).toNat))),(6,133,(vW ((x.get 4).toNat))),(10,137,(vW ((((x.get 4&&&x.get 5)^^^(~~~(x.get 4)&&&x.get 6))).toNat))),(12,139,(vI i))] 6 (zaP hT301 13 w3.heap.size 0 i 64 1 (zt hT301 14 w3.heap.size (0+i*1) (fun w' hC=>(((hK2.ext hEw20).ext hC).cell (zcW i (by omega)))) (zg hT301 [(16,143,(vI i))] 1 (zaP hT301 17 w7.heap.size 0 i 64 1 (zt hT301 18 w7.heap.size (0+i*1) (fun w' hC=>(((hB2.ext hEw20).ext hC).cell (zcW i (by omega)))) (zx 2 (zq (zdI (x.get 4) 6 _ (by decide) (by decide)) ?_)))))))
   rintro _ w21 ⟨rfl,hEw21⟩
   have hzw21:=hEw21.size
   refine ⟨.inr hEw21, ?_⟩
   refine zx 4 (zq (zdI (x.get 4) 11 _ (by decide) (by decide)) ?_)
   rintro _ w22 ⟨rfl,hEw22⟩
   have hzw22:=hEw22.size
   have hX6:Ext w20 w22:=(hEw21.trans hEw22)
   refine ⟨.inr hX6, ?_⟩
   refine zk (hw:=hX6) hT301 5 (vW (((rr (x.get 4) 6)^^^(rr (x.get 4) 11)).toNat)) (zY .u32 _ (zca (rr (x.get 4) 6) (rr (x.get 4) 11))) (zx 7 (zq (zdI (x.get 4) 25 _ (by decide) (by decide)) ?_))
   rintro _ w23 ⟨rfl,hEw23⟩
   have hzw23:=hEw23.size
   have hX7:Ext w20 w23:=((hEw21.trans hEw22).trans hEw23)
   refine ⟨.inr hX7, ?_⟩
   refine zk (hw:=hX7) hT301 8 (vW ((((rr (x.get 4) 6)^^^(rr (x.get 4) 11))^^^(rr (x.get 4) 25)).toNat)) (zY .u32 _ (zca ((rr (x.get 4) 6)^^^(rr (x.get 4) 11)) (rr (x.get 4) 25))) (zk (hw:=hX7) hT301 9 (vW (((x.get 7)+(((rr (x.get 4) 6)^^^(rr (x.get 4) 11))^^^(rr (x.get 4) 25))).toNat)) (zY .u32 _ (zbl (x.get 7) (((rr (x.get 4) 6)^^^(rr (x.get 4) 11))^^^(rr (x.get 4) 25)))) (zk (hw:=hX7) hT301 11 (vW ((((x.get 7)+(((rr (x.get 4) 6)^^^(rr (x.get 4) 11))^^^(rr (x.get 4) 25)))+(((x.get 4&&&x.get 5)^^^(~~~(x.get 4)&&&x.get 6)))).toNat)) (zY .u32 _ (zbl ((x.get 7)+(((rr (x.get 4) 6)^^^(rr (x.get 4) 11))^^^(rr (x.get 4) 25))) (((x.get 4&&&x.get 5)^^^(~~~(x.get 4)&&&x.get 6))))) (zk (hw:=hX7) hT301 15 (vW (((((x.get 7)+(((rr (x.get 4) 6)^^^(rr (x.get 4) 11))^^^(rr (x.get 4) 25)))+(((x.get 4&&&x.get 5)^^^(~~~(x.get 4)&&&x.get 6))))+(kA.get i)).toNat)) (zY .u32 _ (zbl (((x.get 7)+(((rr (x.get 4) 6)^^^(rr (x.get 4) 11))^^^(rr (x.get 4) 25)))+(((x.get 4&&&x.get 5)^^^(~~~(x.get 4)&&&x.get 6)))) (kA.get i))) (zk (hw:=hX7) hT301 19 (vW ((((((x.get 7)+(((rr (x.get 4) 6)^^^(rr (x.get 4) 11))^^^(rr (x.get 4) 25)))+(((x.get 4&&&x.get 5)^^^(~~~(x.get 4)&&&x.get 6))))+(kA.get i))+((zB b 64).get i)).toNat)) (zY .u32 _ (zbl ((((x.get 7)+(((rr (x.get 4) 6)^^^(rr (x.get 4) 11))^^^(rr (x.get 4) 25)))+(((x.get 4&&&x.get 5)^^^(~~~(x.get 4)&&&x.get 6))))+(kA.get i)) ((zB b 64).get i))) ?_))))
   refine zg (hw:=hX7) hT301 [(20,24,(vW ((((((x.get 7)+(((rr (x.get 4) 6)^^^(rr (x.get 4) 11))^^^(rr (x.get 4) 25)))+(((x.get 4&&&x.get 5)^^^(~~~(x.get 4)&&&x.get 6))))+(kA.get i))+((zB b 64).get i)).toNat)))] 1 (zD (zb (ze (zd (zc 1 [(147,(vW ((x.get 0).toNat)))] (za (zq (zdI (x.get 0) 2 _ (by decide) (by decide)) ?_)))))))
   rintro _ w24 ⟨rfl,hEw24⟩
   have hzw24:=hEw24.size
   refine zc 1 [(149,(vW ((x.get 0).toNat)))] (za (zq (zdI (x.get 0) 13 _ (by decide) (by decide)) ?_))
   rintro _ w25 ⟨rfl,hEw25⟩
   have hzw25:=hEw25.size
   refine za (zn (some 151) .u32 ((IntKind.u32.wrap ((BitVec.ofInt IntKind.u32.bits (((rr (x.get 0) 2).toNat:Nat):Int)^^^BitVec.ofInt IntKind.u32.bits (((rr (x.get 0) 13).toNat:Nat):Int)).toNat:Int))) (((rr (x.get 0) 2)^^^(rr (x.get 0) 13)).toNat) (zca (rr (x.get 0) 2) (rr (x.get 0) 13)) ?_)
   refine zc 1 [(152,(vW ((x.get 0).toNat)))] (za (zq (zdI (x.get 0) 22 _ (by decide) (by decide)) ?_))
   rintro _ w26 ⟨rfl,hEw26⟩
   have hzw26:=hEw26.size
   refine za (zn (some 154) .u32 ((IntKind.u32.wrap ((BitVec.ofInt IntKind.u32.bits ((((rr (x.get 0) 2)^^^(rr (x.get 0) 13)).toNat:Nat):Int)^^^BitVec.ofInt IntKind.u32.bits (((rr (x.get 0) 22).toNat:Nat):Int)).toNat:Int))) ((((rr (x.get 0) 2)^^^(rr (x.get 0) 13))^^^(rr (x.get 0) 22)).toNat) (zca ((rr (x.get 0) 2)^^^(rr (x.get 0) 13)) (rr (x.get 0) 22)) ?_)
   refine zc 1 [(155,(vW ((((x.get 0&&&x.get 1)^^^(x.get 0&&&x.get 2)^^^(x.get 1&&&x.get 2))).toNat)))] (za (zn (some 156) .u32 (IntKind.u32.wrap ((((((rr (x.get 0) 2)^^^(rr (x.get 0) 13))^^^(rr (x.get 0) 22)).toNat:Nat):Int)+(((((x.get 0&&&x.get 1)^^^(x.get 0&&&x.get 2)^^^(x.get 1&&&x.get 2))).toNat:Nat):Int))) (((((rr (x.get 0) 2)^^^(rr (x.get 0) 13))^^^(rr (x.get 0) 22))+(((x.get 0&&&x.get 1)^^^(x.get 0&&&x.get 2)^^^(x.get 1&&&x.get 2)))).toNat) (zbl (((rr (x.get 0) 2)^^^(rr (x.get 0) 13))^^^(rr (x.get 0) 22)) (((x.get 0&&&x.get 1)^^^(x.get 0&&&x.get 2)^^^(x.get 1&&&x.get 2)))) ?_))
   refine zc 1 [(25,(vW (((((rr (x.get 0) 2)^^^(rr (x.get 0) 13))^^^(rr (x.get 0) 22))+(((x.get 0&&&x.get 1)^^^(x.get 0&&&x.get 2)^^^(x.get 1&&&x.get 2)))).toNat)))] (zf (zb (zd (zc 5 [(161,(vW ((((((x.get 7)+(((rr (x.get 4) 6)^^^(rr (x.get 4) 11))^^^(rr (x.get 4) 25)))+(((x.get 4&&&x.get 5)^^^(~~~(x.get 4)&&&x.get 6))))+(kA.get i))+((zB b 64).get i)).toNat))),(160,(vW ((x.get 3).toNat))),(159,(vW ((x.get 4).toNat))),(158,(vW ((x.get 5).toNat))),(157,(vW ((x.get 6).toNat)))] (za (zn (some 162) .u32 (IntKind.u32.wrap ((((x.get 3).toNat:Nat):Int)+(((((((x.get 7)+(((rr (x.get 4) 6)^^^(rr (x.get 4) 11))^^^(rr (x.get 4) 25)))+(((x.get 4&&&x.get 5)^^^(~~~(x.get 4)&&&x.get 6))))+(kA.get i))+((zB b 64).get i)).toNat:Nat):Int))) (((x.get 3)+(((((x.get 7)+(((rr (x.get 4) 6)^^^(rr (x.get 4) 11))^^^(rr (x.get 4) 25)))+(((x.get 4&&&x.get 5)^^^(~~~(x.get 4)&&&x.get 6))))+(kA.get i))+((zB b 64).get i))).toNat) (zbl (x.get 3) (((((x.get 7)+(((rr (x.get 4) 6)^^^(rr (x.get 4) 11))^^^(rr (x.get 4) 25)))+(((x.get 4&&&x.get 5)^^^(~~~(x.get 4)&&&x.get 6))))+(kA.get i))+((zB b 64).get i))) ?_))))))
   refine zc 5 [(167,(vW (((((rr (x.get 0) 2)^^^(rr (x.get 0) 13))^^^(rr (x.get 0) 22))+(((x.get 0&&&x.get 1)^^^(x.get 0&&&x.get 2)^^^(x.get 1&&&x.get 2)))).toNat))),(166,(vW ((((((x.get 7)+(((rr (x.get 4) 6)^^^(rr (x.get 4) 11))^^^(rr (x.get 4) 25)))+(((x.get 4&&&x.get 5)^^^(~~~(x.get 4)&&&x.get 6))))+(kA.get i))+((zB b 64).get i)).toNat))),(165,(vW ((x.get 0).toNat))),(164,(vW ((x.get 1).toNat))),(163,(vW ((x.get 2).toNat)))] (za (zn (some 168) .u32 (IntKind.u32.wrap ((((((((x.get 7)+(((rr (x.get 4) 6)^^^(rr (x.get 4) 11))^^^(rr (x.get 4) 25)))+(((x.get 4&&&x.get 5)^^^(~~~(x.get 4)&&&x.get 6))))+(kA.get i))+((zB b 64).get i)).toNat:Nat):Int)+((((((rr (x.get 0) 2)^^^(rr (x.get 0) 13))^^^(rr (x.get 0) 22))+(((x.get 0&&&x.get 1)^^^(x.get 0&&&x.get 2)^^^(x.get 1&&&x.get 2)))).toNat:Nat):Int))) (((((((x.get 7)+(((rr (x.get 4) 6)^^^(rr (x.get 4) 11))^^^(rr (x.get 4) 25)))+(((x.get 4&&&x.get 5)^^^(~~~(x.get 4)&&&x.get 6))))+(kA.get i))+((zB b 64).get i))+((((rr (x.get 0) 2)^^^(rr (x.get 0) 13))^^^(rr (x.get 0) 22))+(((x.get 0&&&x.get 1)^^^(x.get 0&&&x.get 2)^^^(x.get 1&&&x.get 2))))).toNat) (zbl (((((x.get 7)+(((rr (x.get 4) 6)^^^(rr (x.get 4) 11))^^^(rr (x.get 4) 25)))+(((x.get 4&&&x.get 5)^^^(~~~(x.get 4)&&&x.get 6))))+(kA.get i))+((zB b 64).get i)) ((((rr (x.get 0) 2)^^^(rr (x.get 0) 13))^^^(rr (x.get 0) 22))+(((x.get 0&&&x.get 1)^^^(x.get 0&&&x.get 2)^^^(x.get 1&&&x.get 2))))) ?_))
   refine zc 8 [(13,(vW (((((((x.get 7)+(((rr (x.get 4) 6)^^^(rr (x.get 4) 11))^^^(rr (x.get 4) 25)))+(((x.get 4&&&x.get 5)^^^(~~~(x.get 4)&&&x.get 6))))+(kA.get i))+((zB b 64).get i))+((((rr (x.get 0) 2)^^^(rr (x.get 0) 13))^^^(rr (x.get 0) 22))+(((x.get 0&&&x.get 1)^^^(x.get 0&&&x.get 2)^^^(x.get 1&&&x.get 2))))).toNat))),(14,(vW ((x.get 0).toNat))),(15,(vW ((x.get 1).toNat))),(16,(vW ((x.get 2).toNat))),(17,(vW (((x.get 3)+(((((x.get 7)+(((rr (x.get 4) 6)^^^(rr (x.get 4) 11))^^^(rr (x.get 4) 25)))+(((x.get 4&&&x.get 5)^^^(~~~(x.get 4)&&&x.get 6))))+(kA.get i))+((zB b 64).get i))).toNat))),(18,(vW ((x.get 4).toNat))),(19,(vW ((x.get 5).toNat))),(20,(vW ((x.get 6).toNat)))] (zf (zi (zb (zd (zc 1 [(106,(vI i))] (za (zn (some 107) .i64 (IntKind.i64.wrap (((i:Nat):Int)+((1:Nat):Int))) (i+1) (zu) ?_)))))))
   refine zc 1 [(21,(vI (i+1)))] (zf (zz ?_))
   have hK8:=(((((((hA2.ext hEw20).ext hEw21).ext hEw22).ext hEw23).ext hEw24).ext hEw25).ext hEw26)
   have hK9:=(((((((hB2.ext hEw20).ext hEw21).ext hEw22).ext hEw23).ext hEw24).ext hEw25).ext hEw26)
   have hK10:=(((((((hK2.ext hEw20).ext hEw21).ext hEw22).ext hEw23).ext hEw24).ext hEw25).ext hEw26)
   have hK11:=(((((((hZ42.ext hEw20).ext hEw21).ext hEw22).ext hEw23).ext hEw24).ext hEw25).ext hEw26)
   have hX8:Ext w w26:=(((((((hEm.trans hEw20).trans hEw21).trans hEw22).trans hEw23).trans hEw24).trans hEw25).trans hEw26)
   refine zL (i+1,rnd x (kA.get i) ((zB b 64).get i)) ?_ ?_
   ·exact ⟨by omega,by rw [zeR,←hx],hK8,hK9,hK10,hK11,hX8⟩
   ·first | omega |(dsimp only;omega)
  ·replace hc105:¬(i<64):=by have:=zad hc105;omega
   refine zf (zb (zh (zP (zp (zp (zF (zb (ze (zd ?_)))))))))
   refine za (zaM (Instr.indexAt 168 (vP w.heap.size 0) (vI 0)) (vP w.heap.size 0) (za2 (E:=53) (sz:=1) (m:=8)) ?_)
   refine za (zl w.heap.size 0 (hA2.cell (zaR 0 (by omega))) ?_)
   refine zc 1 [(171,(vW ((x.get 0).toNat)))] (za (zn (some 172) .u32 (IntKind.u32.wrap ((((h.get 0).toNat:Nat):Int)+(((x.get 0).toNat:Nat):Int))) (((h.get 0)+(x.get 0)).toNat) (zbl (h.get 0) (x.get 0)) ?_))
   refine za (zaM (Instr.indexAt 168 (vP w.heap.size 0) (vI 1)) (vP w.heap.size 1) (za2 (E:=53) (sz:=1) (m:=8)) ?_)
   refine za (zl w.heap.size 1 (hA2.cell (zaR 1 (by omega))) ?_)
   refine zc 1 [(175,(vW ((x.get 1).toNat)))] (za (zn (some 176) .u32 (IntKind.u32.wrap ((((h.get 1).toNat:Nat):Int)+(((x.get 1).toNat:Nat):Int))) (((h.get 1)+(x.get 1)).toNat) (zbl (h.get 1) (x.get 1)) ?_))
   refine za (zaM (Instr.indexAt 168 (vP w.heap.size 0) (vI 2)) (vP w.heap.size 2) (za2 (E:=53) (sz:=1) (m:=8)) ?_)
   refine za (zl w.heap.size 2 (hA2.cell (zaR 2 (by omega))) ?_)
   refine zc 1 [(179,(vW ((x.get 2).toNat)))] (za (zn (some 180) .u32 (IntKind.u32.wrap ((((h.get 2).toNat:Nat):Int)+(((x.get 2).toNat:Nat):Int))) (((h.get 2)+(x.get 2)).toNat) (zbl (h.get 2) (x.get 2)) ?_))
   refine za (zaM (Instr.indexAt 168 (vP w.heap.size 0) (vI 3)) (vP w.heap.size 3) (za2 (E:=53) (sz:=1) (m:=8)) ?_)
   refine za (zl w.heap.size 3 (hA2.cell (zaR 3 (by omega))) ?_)
   refine zc 1 [(183,(vW ((x.get 3).toNat)))] (za (zn (some 184) .u32 (IntKind.u32.wrap ((((h.get 3).toNat:Nat):Int)+(((x.get 3).toNat:Nat):Int))) (((h.get 3)+(x.get 3)).toNat) (zbl (h.get 3) (x.get 3)) ?_))
   refine za (zaM (Instr.indexAt 168 (vP w.heap.size 0) (vI 4)) (vP w.heap.size 4) (za2 (E:=53) (sz:=1) (m:=8)) ?_)
   refine za (zl w.heap.size 4 (hA2.cell (zaR 4 (by omega))) ?_)
   refine zc 1 [(187,(vW ((x.get 4).toNat)))] (za (zn (some 188) .u32 (IntKind.u32.wrap ((((h.get 4).toNat:Nat):Int)+(((x.get 4).toNat:Nat):Int))) (((h.get 4)+(x.get 4)).toNat) (zbl (h.get 4) (x.get 4)) ?_))
   refine za (zaM (Instr.indexAt 168 (vP w.heap.size 0) (vI 5)) (vP w.heap.size 5) (za2 (E:=53) (sz:=1) (m:=8)) ?_)
   refine za (zl w.heap.size 5 (hA2.cell (zaR 5 (by omega))) ?_)
   refine zc 1 [(191,(vW ((x.get 5).toNat)))] (za (zn (some 192) .u32 (IntKind.u32.wrap ((((h.get 5).toNat:Nat):Int)+(((x.get 5).toNat:Nat):Int))) (((h.get 5)+(x.get 5)).toNat) (zbl (h.get 5) (x.get 5)) ?_))
   refine za (zaM (Instr.indexAt 168 (vP w.heap.size 0) (vI 6)) (vP w.heap.size 6) (za2 (E:=53) (sz:=1) (m:=8)) ?_)
   refine za (zl w.heap.size 6 (hA2.cell (zaR 6 (by omega))) ?_)
   refine zc 1 [(195,(vW ((x.get 6).toNat)))] (za (zn (some 196) .u32 (IntKind.u32.wrap ((((h.get 6).toNat:Nat):Int)+(((x.get 6).toNat:Nat):Int))) (((h.get 6)+(x.get 6)).toNat) (zbl (h.get 6) (x.get 6)) ?_))
   refine za (zaM (Instr.indexAt 168 (vP w.heap.size 0) (vI 7)) (vP w.heap.size 7) (za2 (E:=53) (sz:=1) (m:=8)) ?_)
   refine za (zl w.heap.size 7 (hA2.cell (zaR 7 (by omega))) ?_)
   refine zc 1 [(199,(vW ((x.get 7).toNat)))] (za (zn (some 200) .u32 (IntKind.u32.wrap ((((h.get 7).toNat:Nat):Int)+(((x.get 7).toNat:Nat):Int))) (((h.get 7)+(x.get 7)).toNat) (zbl (h.get 7) (x.get 7)) ?_))
   refine zc 1 [(201,(vA (w8C ⟨[((h.get 0)+(x.get 0)),((h.get 1)+(x.get 1)),((h.get 2)+(x.get 2)),((h.get 3)+(x.get 3)),((h.get 4)+(x.get 4)),((h.get 5)+(x.get 5)),((h.get 6)+(x.get 6)),((h.get 7)+(x.get 7))],rfl⟩)))] (za (zG 168 w1.heap.size 0 168 (vA (w8C ⟨[((h.get 0)+(x.get 0)),((h.get 1)+(x.get 1)),((h.get 2)+(x.get 2)),((h.get 3)+(x.get 3)),((h.get 4)+(x.get 4)),((h.get 5)+(x.get 5)),((h.get 6)+(x.get 6)),((h.get 7)+(x.get 7))],rfl⟩)) (w8C (WA.zero 8)) (w8C ⟨[((h.get 0)+(x.get 0)),((h.get 1)+(x.get 1)),((h.get 2)+(x.get 2)),((h.get 3)+(x.get 3)),((h.get 4)+(x.get 4)),((h.get 5)+(x.get 5)),((h.get 6)+(x.get 6)),((h.get 7)+(x.get 7))],rfl⟩) hZ42 (by rw [zbO];kernel_rfl) (by first |(simp;done)|(simp;omega)) (zdL _) ?_))
   intro w27 hBw27 hCw27
   have hzw27:=hCw27.size
   rw [zy _ _ (by simp)] at hBw27
   refine zf (zb (zj (zaI (show zX Tryz.prog 202 _ _ (.cell 4 168) (vA (w8C ⟨[((h.get 0)+(x.get 0)),((h.get 1)+(x.get 1)),((h.get 2)+(x.get 2)),((h.get 3)+(x.get 3)),((h.get 4)+(x.get 4)),((h.get 5)+(x.get 5)),((h.get 6)+(x.get 6)),((h.get 7)+(x.get 7))],rfl⟩)) from ⟨⟨w1.heap.size,0,none⟩,(by kernel_rfl),zI (T:=168) (vs:=w8C ⟨[((h.get 0)+(x.get 0)),((h.get 1)+(x.get 1)),((h.get 2)+(x.get 2)),((h.get 3)+(x.get 3)),((h.get 4)+(x.get 4)),((h.get 5)+(x.get 5)),((h.get 6)+(x.get 6)),((h.get 7)+(x.get 7))],rfl⟩) (hBw27).all (by rw [zbO];kernel_rfl)⟩) ?_)))
   obtain rfl:i=64:=by omega
   exact ⟨by rw [zo0,hx],(Ext.own hEm hCw27 (by omega))⟩
end Go.Proofs.YtkmhgepdhilllaaGreatDoor
namespace Go.Proofs.YtkmhgepdhilllaaGreatDoor
open Go Go.RowKit Go.Cs
set_option maxRecDepth 100000
theorem zu2 (w:World) (hg1:Gl 1 (w8C zbm) w):
  Calls Tryz.prog 119 #[] w (Ret fun r w'=>r=(vA (stC Sta.new))∧Ext w w'):=by
 refine zC (n:=3) (σ:= []) Tryz.func119 rfl ?_
 have hgl1:=hg1.lt
 refine ze (zd (za (zaf (stC Sta.zero) 193 ?_)))
 intro w1 hBw1 hEw1 hzw1 hlw1
 refine zf (zb (ze (zd (za (zS 1 0 ((hg1.ext hEw1).all) (zbO _) ?_)))))
 refine za (zaM (Instr.build 193 #[(0,vT),(1,(vA (w8C zbm)))]) (vA (stC Sta.new)) ((zku zbm).trans (congrArg (fun z:Sta=>Result.ok (Value.agg (stC z).toArray) _) (show (⟨true,zbm,List.replicate 64 0,0,by simp,by decide⟩:Sta)=Sta.new from rfl))) ?_)
 refine za (zG 193 w.heap.size 0 193 (vA (stC Sta.new)) (stC Sta.zero) (stC Sta.new) hBw1 (by rw [zck];kernel_rfl) (by first |(simp;done)|(simp;omega)) (ze0 _) ?_)
 intro w2 hBw2 hCw2
 have hzw2:=hCw2.size
 rw [zy _ _ (by simp)] at hBw2
 exact zf (zb (zj (zaI (show zX Tryz.prog 3 _ _ (.cell 0 193) (vA (stC Sta.new)) from ⟨⟨w.heap.size,0,none⟩,(by kernel_rfl),zI (T:=193) (vs:=stC Sta.new) (hBw2).all (by rw [zck];kernel_rfl)⟩) (⟨rfl,(Ext.own hEw1 hCw2 (by omega))⟩))))
theorem zhM (s:Sta) {lo_b hi_b:Nat} {a_b:Option Addr} {n_b c_b:Nat} {b:List UInt8} (l:List UInt8) (w:World) (h_b:Bs lo_b hi_b w a_b n_b c_b b) (hp0:Sm s l) (hp1:l.length+n_b<2305843009213693952) (hg2:Gl 3 (zax kA) w):
  Calls Tryz.prog 120 #[(vA (stC s)),(.slice a_b n_b c_b)] w (Ret fun r w'=>∃(a0:Sta),r=(vA (stC a0))∧Sm a0 (l++b)∧Ext w w'):=by
 refine zC (n:=43) (σ:= [(0,(vA (stC s))),(1,(.slice a_b n_b c_b))]) Tryz.func120 rfl ?_
 replace h_b:=h_b.now;have hle_b:=h_b.le
 have hgl2:=hg2.lt
 refine ze (zd (za (zab (Instr.box 193 (vA (stC s))) (vP w.heap.size 0) (stC s) 193 ?_)))
 intro w1 hBw1 hEw1 hzw1 hlw1
 refine za (zaf (stC Sta.zero) 193 ?_)
 intro w2 hBw2 hEw2 hzw2 hlw2
 refine zf (zb (ze (ze (zd (zc 1 [(7,(vP w.heap.size 0))] (za (zl w.heap.size 0 ((hBw1.ext hEw2).cell (show (stC s)[0]? =some vT from congrArg (fun z=>some (Value.bool z)) hp0.bg)) ?_)))))))
 refine zc 1 [(9,vF)] (zf (zb (zh (zo (zb (ze (zr (zW (X:=Nat×Sta×Option Addr) (fun ⟨p,y,ad⟩=> [(1,(.slice ad (n_b-p) (c_b-p)))]) [5,6,11,12,13,14,15,16,17,18,19,20,21,22,23,24,25,26,27,28,29,30,31,32,33,34,35,36,37,38,39,40,41] (fun ⟨p,y,ad⟩ w3=>p≤n_b∧Sm y (l++b.take p)∧Bs lo_b w.heap.size w3 ad (n_b-p) (c_b-p) (b.drop p)∧Blk w3 w.heap.size (stC y) 193∧Blk w3 w1.heap.size (stC Sta.zero) 193∧Ext w w3) (fun ⟨p,y,ad⟩=>n_b-p) (0,s,a_b) (by kernel_rfl) ⟨by omega,by rw [List.take_zero,List.append_nil];exact hp0,by rw [List.drop_zero];exact ((h_b.ext hEw1).ext hEw2),(hBw1.ext hEw2),hBw2,(hEw1.trans hEw2)⟩ ?_))))))))
 rintro ⟨p,y,ad⟩ dw3 w3 ⟨hp,hsm,hBs,hB2,hB4,hEl⟩
 have hzl:=hEl.size
 have hl2:=hB2.lt;have hl4:=hB4.lt
 have hlen:=h_b.len_eq
 have hle1:=hBs.le
 have hll:(l++b.take p).length=l.length+p:=by simp;omega
 have hmy:y.many=l.length+p:=hsm.many.trans hll
 refine ze (ze (zd (zc 2 [(12,(vI (n_b-p))),(11,(.slice ad (n_b-p) (c_b-p)))] (za (zE (some 13) (decide (((n_b-p:Nat):Int)>((0:Nat):Int))) (fun hc13=> ?_) (fun hc13=> ?_))))))
 ·replace hc13:n_b-p>0:=by have:=zac hc13;omega
  refine zf (zb (zv (zo (zb (zr (ze (zd (zc 1 [(14,(vP w.heap.size 73))] (za (zl w.heap.size 73 (hB2.cell (zhV _)) ?_))))))))))
  refine za (zn (some 16) .u64 (((y.many:Nat):Int).tmod ((64:Nat):Int)) (y.many%64) (zcZ _ _) ?_)
  refine za (zn (some 17) .i64 (IntKind.i64.wrap ((y.many%64:Nat):Int)) (y.many%64) (zu rfl) ?_)
  refine zc 1 [(5,(vI (y.many%64)))] (zf (zb (ze (zd (zc 2 [(19,(vI (y.many%64))),(18,(vP w.heap.size 9))] (za (zaM (Instr.sliceAt 191 (vP w.heap.size 9) (some (vI (y.many%64))) none none) (.slice (pA w.heap.size (9+(y.many%64)*1)) (64-(y.many%64)) (64-(y.many%64))) (zjc (len:=64) (E:=5) (sz:=1) (l:=y.many%64) (r:=64) (m:=64) (.inr ⟨_,rfl⟩) (.inl ⟨rfl,rfl⟩) (.inl ⟨rfl,rfl⟩) (by simp) (by omega) (by omega) (by omega) (by omega)) ?_)))))))
  refine zc 1 [(21,(.slice ad (n_b-p) (c_b-p)))] (za (zhH (a:=(pA w.heap.size (9+(y.many%64)*1))) (dl:=64-(y.many%64)) (dc:=64-(y.many%64)) (some 22) 23 23 3 5 w.heap.size (9+y.many%64) hB2 (fun _=>by rw [Nat.mul_one]) (by simp;omega) hBs.es (fun _=>rfl) ?_))
  intro w4 hBw4 hCw4
  have hzw4:=hCw4.size
  rw [show zU (stC y) (9+y.many%64) (((b.drop p).take (min (n_b-p) (64-(y.many%64)))).map u8v)=stC (y.put (y.many%64) ((b.drop p).take (min (n_b-p) (64-(y.many%64)))) (by simp;omega)) from zt2 (by simp;omega)] at hBw4
  refine zc 1 [(6,(vI (min (n_b-p) (64-(y.many%64)))))] (zf (zb (ze (zd (zc 1 [(23,(vP w.heap.size 73))] (za (zl w.heap.size 73 (hBw4.cell (zhV _)) ?_)))))))
  refine zc 1 [(25,(vI (min (n_b-p) (64-(y.many%64)))))] (za (zn (some 26) .u64 (IntKind.u64.wrap ((min (n_b-p) (64-(y.many%64)):Nat):Int)) (min (n_b-p) (64-(y.many%64))) (zbA rfl rfl (by show _<2^64;omega)) ?_))
  refine za (zn (some 27) .u64 (IntKind.u64.wrap ((((y.put (y.many%64) ((b.drop p).take (min (n_b-p) (64-(y.many%64)))) (by simp;omega)).many:Nat):Int)+((min (n_b-p) (64-(y.many%64)):Nat):Int))) (y.many+min (n_b-p) (64-(y.many%64))) (zbA rfl (by push_cast;rfl) (by show _<2^64;omega)) ?_)
  refine zc 1 [(28,(vP w.heap.size 73))] (za (zak 54 w.heap.size 73 193 (vQ (y.many+min (n_b-p) (64-(y.many%64)))) (stC (y.put (y.many%64) ((b.drop p).take (min (n_b-p) (64-(y.many%64)))) (by simp;omega))) hBw4 (by first | decide |(simp;done)|(simp;omega)) ?_))
  intro w5 hBw5 hCw5
  have hzw5:=hCw5.size
  rw [show ((stC (y.put (y.many%64) ((b.drop p).take (min (n_b-p) (64-(y.many%64)))) (by simp;omega))).set 73 (vQ (y.many+min (n_b-p) (64-(y.many%64)))):List Value)=stC ((y.put (y.many%64) ((b.drop p).take (min (n_b-p) (64-(y.many%64)))) (by simp;omega)).setMany (y.many+min (n_b-p) (64-(y.many%64))) (by omega)) from znp (by omega)] at hBw5
  refine zf (zb (ze (zd (zc 2 [(30,(vI (min (n_b-p) (64-(y.many%64))))),(29,(.slice ad (n_b-p) (c_b-p)))] ?_))))
  obtain ⟨a1,hR1,hS1⟩:=((hBs.chg hCw4).chg hCw5).slice Tryz.prog 23 5 (min (n_b-p) (64-(y.many%64))) (n_b-p) (c_b-p) (some (vI (min (n_b-p) (64-(y.many%64))))) none none
  refine za (zaM (Instr.sliceAt 23 (.slice ad (n_b-p) (c_b-p)) (some (vI (min (n_b-p) (64-(y.many%64))))) none none) (.slice a1 (n_b-p-(min (n_b-p) (64-(y.many%64)))) (c_b-p-(min (n_b-p) (64-(y.many%64))))) (hR1 _) ?_)
  refine zc 1 [(1,(.slice a1 (n_b-p-(min (n_b-p) (64-(y.many%64)))) (c_b-p-(min (n_b-p) (64-(y.many%64))))))] (zf (zb (ze (zd (zc 2 [(33,(vI (min (n_b-p) (64-(y.many%64))))),(32,(vI (y.many%64)))] (za (zn (some 34) .i64 (IntKind.i64.wrap (((y.many%64:Nat):Int)+((min (n_b-p) (64-(y.many%64)):Nat):Int))) (y.many%64+(min (n_b-p) (64-(y.many%64)))) (zu) ?_)))))))
  refine za (zE (some 35) ((((y.many%64+(min (n_b-p) (64-(y.many%64))):Nat):Int)==((64:Nat):Int))) (fun hc35=> ?_) (fun hc35=> ?_))
  ·replace hc35:y.many%64+(min (n_b-p) (64-(y.many%64)))=64:=by have:=zbD hc35;omega
   refine zf (zb (zv (zd (zc 1 [(36,(vP w.heap.size 1))] (za (zS w.heap.size 1 (hBw5.at 1 (w8C ((y.put (y.many%64) ((b.drop p).take (min (n_b-p) (64-(y.many%64)))) (by simp;omega)).setMany (y.many+min (n_b-p) (64-(y.many%64))) (by omega)).h) (zuq _)) (zbO _) ?_))))))
   refine zc 1 [(38,(vP w.heap.size 9))] (za (zS w.heap.size 9 (hBw5.at 9 (zdQ ((y.put (y.many%64) ((b.drop p).take (min (n_b-p) (64-(y.many%64)))) (by simp;omega)).setMany (y.many+min (n_b-p) (64-(y.many%64))) (by omega)).rb) (zsO _)) (zlq _) ?_))
   have hK1:=(((hg2.ext hEl).chg hCw4).chg hCw5)
   refine za (zq (zrP (((y.put (y.many%64) ((b.drop p).take (min (n_b-p) (64-(y.many%64)))) (by simp;omega)).setMany (y.many+min (n_b-p) (64-(y.many%64))) (by omega)).h) (((y.put (y.many%64) ((b.drop p).take (min (n_b-p) (64-(y.many%64)))) (by simp;omega)).setMany (y.many+min (n_b-p) (64-(y.many%64))) (by omega)).rb) _ hK1) ?_)
   rintro _ w6 ⟨rfl,hEw6⟩
   have hzw6:=hEw6.size
   refine zc 1 [(41,(vP w.heap.size 1))] (za (zG 168 w.heap.size 1 193 (vA (w8C (zeU (((y.put (y.many%64) ((b.drop p).take (min (n_b-p) (64-(y.many%64)))) (by simp;omega)).setMany (y.many+min (n_b-p) (64-(y.many%64))) (by omega)).h) (((y.put (y.many%64) ((b.drop p).take (min (n_b-p) (64-(y.many%64)))) (by simp;omega)).setMany (y.many+min (n_b-p) (64-(y.many%64))) (by omega)).rb).l))) (stC ((y.put (y.many%64) ((b.drop p).take (min (n_b-p) (64-(y.many%64)))) (by simp;omega)).setMany (y.many+min (n_b-p) (64-(y.many%64))) (by omega))) (w8C (zeU (((y.put (y.many%64) ((b.drop p).take (min (n_b-p) (64-(y.many%64)))) (by simp;omega)).setMany (y.many+min (n_b-p) (64-(y.many%64))) (by omega)).h) (((y.put (y.many%64) ((b.drop p).take (min (n_b-p) (64-(y.many%64)))) (by simp;omega)).setMany (y.many+min (n_b-p) (64-(y.many%64))) (by omega)).rb).l)) (hBw5.ext hEw6) (by rw [zbO];kernel_rfl) (by first |(simp;done)|(simp;omega)) (zdL _) ?_))
   intro w7 hBw7 hCw7
   have hzw7:=hCw7.size
   rw [show (zU (stC ((y.put (y.many%64) ((b.drop p).take (min (n_b-p) (64-(y.many%64)))) (by simp;omega)).setMany (y.many+min (n_b-p) (64-(y.many%64))) (by omega))) 1 (w8C (zeU (((y.put (y.many%64) ((b.drop p).take (min (n_b-p) (64-(y.many%64)))) (by simp;omega)).setMany (y.many+min (n_b-p) (64-(y.many%64))) (by omega)).h) (((y.put (y.many%64) ((b.drop p).take (min (n_b-p) (64-(y.many%64)))) (by simp;omega)).setMany (y.many+min (n_b-p) (64-(y.many%64))) (by omega)).rb).l)):List Value)=stC (((y.put (y.many%64) ((b.drop p).take (min (n_b-p) (64-(y.many%64)))) (by simp;omega)).setMany (y.many+min (n_b-p) (64-(y.many%64))) (by omega)).setH (zeU (((y.put (y.many%64) ((b.drop p).take (min (n_b-p) (64-(y.many%64)))) (by simp;omega)).setMany (y.many+min (n_b-p) (64-(y.many%64))) (by omega)).h) (((y.put (y.many%64) ((b.drop p).take (min (n_b-p) (64-(y.many%64)))) (by simp;omega)).setMany (y.many+min (n_b-p) (64-(y.many%64))) (by omega)).rb).l)) from zmA] at hBw7
   refine zf (zi (zz ?_))
   rw [show n_b-p-(min (n_b-p) (64-(y.many%64)))=n_b-(p+min (n_b-p) (64-(y.many%64))) from by omega,show c_b-p-(min (n_b-p) (64-(y.many%64)))=c_b-(p+min (n_b-p) (64-(y.many%64))) from by omega]
   have hK2:=((((hB4.chg hCw4).chg hCw5).ext hEw6).chg hCw7)
   have hX1:Ext w w7:=(Ext.own ((Ext.own (Ext.own hEl hCw4 (by omega)) hCw5 (by omega)).trans hEw6) hCw7 (by omega))
   refine zL (p+min (n_b-p) (64-(y.many%64)),(((y.put (y.many%64) ((b.drop p).take (min (n_b-p) (64-(y.many%64)))) (by simp;omega)).setMany (y.many+min (n_b-p) (64-(y.many%64))) (by omega)).setH (zeU (((y.put (y.many%64) ((b.drop p).take (min (n_b-p) (64-(y.many%64)))) (by simp;omega)).setMany (y.many+min (n_b-p) (64-(y.many%64))) (by omega)).h) (((y.put (y.many%64) ((b.drop p).take (min (n_b-p) (64-(y.many%64)))) (by simp;omega)).setMany (y.many+min (n_b-p) (64-(y.many%64))) (by omega)).rb).l)),a1) ?_ ?_
   ·exact ⟨by omega,by rw [List.take_add,←List.append_assoc];exact hsm.full (a:=y.many%64) (n:=min (n_b-p) (64-(y.many%64))) (by omega) (by simp;omega) (by omega) _ _,by have hz:=((hS1.ext hEw6).chg hCw7);rw [show n_b-p-(min (n_b-p) (64-(y.many%64)))=n_b-(p+min (n_b-p) (64-(y.many%64))) from by omega,show c_b-p-(min (n_b-p) (64-(y.many%64)))=c_b-(p+min (n_b-p) (64-(y.many%64))) from by omega,List.take_of_length_le (by simp;omega),List.drop_drop] at hz;exact hz,hBw7,hK2,hX1⟩
   ·first | omega |(dsimp only;omega)
  ·replace hc35:¬(y.many%64+(min (n_b-p) (64-(y.many%64)))=64):=by have:=zbC hc35;omega
   refine zf (zb (zh (zo (zi (zz ?_)))))
   rw [show n_b-p-(min (n_b-p) (64-(y.many%64)))=n_b-(p+min (n_b-p) (64-(y.many%64))) from by omega,show c_b-p-(min (n_b-p) (64-(y.many%64)))=c_b-(p+min (n_b-p) (64-(y.many%64))) from by omega]
   refine zL (p+min (n_b-p) (64-(y.many%64)),((y.put (y.many%64) ((b.drop p).take (min (n_b-p) (64-(y.many%64)))) (by simp;omega)).setMany (y.many+min (n_b-p) (64-(y.many%64))) (by omega)),a1) ?_ ?_
   ·exact ⟨by omega,by rw [List.take_add,←List.append_assoc];exact hsm.part (a:=y.many%64) (n:=min (n_b-p) (64-(y.many%64))) (by omega) (by simp;omega) (by omega) _ _,by have hz:=hS1;rw [show n_b-p-(min (n_b-p) (64-(y.many%64)))=n_b-(p+min (n_b-p) (64-(y.many%64))) from by omega,show c_b-p-(min (n_b-p) (64-(y.many%64)))=c_b-(p+min (n_b-p) (64-(y.many%64))) from by omega,List.take_of_length_le (by simp;omega),List.drop_drop] at hz;exact hz,hBw5,((hB4.chg hCw4).chg hCw5),(Ext.own (Ext.own hEl hCw4 (by omega)) hCw5 (by omega))⟩
   ·first | omega |(dsimp only;omega)
 ·replace hc13:¬(n_b-p>0):=by have:=zad hc13;omega
  refine zf (zb (zh (zP (zp (zp (zF (zb (ze (zd ?_)))))))))
  refine za (zS w.heap.size 0 (hB2.all) (zck _) ?_)
  refine za (zG 193 w1.heap.size 0 193 (vA (stC y)) (stC Sta.zero) (stC y) hB4 (by rw [zck];kernel_rfl) (by first |(simp;done)|(simp;omega)) (ze0 _) ?_)
  intro w8 hBw8 hCw8
  have hzw8:=hCw8.size
  rw [zy _ _ (by simp)] at hBw8
  refine zf (zb (zj (zaI (show zX Tryz.prog 43 _ _ (.cell 4 193) (vA (stC y)) from ⟨⟨w1.heap.size,0,none⟩,(by kernel_rfl),zI (T:=193) (vs:=stC y) (hBw8).all (by rw [zck];kernel_rfl)⟩) ?_)))
  obtain rfl:p=n_b:=by omega
  rw [List.take_of_length_le (by omega)] at hsm
  exact ⟨y,rfl,hsm,(Ext.own hEl hCw8 (by omega))⟩
end Go.Proofs.YtkmhgepdhilllaaGreatDoor
namespace Go.Proofs.YtkmhgepdhilllaaGreatDoor
open Go Go.RowKit Go.Cs
set_option maxRecDepth 100000
theorem zul (s:Sta) (l:List UInt8) (w:World) (hp0:Sm s l) (hp1:l.length<1099511627776) (hg2:Gl 3 (zax kA) w):
  Calls Tryz.prog 121 #[(vA (stC s))] w (Ret fun r w'=>r=(vA (zQ (zR l)))∧Ext w w'):=by
 refine zC (n:=37) (σ:= [(0,(vA (stC s)))]) Tryz.func121 rfl ?_
 have hgl2:=hg2.lt
 have hs0:s.many=l.length:=hp0.many
 refine ze (zd (za (zab (Instr.box 193 (vA (stC s))) (vP w.heap.size 0) (stC s) 193 ?_)))
 intro w1 hBw1 hEw1 hzw1 hlw1
 refine za (zaf (zQ Dig.zero) 59 ?_)
 intro w2 hBw2 hEw2 hzw2 hlw2
 refine zf (zb (ze (zd (zc 1 [(6,(vP w.heap.size 73))] (za (zl w.heap.size 73 ((hBw1.ext hEw2).cell (zhV _)) ?_))))))
 refine zc 1 [(3,(vQ s.many))] (zf (zb (ze (zd (za (zS w.heap.size 0 ((hBw1.ext hEw2).all) (zck _) ?_))))))
 refine za (zab (Instr.buildSlice 23 1 #[(0,(vB 128))]) (.slice (pA w2.heap.size 0) 1 1) [(vB 128)] 5 ?_)
 intro w3 hBw3 hEw3 hzw3 hlw3
 have hSw3:Bs w2.heap.size (w2.heap.size+1) w3 (pA w2.heap.size 0) 1 1 [128]:=Bs.of_blk hBw3 (by kernel_rfl) rfl (Nat.le_refl _) (by decide) (Nat.le_refl _) (Nat.lt_succ_self _)
 have hK1:=(((hg2.ext hEw1).ext hEw2).ext hEw3)
 refine za (zq (zhM s l _ hSw3 (hp0) (by first | omega |(simp;omega)) hK1) ?_)
 rintro _ w4 ⟨a1,rfl,hFz1_0,hEw4⟩
 have hzw4:=hEw4.size
 have hK2:=(((hBw1.ext hEw2).ext hEw3).ext hEw4)
 refine za (zG 193 w.heap.size 0 193 (vA (stC a1)) (stC s) (stC a1) hK2 (by rw [zck];kernel_rfl) (by first |(simp;done)|(simp;omega)) (ze0 _) ?_)
 have hK3:=(((hBw1.ext hEw2).ext hEw3).ext hEw4)
 intro w5 hBw5 hCw5
 have hzw5:=hCw5.size
 rw [zy _ _ (by simp)] at hBw5
 refine zf (zb (ze (zr ?_)))
 have hK4:=(((hBw2.ext hEw3).ext hEw4).chg hCw5)
 have hX1:Ext w w5:=(Ext.own (((hEw1.trans hEw2).trans hEw3).trans hEw4) hCw5 (by omega))
 refine zW (X:=Nat×Sta) (fun ⟨z,y⟩=> []) [11,12,13,14,15,16,17] (fun ⟨z,y⟩ w6=>z≤zdj l.length∧Sm y (l++ [128]++List.replicate z 0)∧Blk w6 w.heap.size (stC y) 193∧Blk w6 w1.heap.size (zQ Dig.zero) 59∧Ext w w6) (fun ⟨z,y⟩=>zdj l.length-z) (0,a1) (by kernel_rfl) ⟨Nat.zero_le _,by rw [List.replicate_zero,List.append_nil];exact hFz1_0,hBw5,hK4,hX1⟩ ?_
 rintro ⟨z,y⟩ dw6 w6 ⟨hz,hsm,hB1,hB2,hEl⟩
 have hzl:=hEl.size
 have hl1:=hB1.lt;have hl2:=hB2.lt
 have hmy:y.many=l.length+1+z:=hsm.many.trans (by simp;omega)
 have hpz:zdj l.length=(119-l.length%64)%64:=rfl
 refine ze (ze (zd (zc 1 [(11,(vP w.heap.size 73))] (za (zl w.heap.size 73 (hB1.cell (zhV _)) ?_)))))
 refine za (zn (some 13) .u64 (((y.many:Nat):Int).tmod ((64:Nat):Int)) (y.many%64) (zcZ _ _) ?_)
 refine za (zE (some 14) ((((y.many%64:Nat):Int) !=((56:Nat):Int))) (fun hc14=> ?_) (fun hc14=> ?_))
 ·replace hc14:¬(y.many%64=56):=by have:=zbT hc14;omega
  refine zf (zb (zv (zo (zb (zr (zd (za (zS w.heap.size 0 (hB1.all) (zck _) ?_))))))))
  refine za (zab (Instr.buildSlice 23 1 #[(0,(vB 0))]) (.slice (pA w6.heap.size 0) 1 1) [(vB 0)] 5 ?_)
  intro w7 hBw7 hEw7 hzw7 hlw7
  have hSw7:Bs w6.heap.size (w6.heap.size+1) w7 (pA w6.heap.size 0) 1 1 [0]:=Bs.of_blk hBw7 (by kernel_rfl) rfl (Nat.le_refl _) (by decide) (Nat.le_refl _) (Nat.lt_succ_self _)
  refine za (zq (zhM y (l++ [128]++List.replicate z 0) _ hSw7 (hsm) (by first | omega |(simp;omega)) ((hg2.ext hEl).ext hEw7)) ?_)
  rintro _ w8 ⟨a2,rfl,hFz2_0,hEw8⟩
  have hzw8:=hEw8.size
  refine za (zG 193 w.heap.size 0 193 (vA (stC a2)) (stC y) (stC a2) ((hB1.ext hEw7).ext hEw8) (by rw [zck];kernel_rfl) (by first |(simp;done)|(simp;omega)) (ze0 _) ?_)
  intro w9 hBw9 hCw9
  have hzw9:=hCw9.size
  rw [zy _ _ (by simp)] at hBw9
  refine zf (zi (zz ?_))
  have hK5:=(((hB2.ext hEw7).ext hEw8).chg hCw9)
  have hX2:Ext w w9:=(Ext.own ((hEl.trans hEw7).trans hEw8) hCw9 (by omega))
  refine zL (z+1,a2) ?_ ?_
  ·exact ⟨by omega,by have hz:=hFz2_0;rw [List.append_assoc] at hz;rw [List.replicate_succ'];exact hz,hBw9,hK5,hX2⟩
  ·first | omega |(dsimp only;omega)
 ·replace hc14:y.many%64=56:=by have:=zbU hc14;omega
  refine zf (zb (zh (zP (zp (zp (zF (zb (ze (zaa 6 (fun w10 hEw10 hzw10 hT92=> ?_))))))))))
  refine zal hT92 0 w.heap.size 0 (fun w' hC=>(((hB1.ext hEw10).ext hC).all)) (zck _) (zg hT92 [(1,19,(vQ s.many))] 1 (zk hT92 2 (vQ (8*l.length%2^64)) (zY .u64 (IntKind.u64.wrap (((8:Nat):Int)*((s.many:Nat):Int))) (by rw [hs0];exact zci rfl (by simp))) (zx 3 (zq (zmN (8*l.length%2^64) _) ?_))))
  rintro _ w11 ⟨a3,rfl,hFz3_0,hEw11⟩
  have hzw11:=hEw11.size
  refine ⟨.inr hEw11, ?_⟩
  have hK6:=(((hg2.ext hEl).ext hEw10).ext hEw11)
  refine zx 4 (zq (zhM y (l++ [128]++List.replicate z 0) _ hFz3_0 (hsm) (by first | omega |(simp;omega)) hK6) ?_)
  rintro _ w12 ⟨a4,rfl,hFz4_0,hEw12⟩
  have hzw12:=hEw12.size
  have hX3:Ext w10 w12:=(hEw11.trans hEw12)
  refine ⟨.inr hX3, ?_⟩
  have hK7:=(((hB1.ext hEw10).ext hEw11).ext hEw12)
  refine zx 5 (zG 193 w.heap.size 0 193 (vA (stC a4)) (stC y) (stC a4) hK7 (by rw [zck];kernel_rfl) (by first |(simp;done)|(simp;omega)) (ze0 _) ?_)
  have hK8:=(((hB1.ext hEw10).ext hEw11).ext hEw12)
  intro w13 hBw13 hCw13
  have hzw13:=hCw13.size
  rw [zy _ _ (by simp)] at hBw13
  refine ⟨.inl (by kernel_rfl), ?_⟩
  refine zD (zb (ze (ze (zd (zc 1 [(23,(vP w.heap.size 1))] (za (zS w.heap.size 1 (hBw13.at 1 (w8C a4.h) (zuq _)) (zbO _) ?_)))))))
  refine zc 1 [(25,(vI 0))] (zf (zb (zr ?_)))
  obtain rfl:z=zdj l.length:=by omega
  have hfin:a4.h=zdW (zch l) ((zch l).length/64):=by exact (show Sm _ (zch l) from hFz4_0).h
  generalize hH:a4.h=H at hfin⊢
  have hK9:=((((hB2.ext hEw10).ext hEw11).ext hEw12).chg hCw13)
  have hX4:Ext w w13:=(Ext.own (((hEl.trans hEw10).trans hEw11).trans hEw12) hCw13 (by omega))
  refine zW (X:=Nat) (fun i=> [(25,(vI i))]) [4,5,26,27,28,29,30,31,32,33,34,35] (fun i w14=>i≤8∧Blk w14 w1.heap.size (u8s (dgP H i)) 59∧Ext w w14) (fun i=>8-i) 0 (by kernel_rfl) ⟨by omega,(zlM H).symm▸hK9,hX4⟩ ?_
  rintro i dw14 w14 ⟨hi,hBd,hEm⟩
  have hzm:=hEm.size
  have hld:=hBd.lt
  have hdl:=zjf H hi
  refine ze (zd (za (zE (some 26) (decide (((i:Nat):Int)<((8:Nat):Int))) (fun hc26=> ?_) (fun hc26=> ?_))))
  ·replace hc26:i<8:=by have:=zac hc26;omega
   refine zf (zb (ze (zv (zo (zb (ze (zr (ze (zd ?_)))))))))
   refine zc 1 [(27,(vI i))] (za (zaM (Instr.index 168 (vA (w8C H)) (vI i)) (vW ((H.get i).toNat)) (zhJ (E:=53) (m:=8) (by omega) (zrb (by omega))) ?_))
   refine zc 2 [(5,(vW ((H.get i).toNat))),(4,(vI i))] (zf (zb (zbI (fun k=>k=w1.heap.size) 6 (fun w15 hEw15 hzw15 hT153=> ?_))))
   have hX5:Chg (fun k=>k=w1.heap.size) w15 w15:=(Chg.refl (fun k=>k=w1.heap.size) w15)
   refine zg (hw:=hX5) hT153 [(0,29,(vI i))] 1 (zk (hw:=hX5) hT153 1 (vI (4*i)) (zY .i64 (IntKind.i64.wrap (((4:Nat):Int)*((i:Nat):Int))) (zu)) (zk (hw:=hX5) hT153 2 (.slice (pA w1.heap.size (0+(4*i)*1)) (32-(4*i)) (32-(4*i))) (zae (Instr.sliceAt 59 (vP w1.heap.size 0) (some (vI (4*i))) none none) (fun w' hC=>zjc (len:=32) (E:=5) (sz:=1) (l:=4*i) (r:=32) (m:=32) (.inr ⟨_,rfl⟩) (.inl ⟨rfl,rfl⟩) (.inl ⟨rfl,rfl⟩) (by simp) (by omega) (by omega) (by omega) (by omega))) (zg (hw:=hX5) hT153 [(3,32,(vW ((H.get i).toNat)))] 1 (zx 4 (zq (zfN ((H.get i).toNat) _ (UInt32.toNat_lt _)) ?_)))))
   rintro _ w16 ⟨a5,rfl,hFz5_0,hEw16⟩
   have hzw16:=hEw16.size
   have hX6:Chg (fun k=>k=w1.heap.size) w15 w16:=((Chg.refl (fun k=>k=w1.heap.size) w15).trans hEw16.chg)
   refine ⟨.inr hX6, ?_⟩
   refine zx 5 (zhH (a:=(pA w1.heap.size (0+(4*i)*1))) (dl:=32-(4*i)) (dc:=32-(4*i)) (some 34) 23 23 3 5 w1.heap.size (i*4) ((hBd.ext hEw15).ext hEw16) (fun _=>by rw [Nat.zero_add,Nat.mul_one,Nat.mul_comm]) (by rw [za4,hdl];omega) hFz5_0.es (fun _=>rfl) ?_)
   intro w17 hBw17 hCw17
   have hzw17:=hCw17.size
   rw [show zU (u8s (dgP H i)) (i*4) (((be ((H.get i).toNat) 4).take (min 4 (32-(4*i)))).map u8v)=u8s (dgP H (i+1)) from by rw [show min 4 (32-(4*i))=4 from by omega,List.take_of_length_le (by simp)];exact zqw (by omega)] at hBw17
   have hX7:Chg (fun k=>k=w1.heap.size) w15 w17:=(Chg.then ((Chg.refl (fun k=>k=w1.heap.size) w15).trans hEw16.chg) hCw17 (fun k hk hs=>by have h:k=_:=hs;first | exact hs | exact .inl h | exact .inr h |(exfalso;omega)))
   refine ⟨.inr hX7, ?_⟩
   refine zD (zi (zb (zd (za (zn (some 35) .i64 (IntKind.i64.wrap (((i:Nat):Int)+((1:Nat):Int))) (i+1) (zu) ?_)))))
   refine zc 1 [(25,(vI (i+1)))] (zf (zz ?_))
   have hX8:Ext w w17:=(Ext.own ((hEm.trans hEw15).trans hEw16) hCw17 (by omega))
   refine zL (i+1) ?_ ?_
   ·exact ⟨by omega,hBw17,hX8⟩
   ·first | omega |(dsimp only;omega)
  ·replace hc26:¬(i<8):=by have:=zad hc26;omega
   refine zf (zb (ze (zh (zP (zp (zp (zF (zb (ze ?_)))))))))
   refine zd ?_
   obtain rfl:i=8:=by omega
   have hBe:Blk w14 w1.heap.size (zQ (zR l)) 59:=by have hq:=hBd;rw [hfin,zmr] at hq;exact hq
   refine za (zS w1.heap.size 0 hBe.all (zaq _) ?_)
   refine za (zG 59 w1.heap.size 0 59 (vA (zQ (zR l))) (zQ (zR l)) (zQ (zR l)) hBe (by rw [zaq];kernel_rfl) (by first |(simp;done)|(simp;omega)) (zbW _) ?_)
   intro w18 hBw18 hCw18
   have hzw18:=hCw18.size
   rw [zy _ _ (by simp)] at hBw18
   exact zf (zb (zj (zaI (show zX Tryz.prog 37 _ _ (.cell 2 59) (vA (zQ (zR l))) from ⟨⟨w1.heap.size,0,none⟩,(by kernel_rfl),zI (T:=59) (vs:=zQ (zR l)) (hBw18).all (by rw [zaq];kernel_rfl)⟩) (⟨rfl,(Ext.own hEm hCw18 (by omega))⟩))))
theorem zuG {lo_ls hi_ls:Nat} {a_ls:Option Addr} {n_ls c_ls:Nat} {v_ls:List Value} {ls:List (List UInt8)} (w:World) (h_ls:Ps lo_ls hi_ls w a_ls n_ls c_ls v_ls ls) (hp0:zV ls<1099511627776) (hg1:Gl 1 (w8C zbm) w) (hg2:Gl 3 (zax kA) w):
  Calls Tryz.prog 90 #[(.slice a_ls n_ls c_ls)] w (Ret fun r w'=>r=(vA (zQ (zR ls.flatten)))∧Ext w w'):=by
 refine zC (n:=19) (σ:= [(0,(.slice a_ls n_ls c_ls))]) Tryz.func90 rfl ?_
 replace h_ls:=h_ls.now;have hle_ls:=h_ls.le
 have hgl1:=hg1.lt
 have hgl2:=hg2.lt
 refine ze (zd (za (zaf (zQ Dig.zero) 59 ?_)))
 intro w1 hBw1 hEw1 hzw1 hlw1
 refine zf (zb (ze (zd (za (zq (zu2 _ (hg1.ext hEw1)) ?_)))))
 rintro _ w2 ⟨rfl,hEw2⟩
 have hzw2:=hEw2.size
 refine zan (stC Sta.new) 193 (zck _) (ze0 _) ?_
 intro w3 hBw3 hEw3 hzw3 hlw3
 refine zf (zb (ze (ze (zd (zc 3 [(9,(vI 0)),(8,(vI n_ls)),(7,(.slice a_ls n_ls c_ls))] (zf (zb (zr (zW (X:=Nat×Sta) (fun ⟨i,y⟩=> [(9,(vI i))]) [5,10,11,12,13,14,15,16] (fun ⟨i,y⟩ w4=>i≤n_ls∧Sm y (ls.take i).flatten∧Blk w4 w2.heap.size (stC y) 193∧Blk w4 w.heap.size (zQ Dig.zero) 59∧Ext w w4) (fun ⟨i,y⟩=>n_ls-i) (0,Sta.new) (by kernel_rfl) ⟨by omega,Sm.new,hBw3,((hBw1.ext hEw2).ext hEw3),((hEw1.trans hEw2).trans hEw3)⟩ ?_)))))))))
 rintro ⟨i,y⟩ dw4 w4 ⟨hi,hsm,hB3,hB2,hEl⟩
 have hzl:=hEl.size
 have hl3:=hB3.lt;have hl2:=hB2.lt
 have hlen:=h_ls.len_eq
 have hsl:=zeF ls i
 have hsl1:=zeF ls (i+1)
 have hfl:=zd9 (ls.take i)
 refine ze (zd (za (zE (some 10) (decide (((i:Nat):Int)<((n_ls:Nat):Int))) (fun hc10=> ?_) (fun hc10=> ?_))))
 ·replace hc10:i<n_ls:=by have:=zac hc10;omega
  refine zf (zb (ze (zv (zo (zb (ze (zr (ze (zd ?_)))))))))
  obtain ⟨b1,o1,rfl⟩:=h_ls.addr (by omega)
  refine za (zai b1 o1 n_ls c_ls i 1 ?_)
  obtain ⟨a1,n1,cp1,hP1,hS1⟩:=((h_ls.ext hEl)).cell (i:=i) (by omega)
  have hlehS1:=hS1.le;have hlnhS1:=hS1.len_eq;have hsthS1:=zff (ls:=ls) (i:=i) (by omega)
  refine za (zl b1 (o1+i*1) hP1 ?_)
  refine zc 1 [(5,(.slice a1 n1 cp1))] (zf (zb (zd (za (zS w2.heap.size 0 (hB3.all) (zck _) ?_)))))
  refine zc 1 [(14,(.slice a1 n1 cp1))] (za (zq (zhM y ((ls.take i).flatten) _ hS1 (hsm) (by first | omega | decide) (hg2.ext hEl)) ?_))
  rintro _ w5 ⟨a2,rfl,hFz2_0,hEw5⟩
  have hzw5:=hEw5.size
  refine za (zG 193 w2.heap.size 0 193 (vA (stC a2)) (stC y) (stC a2) (hB3.ext hEw5) (by rw [zck];kernel_rfl) (by first |(simp;done)|(simp;omega)) (ze0 _) ?_)
  intro w6 hBw6 hCw6
  have hzw6:=hCw6.size
  rw [zy _ _ (by simp)] at hBw6
  refine zf (zi (zb (zd (za (zn (some 16) .i64 (IntKind.i64.wrap (((i:Nat):Int)+((1:Nat):Int))) (i+1) (zu) ?_)))))
  refine zc 1 [(9,(vI (i+1)))] (zf (zz (zL (i+1,a2) ?_ ?_)))
  ·exact ⟨by omega,by rw [zhc (by omega)];exact hFz2_0,hBw6,((hB2.ext hEw5).chg hCw6),(Ext.own (hEl.trans hEw5) hCw6 (by omega))⟩
  ·first | omega |(dsimp only;omega)
 ·replace hc10:¬(i<n_ls):=by have:=zad hc10;omega
  obtain rfl:i=n_ls:=by omega
  rw [List.take_of_length_le (by omega)] at hsm hfl
  refine zf (zb (ze (zh (zP (zp (zp (zF (zb (ze ?_)))))))))
  refine zd (za (zS w2.heap.size 0 (hB3.all) (zck _) ?_))
  refine za (zq (zul y ls.flatten _ (hsm) (by first | omega | decide) (hg2.ext hEl)) ?_)
  rintro _ w7 ⟨rfl,hEw7⟩
  have hzw7:=hEw7.size
  refine za (zG 59 w.heap.size 0 59 (vA (zQ (zR ls.flatten))) (zQ Dig.zero) (zQ (zR ls.flatten)) (hB2.ext hEw7) (by rw [zaq];kernel_rfl) (by first |(simp;done)|(simp;omega)) (zbW _) ?_)
  intro w8 hBw8 hCw8
  have hzw8:=hCw8.size
  rw [zy _ _ (by simp)] at hBw8
  exact zf (zb (zj (zaI (show zX Tryz.prog 19 _ _ (.cell 2 59) (vA (zQ (zR ls.flatten))) from ⟨⟨w.heap.size,0,none⟩,(by kernel_rfl),zI (T:=59) (vs:=zQ (zR ls.flatten)) (hBw8).all (by rw [zaq];kernel_rfl)⟩) (⟨rfl,(Ext.own (hEl.trans hEw7) hCw8 (by omega))⟩))))
end Go.Proofs.YtkmhgepdhilllaaGreatDoor
namespace Go.Proofs.YtkmhgepdhilllaaGreatDoor
open Go Go.RowKit Go.Cs
set_option maxRecDepth 100000
theorem zuu {lo_b hi_b:Nat} {a_b:Option Addr} {n_b c_b:Nat} {b:List UInt8} (w:World) (h_b:Bs lo_b hi_b w a_b n_b c_b b) (hp0:n_b≤1099511627776):
  Calls Tryz.prog 83 #[(.slice a_b n_b c_b)] w (Ret fun r w'=>r=(vA (zQ (zR b)))∧Ext w w'):=by
 refine zC (n:=69) (σ:= [(0,(.slice a_b n_b c_b))]) Tryz.func83 rfl ?_
 replace h_b:=h_b.now;have hle_b:=h_b.le
 refine ze (zd (za (zaf (zQ Dig.zero) 59 ?_)))
 intro w1 hBw1 hEw1 hzw1 hlw1
 refine zf (zb (ze (zd (za (zab (Instr.buildSlice 23 0 #[]) (.slice (pA w1.heap.size 0) 0 0) [] 5 ?_)))))
 intro w2 hBw2 hEw2 hzw2 hlw2
 have hSw2:Bs w1.heap.size (w1.heap.size+1) w2 (pA w1.heap.size 0) 0 0 []:=Bs.of_blk hBw2 (by kernel_rfl) rfl (Nat.le_refl _) (by decide) (Nat.le_refl _) (Nat.lt_succ_self _)
 refine zc 1 [(12,(.slice a_b n_b c_b))] ?_
 have hO1:Cs.Own u8v w1.heap.size (w1.heap.size+1) w2 (pA w1.heap.size 0) 0 0 5 ([]):=Cs.Own.of_blk hBw2 (by simp) (by first | rfl | exact rfl) hSw2.len_eq (Nat.le_refl _) (by simp only [maxLen];omega) (Nat.le_refl _) (Nat.lt_succ_self _)
 refine za (zbo (some 13) 23 23 5 1 (.int .u8 0) hO1 ((h_b.ext hEw1).ext hEw2).es (fun _=>rfl) ?_)
 intro a1 c1 w3 hOw3 hCw3
 have hzw3:=hCw3.size
 have hSw3:=hOw3.bs
 refine za (zab (Instr.buildSlice 23 1 #[(0,(vB 128))]) (.slice (pA w3.heap.size 0) 1 1) [(vB 128)] 5 ?_)
 intro w4 hBw4 hEw4 hzw4 hlw4
 have hSw4:Bs w3.heap.size (w3.heap.size+1) w4 (pA w3.heap.size 0) 1 1 [128]:=Bs.of_blk hBw4 (by kernel_rfl) rfl (Nat.le_refl _) (by decide) (Nat.le_refl _) (Nat.lt_succ_self _)
 refine za (zbo (some 15) 23 23 5 1 (.int .u8 0) (hOw3.ext hEw4) hSw4.es (fun _=>rfl) ?_)
 intro a2 c2 w5 hOw5 hCw5
 have hzw5:=hCw5.size
 have hSw5:=hOw5.bs
 refine zc 1 [(3,(.slice a2 (0+n_b+1) c2))] (zf (zb (ze (zr ?_))))
 have hK1:=((((((hBw1.ext hEw2)).chg hCw3 (fun hs=>by have hn:=hO1.ne hs;omega)).ext hEw4)).chg hCw5 (fun hs=>by have hn:=(hOw3.ext hEw4).ne hs;omega))
 have hX1:Ext w1 w5:=(Ext.ownS ((Ext.ownS hEw2 hCw3 (fun k hs hk=>by have hn:=hO1.ne hs;omega)).trans hEw4) hCw5 (fun k hs hk=>by have hn:=(hOw3.ext hEw4).ne hs;omega))
 refine zW (X:=Nat×Option Addr×Nat) (fun ⟨z,p,cp⟩=> [(3,(.slice p (0+n_b+1+z) cp))]) [16,17,18,19,20,21,22] (fun ⟨z,p,cp⟩ w6=>z≤zdj b.length∧Cs.Own u8v w1.heap.size w6.heap.size w6 p (0+n_b+1+z) cp 5 (b++ [128]++List.replicate z 0)∧Blk w6 w.heap.size (zQ Dig.zero) 59∧Ext w1 w6) (fun ⟨z,p,cp⟩=>zdj b.length-z) (0,a2,c2) (by kernel_rfl) ⟨Nat.zero_le _,by rw [List.replicate_zero,List.append_nil];exact (hOw5).mono (by omega) (Nat.le_refl _),hK1,hX1⟩ ?_
 rintro ⟨z,p,cp⟩ dw6 w6 ⟨hz,hO,hB2,hEl⟩
 have hzl:=hEl.size
 have hlen:=h_b.len_eq
 have hl2:=hB2.lt
 have hle:=hO.es.le
 have hpz:zdj b.length=(119-b.length%64)%64:=rfl
 refine ze (ze (zd (zc 2 [(17,(vI (0+n_b+1+z))),(16,(.slice p (0+n_b+1+z) cp))] (za (zn (some 18) .i64 (((0+n_b+1+z:Nat):Int).tmod ((64:Nat):Int)) ((0+n_b+1+z)%64) (zcZ _ _) ?_)))))
 refine za (zE (some 19) (((((0+n_b+1+z)%64:Nat):Int) !=((56:Nat):Int))) (fun hc19=> ?_) (fun hc19=> ?_))
 ·replace hc19:¬((0+n_b+1+z)%64=56):=by have:=zbT hc19;omega
  refine zf (zb (zv (zo (zb (zr (zd (zc 1 [(20,(.slice p (0+n_b+1+z) cp))] (za (zab (Instr.buildSlice 23 1 #[(0,(vB 0))]) (.slice (pA w6.heap.size 0) 1 1) [(vB 0)] 5 ?_)))))))))
  intro w7 hBw7 hEw7 hzw7 hlw7
  have hSw7:Bs w6.heap.size (w6.heap.size+1) w7 (pA w6.heap.size 0) 1 1 [0]:=Bs.of_blk hBw7 (by kernel_rfl) rfl (Nat.le_refl _) (by decide) (Nat.le_refl _) (Nat.lt_succ_self _)
  refine za (zbo (some 22) 23 23 5 1 (.int .u8 0) (hO.ext hEw7) hSw7.es (fun _=>rfl) ?_)
  intro a3 c3 w8 hOw8 hCw8
  have hzw8:=hCw8.size
  have hSw8:=hOw8.bs
  refine zc 1 [(3,(.slice a3 (0+n_b+1+z+1) c3))] (zf (zi (zz (zL (z+1,a3,c3) ?_ ?_))))
  ·exact ⟨by omega,by have hz:=hOw8;rw [List.append_assoc] at hz;rw [List.replicate_succ'];exact hz,(((hB2.ext hEw7)).chg hCw8 (fun hs=>by have hn:=(hO.ext hEw7).ne hs;omega)),(Ext.ownS (hEl.trans hEw7) hCw8 (fun k hs hk=>by have hn:=(hO.ext hEw7).ne hs;omega))⟩
  ·first | omega |(dsimp only;omega)
 ·replace hc19:(0+n_b+1+z)%64=56:=by have:=zbU hc19;omega
  refine zf (zb (zh (zP (zp (zp (zF (zb (ze (zd ?_)))))))))
  refine zc 3 [(25,(vI n_b)),(24,(.slice a_b n_b c_b)),(23,(.slice p (0+n_b+1+z) cp))] (za (zn (some 26) .u64 (IntKind.u64.wrap ((n_b:Nat):Int)) n_b (zbA rfl rfl (by show _<2^64;omega)) ?_))
  refine za (zn (some 27) .u64 (IntKind.u64.wrap (((8:Nat):Int)*((n_b:Nat):Int))) ((8*n_b)%2^64) (zci rfl (by simp)) ?_)
  refine za (zq (zlL ((8*n_b)%2^64) _ (Nat.mod_lt _ (by decide))) ?_)
  rintro _ w9 ⟨a4,rfl,hFz1_0,hFz1_1,hFz1_2,hFz1_3,hEw9⟩
  have hzw9:=hEw9.size
  have hla4:=hFz1_1.lt;have hna4:=hFz1_3
  have hSa4:Bs a4 (a4+1) w9 (pA a4 0) 8 8 (be ((8*n_b)%2^64) 8):=Bs.of_blk hFz1_1 rfl hFz1_2 (Nat.le_refl _) (zcw hna4) (Nat.le_refl _) (Nat.lt_succ_self _)
  refine za (zbo (some 29) 23 23 5 1 (.int .u8 0) (hO.ext hEw9) hSa4.es (fun _=>rfl) ?_)
  intro a5 c4 w10 hOw10 hCw10
  have hzw10:=hCw10.size
  have hSw10:=hOw10.bs
  refine zc 1 [(3,(.slice a5 (0+n_b+1+z+8) c4))] (zf (zb (ze (zd (za (zq (zkP _) ?_))))))
  rintro _ w11 ⟨rfl,hEw11⟩
  have hzw11:=hEw11.size
  refine zc 3 [(33,(vA (w8C zbm))),(32,(vA (zax kA))),(30,(.tuple #[(vA (zax kA)),(vA (w8C zbm))]))] (za (zaf (zax (WA.zero 64)) 167 ?_))
  intro w12 hBw12 hEw12 hzw12 hlw12
  refine za (zaf (w8C (WA.zero 8)) 168 ?_)
  intro w13 hBw13 hEw13 hzw13 hlw13
  refine za (zG 167 w11.heap.size 0 167 (vA (zax kA)) (zax (WA.zero 64)) (zax kA) (hBw12.ext hEw13) (by rw [zdv];kernel_rfl) (by first |(simp;done)|(simp;omega)) (zf9 _) ?_)
  intro w14 hBw14 hCw14
  have hzw14:=hCw14.size
  rw [zy _ _ (by simp)] at hBw14
  refine za (zG 168 w12.heap.size 0 168 (vA (w8C zbm)) (w8C (WA.zero 8)) (w8C zbm) (hBw13.chg hCw14) (by rw [zbO];kernel_rfl) (by first |(simp;done)|(simp;omega)) (zdL _) ?_)
  intro w15 hBw15 hCw15
  have hzw15:=hCw15.size
  rw [zy _ _ (by simp)] at hBw15
  refine zf (zb (ze (ze (zd (zc 1 [(6,(vI 0))] (zf (zb (zr ?_))))))))
  obtain rfl:z=zdj b.length:=by omega
  have hK2:=(((((hSw10.ext hEw11).ext hEw12).ext hEw13).chg hCw14).chg hCw15)
  have hSp:Bs w1.heap.size w10.heap.size w15 a5 (0+n_b+1+(zdj b.length)+8) c4 (zch b):=by have hq:=hK2;rw [zs7 hlen rfl] at hq;exact hq
  have hpl:(zch b).length=0+n_b+1+(zdj b.length)+8:=hSp.len_eq.symm
  have hp64:=zqu b
  have hK3:=((((((((hB2.ext hEw9)).chg hCw10 (fun hs=>by have hn:=(hO.ext hEw9).ne hs;omega)).ext hEw11).ext hEw12).ext hEw13).chg hCw14).chg hCw15)
  have hX2:Ext w1 w15:=(Ext.own (Ext.own ((((Ext.ownS (hEl.trans hEw9) hCw10 (fun k hs hk=>by have hn:=(hO.ext hEw9).ne hs;omega)).trans hEw11).trans hEw12).trans hEw13) hCw14 (by omega)) hCw15 (by omega))
  refine zW (X:=Nat) (fun k=> [(6,(vI (64*k)))]) [34,35,36,37,38,39,40,41,42,43,44,45,46] (fun k w16=>k≤(zch b).length/64∧Bs w1.heap.size w10.heap.size w16 a5 (0+n_b+1+(zdj b.length)+8) c4 (zch b)∧Blk w16 w12.heap.size (w8C (zdW (zch b) k)) 168∧Blk w16 w.heap.size (zQ Dig.zero) 59∧Ext w1 w16) (fun k=>(zch b).length/64-k) 0 (by kernel_rfl) ⟨Nat.zero_le _,hSp,hBw15,hK3,hX2⟩ ?_
  rintro k dw16 w16 ⟨hk,hSk,hB5,hB2b,hEm⟩
  have hzm:=hEm.size
  have hl5:=hB5.lt;have hl2b:=hB2b.lt
  have hlk:=hSk.le
  refine ze (ze (zd (zc 3 [(36,(vI (0+n_b+1+(zdj b.length)+8))),(35,(.slice a5 (0+n_b+1+(zdj b.length)+8) c4)),(34,(vI (64*k)))] (za (zE (some 37) (decide (((64*k:Nat):Int)<((0+n_b+1+(zdj b.length)+8:Nat):Int))) (fun hc37=> ?_) (fun hc37=> ?_))))))
  ·replace hc37:64*k<0+n_b+1+(zdj b.length)+8:=by have:=zac hc37;omega
   refine zf (zb (zv (zo (zb (ze (zr (zaa 8 (fun w17 hEw17 hzw17 hT149=> ?_))))))))
   refine zal hT149 0 w12.heap.size 0 (fun w' hC=>(((hB5.ext hEw17).ext hC).all)) (zbO _) (zg hT149 [(1,41,(.slice a5 (0+n_b+1+(zdj b.length)+8) c4)),(2,42,(vI (64*k))),(3,43,(vI (64*k)))] 3 (zk hT149 4 (vI (64*k+64)) (zY .i64 (IntKind.i64.wrap (((64*k:Nat):Int)+((64:Nat):Int))) (zu)) ?_))
   obtain ⟨a6,hR1,hS1⟩:=(hSk.ext hEw17).slice Tryz.prog 23 5 (64*k) (64*k+64) c4 (some (vI (64*k))) (some (vI (64*k+64))) none
   refine zk hT149 5 (.slice a6 (64*k+64-(64*k)) (c4-(64*k))) (zae (Instr.sliceAt 23 (.slice a5 (0+n_b+1+(zdj b.length)+8) c4) (some (vI (64*k))) (some (vI (64*k+64))) none) (fun w' hC=>hR1 _)) (zx 6 (zq (zsX (zdW (zch b) k) _ hS1 (by first | omega | decide)) ?_))
   rintro _ w18 ⟨rfl,hEw18⟩
   have hzw18:=hEw18.size
   refine ⟨.inr hEw18, ?_⟩
   refine zx 7 (zG 168 w12.heap.size 0 168 (vA (w8C (zeU (zdW (zch b) k) (((zch b).drop (64*k)).take (64*k+64-(64*k)))))) (w8C (zdW (zch b) k)) (w8C (zeU (zdW (zch b) k) (((zch b).drop (64*k)).take (64*k+64-(64*k))))) ((hB5.ext hEw17).ext hEw18) (by rw [zbO];kernel_rfl) (by first |(simp;done)|(simp;omega)) (zdL _) ?_)
   intro w19 hBw19 hCw19
   have hzw19:=hCw19.size
   rw [zy _ _ (by simp)] at hBw19
   refine ⟨.inl (by kernel_rfl), ?_⟩
   refine zD (zi (zb (zd (zc 1 [(38,(vI (64*k)))] (za (zn (some 39) .i64 (IntKind.i64.wrap (((64*k:Nat):Int)+((64:Nat):Int))) (64*k+64) (zu) ?_))))))
   refine zc 1 [(6,(vI (64*k+64)))] (zf (zz ?_))
   have hK4:=(((hSk.ext hEw17).ext hEw18).chg hCw19)
   have hK5:=(((hB2b.ext hEw17).ext hEw18).chg hCw19)
   have hX3:Ext w1 w19:=(Ext.own ((hEm.trans hEw17).trans hEw18) hCw19 (by omega))
   refine zL (k+1) ?_ ?_
   ·exact ⟨by omega,hK4,by have hz:=hBw19;rw [show 64*k+64-(64*k)=64 from by omega] at hz;exact hz,hK5,hX3⟩
   ·first | omega |(dsimp only;omega)
  ·replace hc37:¬(64*k<0+n_b+1+(zdj b.length)+8):=by have:=zad hc37;omega
   refine zf (zb (zh (zP (zp (zp (zF (zb (ze (zd ?_)))))))))
   refine za (zaf (zQ Dig.zero) 59 ?_)
   intro w20 hBw20 hEw20 hzw20 hlw20
   refine zf (zb (ze (ze (zd (zc 1 [(8,(vI 0))] (zf (zb (zr ?_))))))))
   obtain rfl:k=(zch b).length/64:=by omega
   obtain ⟨H,hH⟩:∃H,H=zdW (zch b) ((zch b).length/64):=⟨_,rfl⟩
   have hBH:Blk w20 w12.heap.size (w8C H) 168:=by rw [hH];exact (hB5.ext hEw20)
   refine zW (X:=Nat) (fun i=> [(8,(vI i))]) [9,10,47,48,49,50,51,52,53,54,55,56,57,58,59,60,61,62,63,64,65,66,67] (fun i w21=>i≤8∧Blk w21 w12.heap.size (w8C H) 168∧Blk w21 w16.heap.size (u8s (dgP H i)) 59∧Blk w21 w.heap.size (zQ Dig.zero) 59∧Ext w1 w21) (fun i=>8-i) 0 (by kernel_rfl) ⟨by omega,hBH,(zlM H).symm▸hBw20,(hB2b.ext hEw20),(hEm.trans hEw20)⟩ ?_
   rintro i dw21 w21 ⟨hi,hBh,hBd,hB2c,hEn⟩
   have hzn:=hEn.size
   have hlh:=hBh.lt;have hld:=hBd.lt;have hl2c:=hB2c.lt
   have hdl:=zjf H hi
   refine ze (ze (zd (zc 1 [(47,(vI i))] (za (zE (some 48) (decide (((i:Nat):Int)<((8:Nat):Int))) (fun hc48=> ?_) (fun hc48=> ?_))))))
   ·replace hc48:i<8:=by have:=zac hc48;omega
    refine zf (zb (zv (zo (zb (ze (zr (ze (zd (zc 1 [(51,(vI i))] ?_)))))))))
    refine za (zbk w12.heap.size 0 i 8 1 ?_)
    refine za (zl w12.heap.size (0+i*1) (hBh.cell (zaR i (by omega))) ?_)
    refine za (zq (zkU ((H.get i).toNat) _ (UInt32.toNat_lt _)) ?_)
    rintro _ w22 ⟨a7,rfl,hFz4_0,hFz4_1,hFz4_2,hFz4_3,hEw22⟩
    have hzw22:=hEw22.size
    have hla7:=hFz4_1.lt;have hna7:=hFz4_3
    have hSa7:Bs a7 (a7+1) w22 (pA a7 0) 4 4 (be ((H.get i).toNat) 4):=Bs.of_blk hFz4_1 rfl hFz4_2 (Nat.le_refl _) (zcw hna7) (Nat.le_refl _) (Nat.lt_succ_self _)
    refine zc 1 [(9,(.slice (pA a7 0) 4 4))] (zf (zb (ze (zd (zc 1 [(10,(vI 0))] (zf (zb (zr (zW (X:=Nat) (fun j=> [(10,(vI j))]) [55,56,57,58,59,60,61,62,63,64,65,66,67] (fun j w23=>j≤4∧Blk w23 w16.heap.size (u8s (dgQ H i j)) 59∧Chg (fun q=>q=w16.heap.size) w22 w23) (fun j=>4-j) 0 (by kernel_rfl) ⟨by omega,by rw [zp3];exact (hBd.ext hEw22),Chg.refl _ _⟩ ?_)))))))))
    rintro j dw23 w23 ⟨hj,hBq,hCj⟩
    have hzj:=hCj.size
    refine ze (ze (zd (zc 1 [(55,(vI j))] (za (zE (some 56) (decide (((j:Nat):Int)<((4:Nat):Int))) (fun hc56=> ?_) (fun hc56=> ?_))))))
    ·replace hc56:j<4:=by have:=zac hc56;omega
     refine zf (zb (zv (zo (zb (ze (zr (zd (zc 1 [(59,(vI i))] (za (zn (some 60) .i64 (IntKind.i64.wrap (((4:Nat):Int)*((i:Nat):Int))) (4*i) (zu) ?_))))))))))
     refine zc 1 [(61,(vI j))] (za (zn (some 62) .i64 (IntKind.i64.wrap (((4*i:Nat):Int)+((j:Nat):Int))) (4*i+j) (zu) ?_))
     refine zc 2 [(64,(vI j)),(63,(.slice (pA a7 0) 4 4))] (za (zai a7 0 4 4 j 1 ?_))
     refine za (zl a7 (0+j*1) ((hSa7.chg hCj).cell1 (by omega)) ?_)
     refine za (zbk w16.heap.size 0 (4*i+j) 32 1 ?_)
     refine za (zak 5 w16.heap.size (0+(4*i+j)*1) 59 (vB (byt (be ((H.get i).toNat) 4) j)) (u8s (dgQ H i j)) hBq (by rw [za4,zsh H (by omega) (by omega)];omega) ?_)
     intro w24 hBw24 hCw24
     have hzw24:=hCw24.size
     rw [show ((u8s (dgQ H i j)).set (0+(4*i+j)*1) (vB (byt (be ((H.get i).toNat) 4) j)):List Value)=u8s (dgQ H i (j+1)) from zsQ (by omega) (by omega)] at hBw24
     refine zf (zi (zb (zd (zc 1 [(57,(vI j))] (za (zn (some 58) .i64 (IntKind.i64.wrap (((j:Nat):Int)+((1:Nat):Int))) (j+1) (zu) ?_))))))
     refine zc 1 [(10,(vI (j+1)))] (zf (zz (zL (j+1) ?_ ?_)))
     ·exact ⟨by omega,hBw24,(Chg.then (Chg.then (Chg.refl (fun q=>q=w16.heap.size) w22) hCj (fun k hk hs=>by have h:k=_:=hs;first | exact hs | exact .inl h | exact .inr h |(exfalso;omega))) hCw24 (fun k hk hs=>by have h:k=_:=hs;first | exact hs | exact .inl h | exact .inr h |(exfalso;omega)))⟩
     ·first | omega |(dsimp only;omega)
    ·replace hc56:¬(j<4):=by have:=zad hc56;omega
     refine zf (zb (zh (zP (zp (zp (zF (zi (zb (zd ?_)))))))))
     refine zc 1 [(49,(vI i))] (za (zn (some 50) .i64 (IntKind.i64.wrap (((i:Nat):Int)+((1:Nat):Int))) (i+1) (zu) ?_))
     refine zc 1 [(8,(vI (i+1)))] (zf (zz (zL (i+1) ?_ ?_)))
     ·exact ⟨by omega,((hBh.ext hEw22).chg hCj),by have hz:=hBq;rw [show j=4 from by omega,zqW] at hz;exact hz,((hB2c.ext hEw22).chg hCj),(Ext.own (hEn.trans hEw22) hCj (by omega))⟩
     ·first | omega |(dsimp only;omega)
   ·replace hc48:¬(i<8):=by have:=zad hc48;omega
    refine zf (zb (zh (zP (zp (zp (zF (zb (ze (zd ?_)))))))))
    obtain rfl:i=8:=by omega
    have hBe:Blk w21 w16.heap.size (zQ (zR b)) 59:=by have hq:=hBd;rw [hH,zmr] at hq;exact hq
    refine za (zS w16.heap.size 0 hBe.all (zaq _) ?_)
    refine za (zG 59 w.heap.size 0 59 (vA (zQ (zR b))) (zQ Dig.zero) (zQ (zR b)) hB2c (by rw [zaq];kernel_rfl) (by first |(simp;done)|(simp;omega)) (zbW _) ?_)
    intro w25 hBw25 hCw25
    have hzw25:=hCw25.size
    rw [zy _ _ (by simp)] at hBw25
    exact zf (zb (zj (zaI (show zX Tryz.prog 69 _ _ (.cell 2 59) (vA (zQ (zR b))) from ⟨⟨w.heap.size,0,none⟩,(by kernel_rfl),zI (T:=59) (vs:=zQ (zR b)) (hBw25).all (by rw [zaq];kernel_rfl)⟩) (⟨rfl,(Ext.own (hEw1.trans hEn) hCw25 (by omega))⟩))))
end Go.Proofs.YtkmhgepdhilllaaGreatDoor
namespace Go.Proofs.YtkmhgepdhilllaaGreatDoor
open Go Go.RowKit Go.Cs
set_option maxRecDepth 100000
theorem zfj (x:Nod) (w:World) (hp0:zaz x=0) (hg0:Gl 0 [vI 45,vI 33] w) (hg1:Gl 1 (w8C zbm) w) (hg2:Gl 3 (zax kA) w):
  Calls Tryz.prog 66 #[(vA (zJ x))] w (Ret fun r w'=>r=(.tuple #[(vA (zQ (zR (zN x)))),(vI 0)])∧Ext w w'):=by
 refine zC (n:=18) (σ:= [(0,(vA (zJ x)))]) Tryz.func66 rfl ?_
 have hgl0:=hg0.lt
 have hgl1:=hg1.lt
 have hgl2:=hg2.lt
 refine ze (zd (za (zab (Instr.box 74 (vA (zJ x))) (vP w.heap.size 0) (zJ x) 74 ?_)))
 intro w1 hBw1 hEw1 hzw1 hlw1
 refine za (zaf (zQ Dig.zero) 59 ?_)
 intro w2 hBw2 hEw2 hzw2 hlw2
 refine zc 1 [(3,(vI 0))] (zf (zb (ze (zd (za (zS w.heap.size 0 ((hBw1.ext hEw2).all) (zO _) ?_))))))
 refine za (zq (zuv x _ (by assumption) ((hg0.ext hEw1).ext hEw2)) ?_)
 rintro _ w3 ⟨a1,rfl,hFz1_0,hFz1_1,hFz1_2,hFz1_3,hEw3⟩
 have hzw3:=hEw3.size
 have hla1:=hFz1_1.lt;have hna1:=hFz1_3
 have hSa1:Bs a1 (a1+1) w3 (pA a1 0) (zb4 x) (zb4 x) (zN x):=Bs.of_blk hFz1_1 rfl hFz1_2 (Nat.le_refl _) (zcw hna1) (Nat.le_refl _) (Nat.lt_succ_self _)
 refine zc 5 [(5,(vI 0)),(4,(.slice (pA a1 0) (zb4 x) (zb4 x))),(10,(vI 0)),(9,(.slice (pA a1 0) (zb4 x) (zb4 x))),(6,(.tuple #[(.slice (pA a1 0) (zb4 x) (zb4 x)),(vI 0)]))] (zf (zb (ze (ze (zd (zc 1 [(11,(vI 0))] (za (zah (some 12) (((0:Nat):Int) !=((0:Nat):Int)) false (zaE) ?_))))))))
 refine zf (zb (zh (zo (zb (ze (zd (zc 1 [(15,(.slice (pA a1 0) (zb4 x) (zb4 x)))] (za (zab (Instr.buildSlice 190 1 #[(0,(.slice (pA a1 0) (zb4 x) (zb4 x)))]) (.slice (pA w3.heap.size 0) 1 1) [(.slice (pA a1 0) (zb4 x) (zb4 x))] 23 ?_)))))))))
 intro w4 hBw4 hEw4 hzw4 hlw4
 have hSw4:Ps 0 w4.heap.size w4 (pA w3.heap.size 0) 1 1 [(.slice (pA a1 0) (zb4 x) (zb4 x))] [zN x]:=Ps.of_new hBw4 rfl (by decide) (za7.cons (zc1.at (hSa1.ext hEw4)) za7.nil)
 have hK1:=((((hg1.ext hEw1).ext hEw2).ext hEw3).ext hEw4)
 have hK2:=((((hg2.ext hEw1).ext hEw2).ext hEw3).ext hEw4)
 refine za (zq (zuG _ hSw4 (by simp [zV,zuf];unfold zb4;split<;>decide) hK1 hK2) ?_)
 rintro _ w5 ⟨rfl,hEw5⟩
 have hzw5:=hEw5.size
 rw [show zR ([zN x]).flatten=zR (zN x) from by simp]
 have hK3:=(((hBw2.ext hEw3).ext hEw4).ext hEw5)
 refine za (zG 59 w1.heap.size 0 59 (vA (zQ (zR (zN x)))) (zQ Dig.zero) (zQ (zR (zN x))) hK3 (by rw [zaq];kernel_rfl) (by first |(simp;done)|(simp;omega)) (zbW _) ?_)
 have hK4:=(((hBw2.ext hEw3).ext hEw4).ext hEw5)
 intro w6 hBw6 hCw6
 have hzw6:=hCw6.size
 rw [zy _ _ (by simp)] at hBw6
 refine zc 1 [(3,(vI 0))] (zf (zb (zj (za6 (show zX Tryz.prog 18 _ _ (.cell 2 59) (vA (zQ (zR (zN x)))) from ⟨⟨w1.heap.size,0,none⟩,(by kernel_rfl),zI (T:=59) (vs:=zQ (zR (zN x))) (hBw6).all (by rw [zaq];kernel_rfl)⟩) (show zX Tryz.prog 18 _ _ (.tmp 3) (vI 0) by (show _=_;kernel_rfl)) ?_))))
 have hX1:Ext w w6:=(Ext.own ((((hEw1.trans hEw2).trans hEw3).trans hEw4).trans hEw5) hCw6 (by omega))
 exact ⟨rfl,hX1⟩
theorem zfA (x:Nod) (w:World):
  Calls Tryz.prog 56 #[(vA (zJ x))] w (Ret fun r w'=>r=(vA (zQ (zR (zN x))))∧Ext w w'):=by
 refine zC (n:=6) (σ:= [(0,(vA (zJ x)))]) Tryz.func56 rfl ?_
 refine ze (zd (za (zab (Instr.box 74 (vA (zJ x))) (vP w.heap.size 0) (zJ x) 74 ?_)))
 intro w1 hBw1 hEw1 hzw1 hlw1
 refine za (zaf (zQ Dig.zero) 59 ?_)
 intro w2 hBw2 hEw2 hzw2 hlw2
 refine zf (zb (ze (zd (za (zS w.heap.size 0 ((hBw1.ext hEw2).all) (zO _) ?_)))))
 refine za (zq (zpX x _) ?_)
 rintro _ w3 ⟨a1,ca1,rfl,hFz1_0,hEw3⟩
 have hzw3:=hEw3.size
 have hlea1:=hFz1_0.le
 have hba1:=hFz1_0.bs
 refine za (zq (zuu _ hba1 (by unfold zb4;split<;>decide)) ?_)
 rintro _ w4 ⟨rfl,hEw4⟩
 have hzw4:=hEw4.size
 refine za (zG 59 w1.heap.size 0 59 (vA (zQ (zR (zN x)))) (zQ Dig.zero) (zQ (zR (zN x))) ((hBw2.ext hEw3).ext hEw4) (by rw [zaq];kernel_rfl) (by first |(simp;done)|(simp;omega)) (zbW _) ?_)
 intro w5 hBw5 hCw5
 have hzw5:=hCw5.size
 rw [zy _ _ (by simp)] at hBw5
 refine zf (zb (zj (zaI (show zX Tryz.prog 6 _ _ (.cell 2 59) (vA (zQ (zR (zN x)))) from ⟨⟨w1.heap.size,0,none⟩,(by kernel_rfl),zI (T:=59) (vs:=zQ (zR (zN x))) (hBw5).all (by rw [zaq];kernel_rfl)⟩) ?_)))
 have hX1:Ext w w5:=(Ext.own (((hEw1.trans hEw2).trans hEw3).trans hEw4) hCw5 (by omega))
 exact ⟨rfl,hX1⟩
end Go.Proofs.YtkmhgepdhilllaaGreatDoor
