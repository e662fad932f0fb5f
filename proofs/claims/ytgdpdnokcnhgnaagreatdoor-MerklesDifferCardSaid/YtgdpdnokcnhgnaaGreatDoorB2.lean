/- Lemmas and walks: what each function does, by its own code. No condition beyond those of each statement. -/
import Derived.Test.YtgdpdnokcnhgnaaGreatDoorB1
set_option linter.all false
set_option linter.unusedVariables false
namespace Go.Proofs.YtgdpdnokcnhgnaaGreatDoor
open Go Go.RowKit Go.Cs
set_option maxRecDepth 100000
theorem zpe (h:(WA 8)) (b:B64) (w:World) (hg2:Gl 3 (zR kA) w):
  Calls Tryz.prog 118 #[(vA (w8C h)),(vA (zcf b))] w (Ret fun r w'=>r=(vA (w8C (zdN h b.l)))∧Ext w w'):=by
 refine zL (n:=112) (σ:= [(0,(vA (w8C h))),(1,(vA (zcf b)))]) Tryz.func118 rfl ?_
 have hgl2:=hg2.lt
 refine zf (ze (zb (zt (some 2) (Instr.box 150 (vA (w8C h))) (vP w.heap.size 0) (w8C h) 150 ?_)))
 intro w1 hBw1 hEw1
 have hzw1:=hEw1.size;have hlw1:=hBw1.lt
 refine zb (zt (some 3) (Instr.box 184 (vA (zcf b))) (vP w1.heap.size 0) (zcf b) 184 ?_)
 intro w2 hBw2 hEw2
 have hzw2:=hEw2.size;have hlw2:=hBw2.lt
 refine zb (zt (some 4) (Instr.alloc 150 true (.tuple #[])) (vP w2.heap.size 0) (w8C (WA.zero 8)) 150 ?_)
 intro w3 hBw3 hEw3
 have hzw3:=hEw3.size;have hlw3:=hBw3.lt
 refine zg (zc (zf (ze (zb (zj (some 14) (Instr.loadAt 184 (vP w1.heap.size 0)) (vA (zcf b)) (zD (vs:=zcf b) ((hBw2.ext hEw3).all) (by rw [zjr];kernel_rfl)) ?_)))))
 refine zb (zi (some 15) (zo9 b _) ?_)
 rintro _ w4 ⟨rfl,hEw4⟩
 have hzw4:=hEw4.size
 refine zb (zt (some 5) (Instr.alloc 149 true (.tuple #[])) (vP w4.heap.size 0) (zR (WA.zero 64)) 149 ?_)
 intro w5 hBw5 hEw5
 have hzw5:=hEw5.size;have hlw5:=hBw5.lt
 refine zb (zz 149 w4.heap.size 0 149 (vA (zR (za b.l 64))) (zR (WA.zero 64)) (zR (za b.l 64)) hBw5 (by rw [zcL];kernel_rfl) (by first |(simp;done)|(simp;omega)) (zeQ _) ?_)
 intro w6 hBw6 hCw6
 have hzw6:=hCw6.size
 rw [zm _ _ (by simp)] at hBw6
 refine zg (zc (zf (ze ?_)))
 have hK1:=(((((((((hBw1.ext hEw2)).ext hEw3)).ext hEw4)).ext hEw5)).chg hCw6 (fun hs=>by have h:_=_:=hs;omega))
 refine zb (zj (some 16) (Instr.loadAt 150 (vP w.heap.size 0)) (vA (w8C h)) (zD (vs:=w8C h) (hK1.all) (by rw [za8];kernel_rfl)) ?_)
 refine zb (zt (some 6) (Instr.alloc 150 true (.tuple #[])) (vP w6.heap.size 0) (w8C (WA.zero 8)) 150 ?_)
 intro w7 hBw7 hEw7
 have hzw7:=hEw7.size;have hlw7:=hBw7.lt
 refine zb (zz 150 w6.heap.size 0 150 (vA (w8C h)) (w8C (WA.zero 8)) (w8C h) hBw7 (by rw [za8];kernel_rfl) (by first |(simp;done)|(simp;omega)) (zcV _) ?_)
 intro w8 hBw8 hCw8
 have hzw8:=hCw8.size
 rw [zm _ _ (by simp)] at hBw8
 refine zg (zc (zf (zf (ze ?_))))
 have hK2:=(((((((((((((((hg2.ext hEw1)).ext hEw2)).ext hEw3)).ext hEw4)).ext hEw5)).chg hCw6 (fun hs=>by have h:_=_:=hs;omega))).ext hEw7)).chg hCw8 (fun hs=>by have h:_=_:=hs;omega))
 refine zb (zj (some 17) (Instr.loadAt 149 (vP 3 0)) (vA (zR kA)) (zD (vs:=zR kA) (hK2.all) (by rw [zcL];kernel_rfl)) ?_)
 refine zd 1 [(18,(vI 0))] (zg (zc (zI ?_)))
 have hK3:=(((((((((hBw3.ext hEw4)).ext hEw5)).chg hCw6 (fun hs=>by have h:_=_:=hs;omega))).ext hEw7)).chg hCw8 (fun hs=>by have h:_=_:=hs;omega))
 have hX1:Ext w w8:=(Ext.own ((Ext.own ((((hEw1.trans hEw2).trans hEw3).trans hEw4).trans hEw5) hCw6 (by omega)).trans hEw7) hCw8 (by omega))
 refine zah (X:=Nat×WA 8) (fun ⟨t,x⟩=> [(18,(vI t))]) [7,8,9,10,11,12,19,20,21,22,23,24,25,26,27,28,29,30,31,32,33,34,35,36,37,38,39,40,41,42,43,44,45,46,47,48,49,50,51,52,53,54,55,56,57,58,59,60,61,62,63,64,65,66,67,68,69,70,71,72,73,74,75,76,77,78,79,80,81,82,83,84,85,86,87,88,89,90,91,92,93,94,95,96,97,98] (fun ⟨t,x⟩ w9=>t≤64∧x=zdQ h (za b.l 64) t∧Blk w9 w.heap.size (w8C h) 150∧Blk w9 w4.heap.size (zR (za b.l 64)) 149∧Blk w9 w6.heap.size (w8C x) 150∧Blk w9 w2.heap.size (w8C (WA.zero 8)) 150∧Ext w w9) (fun ⟨t,x⟩=>64-t) (0,h) (by kernel_rfl) ⟨by omega,rfl,(((hK1.ext hEw7)).chg hCw8 (fun hs=>by have h:_=_:=hs;omega)),(((hBw6.ext hEw7)).chg hCw8 (fun hs=>by have h:_=_:=hs;omega)),hBw8,hK3,hX1⟩ ?_
 rintro ⟨t,x⟩ dw9 w9 ⟨ht,hx,hA,hB,hD,hZ4,hEl⟩
 have hzl:=hEl.size
 have hlthA:=hA.lt
 have hlthB:=hB.lt
 have hlthD:=hD.lt
 have hlthZ4:=hZ4.lt
 refine zf (ze (zb (zO (some 19) (decide (((t:Nat):Int)<((64:Nat):Int))) (fun hc19=> ?_) (fun hc19=> ?_))))
 ·replace hc19:t<64:=by have:=zak hc19;omega
  refine zg (zc (zf (zF (zy (zc (zf (zI (zf (ze ?_)))))))))
  refine zd 1 [(20,(vI t))] (zb (zj (some 21) (Instr.index 149 (vA (zR kA)) (vI t)) (vW ((kA.get t).toNat)) (zii (E:=28) (m:=64) (by omega) (znh (by omega))) ?_))
  refine zd 2 [(8,(vW ((kA.get t).toNat))),(7,(vI t))] (zg (zc (zf (zag (Ext w9.drew) 6 [(23,64,0),(24,4194304,1),(25,64,0),(26,16777216,4),(10,8388608,3),(11,33554432,31)] (fun hT83=> ?_)))))
  have hEw10:Ext w9 w9.drew:=Ext.drew w9
  generalize w9.drew=w10 at hEw10⊢
  have hzw10:=hEw10.size
  refine zh hT83 0 1 (some 22) (vP w6.heap.size 0) (zl (Instr.indexAt 150 (vP w6.heap.size 0) (vI 0)) (fun w' hC=>zX (E:=28) (sz:=1) (m:=8) (by omega))) (zh hT83 1 3 (some 23) (vW ((x.get 0).toNat)) (zl (Instr.loadAt 28 (vP w6.heap.size 0)) (fun w' hC=>zo (((hD.ext hEw10).ext hC).cell (zaA 0 (by omega))))) (zh hT83 2 7 (some 24) (vP w6.heap.size 4) (zl (Instr.indexAt 150 (vP w6.heap.size 0) (vI 4)) (fun w' hC=>zX (E:=28) (sz:=1) (m:=8) (by omega))) (zh hT83 3 15 (some 25) (vW ((x.get 4).toNat)) (zl (Instr.loadAt 28 (vP w6.heap.size 4)) (fun w' hC=>zo (((hD.ext hEw10).ext hC).cell (zaA 4 (by omega))))) (zk hT83 [(4,9,(vW ((x.get 0).toNat))),(5,10,(vW ((x.get 4).toNat)))] 2 63 (zJ (zc (zf (zag (Ext w10.drew) 29 [(27,64,0),(28,67108864,1),(29,1024,0),(30,268435456,4),(31,1024,0),(32,1073741824,24),(33,2684354560,40),(34,1024,0),(35,8589934592,160),(36,21474836480,320),(37,34493956096,514),(38,1024,0),(39,64,0),(40,274877906944,4096),(41,687194767360,10240),(42,1024,0),(43,2199023255552,32768),(44,64,0),(45,8796093022208,131072),(46,21990232555520,327680),(47,36283883716608,540672),(48,70437463654400,1049600),(49,256,0),(50,422212465065984,6291456),(51,128,0),(52,1125899906842656,16777216),(53,2251799813685248,33554432),(54,5066549580791808,75497472),(12,9007199254740992,268435455)] (fun hT95=> ?_)))))))))
  have hEw11:Ext w10 w10.drew:=Ext.drew w10
  generalize w10.drew=w11 at hEw11⊢
  have hzw11:=hEw11.size
  refine zh hT95 0 1 (some 26) (vP w6.heap.size 7) (zl (Instr.indexAt 150 (vP w6.heap.size 0) (vI 7)) (fun w' hC=>zX (E:=28) (sz:=1) (m:=8) (by omega))) (zh hT95 1 3 (some 27) (vW ((x.get 7).toNat)) (zl (Instr.loadAt 28 (vP w6.heap.size 7)) (fun w' hC=>zo (((((hD.ext hEw10)).ext hEw11).ext hC).cell (zaA 7 (by omega))))) (zk hT95 [(2,28,(vW ((x.get 4).toNat)))] 1 7 (zh hT95 3 15 (some 29) (vW ((rr (x.get 4) 6).toNat)) (zd1 (f:=123) (args:= #[(vW ((x.get 4).toNat)),(vI 6)]) (fun w' hC=>zcT (x.get 4) 6 _ (by decide) (by decide))) (zk hT95 [(4,30,(vW ((x.get 4).toNat)))] 1 31 (zh hT95 5 63 (some 31) (vW ((rr (x.get 4) 11).toNat)) (zd1 (f:=123) (args:= #[(vW ((x.get 4).toNat)),(vI 11)]) (fun w' hC=>zcT (x.get 4) 11 _ (by decide) (by decide))) (zh hT95 6 127 (some 32) (vW (((rr (x.get 4) 6)^^^(rr (x.get 4) 11)).toNat)) (zq .u32 _ (zZ (rr (x.get 4) 6) (rr (x.get 4) 11))) (zk hT95 [(7,33,(vW ((x.get 4).toNat)))] 1 255 (zh hT95 8 511 (some 34) (vW ((rr (x.get 4) 25).toNat)) (zd1 (f:=123) (args:= #[(vW ((x.get 4).toNat)),(vI 25)]) (fun w' hC=>zcT (x.get 4) 25 _ (by decide) (by decide))) (zh hT95 9 1023 (some 35) (vW ((((rr (x.get 4) 6)^^^(rr (x.get 4) 11))^^^(rr (x.get 4) 25)).toNat)) (zq .u32 _ (zZ ((rr (x.get 4) 6)^^^(rr (x.get 4) 11)) (rr (x.get 4) 25))) ?_)))))))))
  refine zh hT95 10 2047 (some 36) (vW (((x.get 7)+(((rr (x.get 4) 6)^^^(rr (x.get 4) 11))^^^(rr (x.get 4) 25))).toNat)) (zq .u32 _ (zQ (x.get 7) (((rr (x.get 4) 6)^^^(rr (x.get 4) 11))^^^(rr (x.get 4) 25)))) (zk hT95 [(11,37,(vW ((x.get 4).toNat)))] 1 4095 (zh hT95 12 8191 (some 38) (vP w6.heap.size 5) (zl (Instr.indexAt 150 (vP w6.heap.size 0) (vI 5)) (fun w' hC=>zX (E:=28) (sz:=1) (m:=8) (by omega))) (zh hT95 13 16383 (some 39) (vW ((x.get 5).toNat)) (zl (Instr.loadAt 28 (vP w6.heap.size 5)) (fun w' hC=>zo (((((hD.ext hEw10)).ext hEw11).ext hC).cell (zaA 5 (by omega))))) (zh hT95 14 32767 (some 40) (vW (((x.get 4)&&&(x.get 5)).toNat)) (zq .u32 _ (zdk (x.get 4) (x.get 5))) (zk hT95 [(15,41,(vW ((x.get 4).toNat)))] 1 65535 (zh hT95 16 131071 (some 42) (vW ((~~~(x.get 4)).toNat)) (zq .u32 _ (zl2 (x.get 4))) (zh hT95 17 262143 (some 43) (vP w6.heap.size 6) (zl (Instr.indexAt 150 (vP w6.heap.size 0) (vI 6)) (fun w' hC=>zX (E:=28) (sz:=1) (m:=8) (by omega))) (zh hT95 18 524287 (some 44) (vW ((x.get 6).toNat)) (zl (Instr.loadAt 28 (vP w6.heap.size 6)) (fun w' hC=>zo (((((hD.ext hEw10)).ext hEw11).ext hC).cell (zaA 6 (by omega))))) (zh hT95 19 1048575 (some 45) (vW (((~~~(x.get 4))&&&(x.get 6)).toNat)) (zq .u32 _ (zdk (~~~(x.get 4)) (x.get 6))) ?_)))))))))
  refine zh hT95 20 2097151 (some 46) (vW ((((x.get 4)&&&(x.get 5))^^^((~~~(x.get 4))&&&(x.get 6))).toNat)) (zq .u32 _ (zZ ((x.get 4)&&&(x.get 5)) ((~~~(x.get 4))&&&(x.get 6)))) (zh hT95 21 4194303 (some 47) (vW ((((x.get 7)+(((rr (x.get 4) 6)^^^(rr (x.get 4) 11))^^^(rr (x.get 4) 25)))+(((x.get 4)&&&(x.get 5))^^^((~~~(x.get 4))&&&(x.get 6)))).toNat)) (zq .u32 _ (zQ ((x.get 7)+(((rr (x.get 4) 6)^^^(rr (x.get 4) 11))^^^(rr (x.get 4) 25))) (((x.get 4)&&&(x.get 5))^^^((~~~(x.get 4))&&&(x.get 6))))) (zk hT95 [(22,48,(vW ((kA.get t).toNat)))] 1 8388607 (zh hT95 23 16777215 (some 49) (vW (((((x.get 7)+(((rr (x.get 4) 6)^^^(rr (x.get 4) 11))^^^(rr (x.get 4) 25)))+(((x.get 4)&&&(x.get 5))^^^((~~~(x.get 4))&&&(x.get 6))))+(kA.get t)).toNat)) (zq .u32 _ (zQ (((x.get 7)+(((rr (x.get 4) 6)^^^(rr (x.get 4) 11))^^^(rr (x.get 4) 25)))+(((x.get 4)&&&(x.get 5))^^^((~~~(x.get 4))&&&(x.get 6)))) (kA.get t))) (zk hT95 [(24,50,(vI t))] 1 33554431 (zh hT95 25 67108863 (some 51) (vP w4.heap.size (0+t*1)) (zl (Instr.indexAt 149 (vP w4.heap.size 0) (vI t)) (fun w' hC=>zX (E:=28) (sz:=1) (m:=64) (by omega))) (zh hT95 26 134217727 (some 52) (vW (((za b.l 64).get t).toNat)) (zl (Instr.loadAt 28 (vP w4.heap.size (0+t*1))) (fun w' hC=>zo (((((hB.ext hEw10)).ext hEw11).ext hC).cell (zaj t (by omega))))) ?_))))))
  refine zh hT95 27 268435455 (some 53) (vW ((((((x.get 7)+(((rr (x.get 4) 6)^^^(rr (x.get 4) 11))^^^(rr (x.get 4) 25)))+(((x.get 4)&&&(x.get 5))^^^((~~~(x.get 4))&&&(x.get 6))))+(kA.get t))+((za b.l 64).get t)).toNat)) (zq .u32 _ (zQ ((((x.get 7)+(((rr (x.get 4) 6)^^^(rr (x.get 4) 11))^^^(rr (x.get 4) 25)))+(((x.get 4)&&&(x.get 5))^^^((~~~(x.get 4))&&&(x.get 6))))+(kA.get t)) ((za b.l 64).get t))) (zk hT95 [(28,11,(vW ((((((x.get 7)+(((rr (x.get 4) 6)^^^(rr (x.get 4) 11))^^^(rr (x.get 4) 25)))+(((x.get 4)&&&(x.get 5))^^^((~~~(x.get 4))&&&(x.get 6))))+(kA.get t))+((za b.l 64).get t)).toNat)))] 1 536870911 (zJ (zc (zf (zag (Ext w11.drew) 25 [(55,512,0),(56,18014398509481984,1),(57,512,0),(58,72057594037927936,6),(59,180143985094819840,10),(60,512,0),(61,576460752303423488,40),(62,1441151880758558720,80),(63,512,0),(64,64,0),(65,9223372036854775808,512),(66,23058430092136939520,1280),(67,512,0),(68,64,0),(69,147573952589676412928,8192),(70,368934881474191032320,20480),(71,627189298506124754944,34816),(72,64,0),(73,2361183241434822606848,131072),(74,64,0),(75,9444732965739290427392,524288),(76,23611832414348226068480,1310720),(77,38959523483674573012992,2162688),(78,75560169568923537113088,4194432),(13,151115727451828646838272,16777215)] (fun hT131=> ?_))))))
  have hEw12:Ext w11 w11.drew:=Ext.drew w11
  generalize w11.drew=w12 at hEw12⊢
  have hzw12:=hEw12.size
  refine zk hT131 [(0,54,(vW ((x.get 0).toNat)))] 1 1 (zh hT131 1 3 (some 55) (vW ((rr (x.get 0) 2).toNat)) (zd1 (f:=123) (args:= #[(vW ((x.get 0).toNat)),(vI 2)]) (fun w' hC=>zcT (x.get 0) 2 _ (by decide) (by decide))) (zk hT131 [(2,56,(vW ((x.get 0).toNat)))] 1 7 (zh hT131 3 15 (some 57) (vW ((rr (x.get 0) 13).toNat)) (zd1 (f:=123) (args:= #[(vW ((x.get 0).toNat)),(vI 13)]) (fun w' hC=>zcT (x.get 0) 13 _ (by decide) (by decide))) (zh hT131 4 31 (some 58) (vW (((rr (x.get 0) 2)^^^(rr (x.get 0) 13)).toNat)) (zq .u32 _ (zZ (rr (x.get 0) 2) (rr (x.get 0) 13))) (zk hT131 [(5,59,(vW ((x.get 0).toNat)))] 1 63 (zh hT131 6 127 (some 60) (vW ((rr (x.get 0) 22).toNat)) (zd1 (f:=123) (args:= #[(vW ((x.get 0).toNat)),(vI 22)]) (fun w' hC=>zcT (x.get 0) 22 _ (by decide) (by decide))) (zh hT131 7 255 (some 61) (vW ((((rr (x.get 0) 2)^^^(rr (x.get 0) 13))^^^(rr (x.get 0) 22)).toNat)) (zq .u32 _ (zZ ((rr (x.get 0) 2)^^^(rr (x.get 0) 13)) (rr (x.get 0) 22))) (zk hT131 [(8,62,(vW ((x.get 0).toNat)))] 1 511 (zh hT131 9 1023 (some 63) (vP w6.heap.size 1) (zl (Instr.indexAt 150 (vP w6.heap.size 0) (vI 1)) (fun w' hC=>zX (E:=28) (sz:=1) (m:=8) (by omega))) ?_)))))))))
  have hK4:=(((((hD.ext hEw10)).ext hEw11)).ext hEw12)
  refine zh hT131 10 2047 (some 64) (vW ((x.get 1).toNat)) (zl (Instr.loadAt 28 (vP w6.heap.size 1)) (fun w' hC=>zo ((hK4.ext hC).cell (zaA 1 (by omega))))) (zh hT131 11 4095 (some 65) (vW (((x.get 0)&&&(x.get 1)).toNat)) (zq .u32 _ (zdk (x.get 0) (x.get 1))) (zk hT131 [(12,66,(vW ((x.get 0).toNat)))] 1 8191 (zh hT131 13 16383 (some 67) (vP w6.heap.size 2) (zl (Instr.indexAt 150 (vP w6.heap.size 0) (vI 2)) (fun w' hC=>zX (E:=28) (sz:=1) (m:=8) (by omega))) (zh hT131 14 32767 (some 68) (vW ((x.get 2).toNat)) (zl (Instr.loadAt 28 (vP w6.heap.size 2)) (fun w' hC=>zo ((hK4.ext hC).cell (zaA 2 (by omega))))) (zh hT131 15 65535 (some 69) (vW (((x.get 0)&&&(x.get 2)).toNat)) (zq .u32 _ (zdk (x.get 0) (x.get 2))) (zh hT131 16 131071 (some 70) (vW ((((x.get 0)&&&(x.get 1))^^^((x.get 0)&&&(x.get 2))).toNat)) (zq .u32 _ (zZ ((x.get 0)&&&(x.get 1)) ((x.get 0)&&&(x.get 2)))) (zh hT131 17 262143 (some 71) (vP w6.heap.size 1) (zl (Instr.indexAt 150 (vP w6.heap.size 0) (vI 1)) (fun w' hC=>zX (E:=28) (sz:=1) (m:=8) (by omega))) (zh hT131 18 524287 (some 72) (vW ((x.get 1).toNat)) (zl (Instr.loadAt 28 (vP w6.heap.size 1)) (fun w' hC=>zo ((hK4.ext hC).cell (zaA 1 (by omega))))) (zh hT131 19 1048575 (some 73) (vP w6.heap.size 2) (zl (Instr.indexAt 150 (vP w6.heap.size 0) (vI 2)) (fun w' hC=>zX (E:=28) (sz:=1) (m:=8) (by omega))) ?_)))))))))
  refine zh hT131 20 2097151 (some 74) (vW ((x.get 2).toNat)) (zl (Instr.loadAt 28 (vP w6.heap.size 2)) (fun w' hC=>zo ((hK4.ext hC).cell (zaA 2 (by omega))))) (zh hT131 21 4194303 (some 75) (vW (((x.get 1)&&&(x.get 2)).toNat)) (zq .u32 _ (zdk (x.get 1) (x.get 2))) (zh hT131 22 8388607 (some 76) (vW (((((x.get 0)&&&(x.get 1))^^^((x.get 0)&&&(x.get 2)))^^^((x.get 1)&&&(x.get 2))).toNat)) (zq .u32 _ (zZ (((x.get 0)&&&(x.get 1))^^^((x.get 0)&&&(x.get 2))) ((x.get 1)&&&(x.get 2)))) (zh hT131 23 16777215 (some 77) (vW (((((rr (x.get 0) 2)^^^(rr (x.get 0) 13))^^^(rr (x.get 0) 22))+((((x.get 0)&&&(x.get 1))^^^((x.get 0)&&&(x.get 2)))^^^((x.get 1)&&&(x.get 2)))).toNat)) (zq .u32 _ (zQ (((rr (x.get 0) 2)^^^(rr (x.get 0) 13))^^^(rr (x.get 0) 22)) ((((x.get 0)&&&(x.get 1))^^^((x.get 0)&&&(x.get 2)))^^^((x.get 1)&&&(x.get 2))))) (zk hT131 [(24,12,(vW (((((rr (x.get 0) 2)^^^(rr (x.get 0) 13))^^^(rr (x.get 0) 22))+((((x.get 0)&&&(x.get 1))^^^((x.get 0)&&&(x.get 2)))^^^((x.get 1)&&&(x.get 2)))).toNat)))] 1 33554431 (zJ (zc (ze (zd 2 [(79,(vW (((((rr (x.get 0) 2)^^^(rr (x.get 0) 13))^^^(rr (x.get 0) 22))+((((x.get 0)&&&(x.get 1))^^^((x.get 0)&&&(x.get 2)))^^^((x.get 1)&&&(x.get 2)))).toNat))),(78,(vW ((((((x.get 7)+(((rr (x.get 4) 6)^^^(rr (x.get 4) 11))^^^(rr (x.get 4) 25)))+(((x.get 4)&&&(x.get 5))^^^((~~~(x.get 4))&&&(x.get 6))))+(kA.get t))+((za b.l 64).get t)).toNat)))] ?_))))))))
  refine zb (zv (some 80) .u32 (IntKind.u32.wrap ((((((((x.get 7)+(((rr (x.get 4) 6)^^^(rr (x.get 4) 11))^^^(rr (x.get 4) 25)))+(((x.get 4)&&&(x.get 5))^^^((~~~(x.get 4))&&&(x.get 6))))+(kA.get t))+((za b.l 64).get t)).toNat:Nat):Int)+((((((rr (x.get 0) 2)^^^(rr (x.get 0) 13))^^^(rr (x.get 0) 22))+((((x.get 0)&&&(x.get 1))^^^((x.get 0)&&&(x.get 2)))^^^((x.get 1)&&&(x.get 2)))).toNat:Nat):Int))) (((((((x.get 7)+(((rr (x.get 4) 6)^^^(rr (x.get 4) 11))^^^(rr (x.get 4) 25)))+(((x.get 4)&&&(x.get 5))^^^((~~~(x.get 4))&&&(x.get 6))))+(kA.get t))+((za b.l 64).get t))+((((rr (x.get 0) 2)^^^(rr (x.get 0) 13))^^^(rr (x.get 0) 22))+((((x.get 0)&&&(x.get 1))^^^((x.get 0)&&&(x.get 2)))^^^((x.get 1)&&&(x.get 2))))).toNat) (zQ (((((x.get 7)+(((rr (x.get 4) 6)^^^(rr (x.get 4) 11))^^^(rr (x.get 4) 25)))+(((x.get 4)&&&(x.get 5))^^^((~~~(x.get 4))&&&(x.get 6))))+(kA.get t))+((za b.l 64).get t)) ((((rr (x.get 0) 2)^^^(rr (x.get 0) 13))^^^(rr (x.get 0) 22))+((((x.get 0)&&&(x.get 1))^^^((x.get 0)&&&(x.get 2)))^^^((x.get 1)&&&(x.get 2))))) ?_)
  refine zb (zj (some 81) (Instr.indexAt 150 (vP w6.heap.size 0) (vI 0)) (vP w6.heap.size 0) (zX (E:=28) (sz:=1) (m:=8) (by omega)) ?_)
  refine zb (zj (some 82) (Instr.loadAt 28 (vP w6.heap.size 0)) (vW ((x.get 0).toNat)) (zo (hK4.cell (zaA 0 (by omega)))) ?_)
  refine zb (zj (some 83) (Instr.indexAt 150 (vP w6.heap.size 0) (vI 1)) (vP w6.heap.size 1) (zX (E:=28) (sz:=1) (m:=8) (by omega)) ?_)
  refine zb (zj (some 84) (Instr.loadAt 28 (vP w6.heap.size 1)) (vW ((x.get 1).toNat)) (zo (hK4.cell (zaA 1 (by omega)))) ?_)
  refine zb (zj (some 85) (Instr.indexAt 150 (vP w6.heap.size 0) (vI 2)) (vP w6.heap.size 2) (zX (E:=28) (sz:=1) (m:=8) (by omega)) ?_)
  refine zb (zj (some 86) (Instr.loadAt 28 (vP w6.heap.size 2)) (vW ((x.get 2).toNat)) (zo (hK4.cell (zaA 2 (by omega)))) ?_)
  refine zb (zj (some 87) (Instr.indexAt 150 (vP w6.heap.size 0) (vI 3)) (vP w6.heap.size 3) (zX (E:=28) (sz:=1) (m:=8) (by omega)) ?_)
  refine zb (zj (some 88) (Instr.loadAt 28 (vP w6.heap.size 3)) (vW ((x.get 3).toNat)) (zo (hK4.cell (zaA 3 (by omega)))) ?_)
  refine zd 1 [(89,(vW ((((((x.get 7)+(((rr (x.get 4) 6)^^^(rr (x.get 4) 11))^^^(rr (x.get 4) 25)))+(((x.get 4)&&&(x.get 5))^^^((~~~(x.get 4))&&&(x.get 6))))+(kA.get t))+((za b.l 64).get t)).toNat)))] (zb (zv (some 90) .u32 (IntKind.u32.wrap ((((x.get 3).toNat:Nat):Int)+(((((((x.get 7)+(((rr (x.get 4) 6)^^^(rr (x.get 4) 11))^^^(rr (x.get 4) 25)))+(((x.get 4)&&&(x.get 5))^^^((~~~(x.get 4))&&&(x.get 6))))+(kA.get t))+((za b.l 64).get t)).toNat:Nat):Int))) (((x.get 3)+(((((x.get 7)+(((rr (x.get 4) 6)^^^(rr (x.get 4) 11))^^^(rr (x.get 4) 25)))+(((x.get 4)&&&(x.get 5))^^^((~~~(x.get 4))&&&(x.get 6))))+(kA.get t))+((za b.l 64).get t))).toNat) (zQ (x.get 3) (((((x.get 7)+(((rr (x.get 4) 6)^^^(rr (x.get 4) 11))^^^(rr (x.get 4) 25)))+(((x.get 4)&&&(x.get 5))^^^((~~~(x.get 4))&&&(x.get 6))))+(kA.get t))+((za b.l 64).get t))) ?_))
  refine zb (zj (some 91) (Instr.indexAt 150 (vP w6.heap.size 0) (vI 4)) (vP w6.heap.size 4) (zX (E:=28) (sz:=1) (m:=8) (by omega)) ?_)
  refine zb (zj (some 92) (Instr.loadAt 28 (vP w6.heap.size 4)) (vW ((x.get 4).toNat)) (zo (hK4.cell (zaA 4 (by omega)))) ?_)
  refine zb (zj (some 93) (Instr.indexAt 150 (vP w6.heap.size 0) (vI 5)) (vP w6.heap.size 5) (zX (E:=28) (sz:=1) (m:=8) (by omega)) ?_)
  refine zb (zj (some 94) (Instr.loadAt 28 (vP w6.heap.size 5)) (vW ((x.get 5).toNat)) (zo (hK4.cell (zaA 5 (by omega)))) ?_)
  refine zb (zj (some 95) (Instr.indexAt 150 (vP w6.heap.size 0) (vI 6)) (vP w6.heap.size 6) (zX (E:=28) (sz:=1) (m:=8) (by omega)) ?_)
  refine zb (zj (some 96) (Instr.loadAt 28 (vP w6.heap.size 6)) (vW ((x.get 6).toNat)) (zo (hK4.cell (zaA 6 (by omega)))) ?_)
  refine zd 1 [(97,(vA (w8C ⟨[((((((x.get 7)+(((rr (x.get 4) 6)^^^(rr (x.get 4) 11))^^^(rr (x.get 4) 25)))+(((x.get 4)&&&(x.get 5))^^^((~~~(x.get 4))&&&(x.get 6))))+(kA.get t))+((za b.l 64).get t))+((((rr (x.get 0) 2)^^^(rr (x.get 0) 13))^^^(rr (x.get 0) 22))+((((x.get 0)&&&(x.get 1))^^^((x.get 0)&&&(x.get 2)))^^^((x.get 1)&&&(x.get 2))))),(x.get 0),(x.get 1),(x.get 2),((x.get 3)+(((((x.get 7)+(((rr (x.get 4) 6)^^^(rr (x.get 4) 11))^^^(rr (x.get 4) 25)))+(((x.get 4)&&&(x.get 5))^^^((~~~(x.get 4))&&&(x.get 6))))+(kA.get t))+((za b.l 64).get t))),(x.get 4),(x.get 5),(x.get 6)],rfl⟩)))] ?_
  refine zb (zz 150 w6.heap.size 0 150 (vA (w8C ⟨[((((((x.get 7)+(((rr (x.get 4) 6)^^^(rr (x.get 4) 11))^^^(rr (x.get 4) 25)))+(((x.get 4)&&&(x.get 5))^^^((~~~(x.get 4))&&&(x.get 6))))+(kA.get t))+((za b.l 64).get t))+((((rr (x.get 0) 2)^^^(rr (x.get 0) 13))^^^(rr (x.get 0) 22))+((((x.get 0)&&&(x.get 1))^^^((x.get 0)&&&(x.get 2)))^^^((x.get 1)&&&(x.get 2))))),(x.get 0),(x.get 1),(x.get 2),((x.get 3)+(((((x.get 7)+(((rr (x.get 4) 6)^^^(rr (x.get 4) 11))^^^(rr (x.get 4) 25)))+(((x.get 4)&&&(x.get 5))^^^((~~~(x.get 4))&&&(x.get 6))))+(kA.get t))+((za b.l 64).get t))),(x.get 4),(x.get 5),(x.get 6)],rfl⟩)) (w8C x) (w8C ⟨[((((((x.get 7)+(((rr (x.get 4) 6)^^^(rr (x.get 4) 11))^^^(rr (x.get 4) 25)))+(((x.get 4)&&&(x.get 5))^^^((~~~(x.get 4))&&&(x.get 6))))+(kA.get t))+((za b.l 64).get t))+((((rr (x.get 0) 2)^^^(rr (x.get 0) 13))^^^(rr (x.get 0) 22))+((((x.get 0)&&&(x.get 1))^^^((x.get 0)&&&(x.get 2)))^^^((x.get 1)&&&(x.get 2))))),(x.get 0),(x.get 1),(x.get 2),((x.get 3)+(((((x.get 7)+(((rr (x.get 4) 6)^^^(rr (x.get 4) 11))^^^(rr (x.get 4) 25)))+(((x.get 4)&&&(x.get 5))^^^((~~~(x.get 4))&&&(x.get 6))))+(kA.get t))+((za b.l 64).get t))),(x.get 4),(x.get 5),(x.get 6)],rfl⟩) hK4 (by rw [za8];kernel_rfl) (by first |(simp;done)|(simp;omega)) (zcV _) ?_)
  intro w13 hBw13 hCw13
  have hzw13:=hCw13.size
  rw [show (zad (w8C x) 0 (w8C ⟨[((((((x.get 7)+(((rr (x.get 4) 6)^^^(rr (x.get 4) 11))^^^(rr (x.get 4) 25)))+(((x.get 4)&&&(x.get 5))^^^((~~~(x.get 4))&&&(x.get 6))))+(kA.get t))+((za b.l 64).get t))+((((rr (x.get 0) 2)^^^(rr (x.get 0) 13))^^^(rr (x.get 0) 22))+((((x.get 0)&&&(x.get 1))^^^((x.get 0)&&&(x.get 2)))^^^((x.get 1)&&&(x.get 2))))),(x.get 0),(x.get 1),(x.get 2),((x.get 3)+(((((x.get 7)+(((rr (x.get 4) 6)^^^(rr (x.get 4) 11))^^^(rr (x.get 4) 25)))+(((x.get 4)&&&(x.get 5))^^^((~~~(x.get 4))&&&(x.get 6))))+(kA.get t))+((za b.l 64).get t))),(x.get 4),(x.get 5),(x.get 6)],rfl⟩):List Value)=w8C (rnd x (kA.get t) ((za b.l 64).get t)) from (zm _ _ (by simp)).trans rfl] at hBw13
  refine zg (zp (zc (ze (zb (zv (some 98) .i64 (IntKind.i64.wrap (((t:Nat):Int)+((1:Nat):Int))) (t+1) (zG (by omega) (by omega) (by omega)) ?_)))))
  refine zd 1 [(18,(vI (t+1)))] (zg (zC ?_))
  have hK5:=(((((((hA.ext hEw10)).ext hEw11)).ext hEw12)).chg hCw13 (fun hs=>by have h:_=_:=hs;omega))
  have hK6:=(((((((hB.ext hEw10)).ext hEw11)).ext hEw12)).chg hCw13 (fun hs=>by have h:_=_:=hs;omega))
  have hK7:=(((((((hZ4.ext hEw10)).ext hEw11)).ext hEw12)).chg hCw13 (fun hs=>by have h:_=_:=hs;omega))
  have hX2:Ext w w13:=(Ext.own (((hEl.trans hEw10).trans hEw11).trans hEw12) hCw13 (by omega))
  refine zS (t+1,rnd x (kA.get t) ((za b.l 64).get t)) ?_ ?_
  ·exact ⟨by omega,by rw [zdQ,←hx],hK5,hK6,hBw13,hK7,hX2⟩
  ·first | omega |(dsimp only;omega)
 ·replace hc19:¬(t<64):=by have:=zal hc19;omega
  refine zg (zc (zf (zr (zaf (zH (zH (zT (zc (zf ?_)))))))))
  refine zf (ze (zd 1 [(99,(vI 0))] (zg (zc (zI ?_)))))
  obtain rfl:t=64:=by omega
  refine zah (X:=Nat) (fun i=> [(99,(vI i))]) [13,100,101,102,103,104,105,106,107,108,109,110] (fun i w14=>i≤8∧Blk w14 w.heap.size (w8C (zb6 h x i)) 150∧Blk w14 w6.heap.size (w8C x) 150∧Blk w14 w2.heap.size (w8C (WA.zero 8)) 150∧Ext w w14) (fun i=>8-i) 0 (by kernel_rfl) ⟨by omega,(zmo h x).symm▸hA,hD,hZ4,hEl⟩ ?_
  rintro i dw14 w14 ⟨hi,hA2,hD2,hZ42,hEm⟩
  have hzm:=hEm.size
  have hlthA2:=hA2.lt
  have hlthD2:=hD2.lt
  have hlthZ42:=hZ42.lt
  refine zf (ze (zb (zO (some 100) (decide (((i:Nat):Int)<((8:Nat):Int))) (fun hc100=> ?_) (fun hc100=> ?_))))
  ·replace hc100:i<8:=by have:=zak hc100;omega
   refine zg (zc (zf (zF (zy (zc (zf (zI (zf (ze ?_)))))))))
   refine zd 2 [(13,(vI i)),(101,(vI i))] (zg (zc (zag (Ext w14.drew) 9 [(103,8192,0),(104,5070602400912917605986812821508,1),(105,10141204801825835211973625643008,2),(106,8192,0),(107,40564819207303340847894502572096,8),(108,81129638414606681695789005144064,16),(109,182541686432865033815525261574144,36),(110,5070602400912917605986812821508,127),(0,973555660975280180349468061728768,255)] (fun hT243=> ?_))))
   have hEw15:Ext w14 w14.drew:=Ext.drew w14
   generalize w14.drew=w15 at hEw15⊢
   have hzw15:=hEw15.size
   refine zk hT243 [(0,102,(vI i))] 1 1 (zh hT243 1 3 (some 103) (vP w.heap.size (0+i*1)) (zl (Instr.indexAt 150 (vP w.heap.size 0) (vI i)) (fun w' hC=>zX (E:=28) (sz:=1) (m:=8) (by omega))) (zh hT243 2 7 (some 104) (vW (((zb6 h x i).get i).toNat)) (zl (Instr.loadAt 28 (vP w.heap.size (0+i*1))) (fun w' hC=>zo (((hA2.ext hEw15).ext hC).cell (zaA i (by omega))))) (zk hT243 [(3,105,(vI i))] 1 15 (zh hT243 4 31 (some 106) (vP w6.heap.size (0+i*1)) (zl (Instr.indexAt 150 (vP w6.heap.size 0) (vI i)) (fun w' hC=>zX (E:=28) (sz:=1) (m:=8) (by omega))) (zh hT243 5 63 (some 107) (vW ((x.get i).toNat)) (zl (Instr.loadAt 28 (vP w6.heap.size (0+i*1))) (fun w' hC=>zo (((hD2.ext hEw15).ext hC).cell (zaA i (by omega))))) (zh hT243 6 127 (some 108) (vW ((((zb6 h x i).get i)+(x.get i)).toNat)) (zq .u32 _ (zQ ((zb6 h x i).get i) (x.get i))) (zh hT243 7 255 (some 109) (vP w.heap.size (0+i*1)) (zl (Instr.indexAt 150 (vP w.heap.size 0) (vI i)) (fun w' hC=>zX (E:=28) (sz:=1) (m:=8) (by omega))) (zn 8 511 (zV 28 w.heap.size (0+i*1) 150 (vW ((((zb6 h x i).get i)+(x.get i)).toNat)) (w8C (zb6 h x i)) (hA2.ext hEw15) (by first | decide |(simp;done)|(simp;omega)) ?_)))))))))
   intro w16 hBw16 hCw16
   have hzw16:=hCw16.size
   rw [show ((w8C (zb6 h x i)).set (0+i*1) (vW ((((zb6 h x i).get i)+(x.get i)).toNat)):List Value)=w8C ((zb6 h x i).set i (((zb6 h x i).get i)+(x.get i))) from zrq i (((zb6 h x i).get i)+(x.get i))] at hBw16
   refine ⟨.inl (by kernel_rfl), ?_⟩
   refine zJ (zp (zc (ze (zb (zv (some 110) .i64 (IntKind.i64.wrap (((i:Nat):Int)+((1:Nat):Int))) (i+1) (zG (by omega) (by omega) (by omega)) ?_)))))
   refine zd 1 [(99,(vI (i+1)))] (zg (zC (zS (i+1) ?_ ?_)))
   ·exact ⟨by omega,zmC (h:=h) (x:=x) (i:=i) (by omega)▸hBw16,(((hD2.ext hEw15)).chg hCw16 (fun hs=>by have h:_=_:=hs;omega)),(((hZ42.ext hEw15)).chg hCw16 (fun hs=>by have h:_=_:=hs;omega)),(Ext.own (hEm.trans hEw15) hCw16 (by omega))⟩
   ·first | omega |(dsimp only;omega)
  ·replace hc100:¬(i<8):=by have:=zal hc100;omega
   refine zg (zc (zf (zr (zaf (zH (zH (zT (zc (zf ?_)))))))))
   refine ze (zb (zj (some 111) (Instr.loadAt 150 (vP w.heap.size 0)) (vA (w8C (zb6 h x i))) (zD (vs:=w8C (zb6 h x i)) (hA2.all) (by rw [za8];kernel_rfl)) ?_))
   refine zb (zz 150 w2.heap.size 0 150 (vA (w8C (zb6 h x i))) (w8C (WA.zero 8)) (w8C (zb6 h x i)) hZ42 (by rw [za8];kernel_rfl) (by first |(simp;done)|(simp;omega)) (zcV _) ?_)
   intro w17 hBw17 hCw17
   have hzw17:=hCw17.size
   rw [zm _ _ (by simp)] at hBw17
   refine zg (zc (zx (zbp (show zab Tryz.prog 112 _ _ (.cell 4 150) (vA (w8C (zb6 h x i))) from ⟨⟨w2.heap.size,0,none⟩,(by kernel_rfl),zP (T:=150) (vs:=w8C (zb6 h x i)) (hBw17).all (by rw [za8];kernel_rfl)⟩) ?_)))
   obtain rfl:i=8:=by omega
   exact ⟨by rw [hx];rfl,(Ext.own hEm hCw17 (by omega))⟩
end Go.Proofs.YtgdpdnokcnhgnaaGreatDoor
namespace Go.Proofs.YtgdpdnokcnhgnaaGreatDoor
open Go Go.RowKit Go.Cs
set_option maxRecDepth 100000
theorem zi4 (w:World):
  Calls Tryz.prog 76 #[] w (Ret fun r w'=>r=(.tuple #[(vA (zR kA)),(vA (w8C za2))])∧Ext w w'):=by
 refine zL (n:=4) (σ:= []) Tryz.func76 rfl ?_
 refine zf (ze (zb (zt (some 0) (Instr.alloc 149 true (.tuple #[])) (vP w.heap.size 0) (zR (WA.zero 64)) 149 ?_)))
 intro w1 hBw1 hEw1
 have hzw1:=hEw1.size;have hlw1:=hBw1.lt
 refine zb (zt (some 1) (Instr.alloc 150 true (.tuple #[])) (vP w1.heap.size 0) (w8C (WA.zero 8)) 150 ?_)
 intro w2 hBw2 hEw2
 have hzw2:=hEw2.size;have hlw2:=hBw2.lt
 refine zg (zc (zf (ze (zd 2 [(3,(vA (w8C za2))),(2,(vA (zR kA)))] (zb (zz 149 w.heap.size 0 149 (vA (zR kA)) (zR (WA.zero 64)) (zR kA) (hBw1.ext hEw2) (by rw [zcL];kernel_rfl) (by first |(simp;done)|(simp;omega)) (zeQ _) ?_))))))
 intro w3 hBw3 hCw3
 have hzw3:=hCw3.size
 rw [zm _ _ (by simp)] at hBw3
 refine zb (zz 150 w1.heap.size 0 150 (vA (w8C za2)) (w8C (WA.zero 8)) (w8C za2) ((hBw2).chg hCw3 (fun hs=>by have h:_=_:=hs;omega)) (by rw [za8];kernel_rfl) (by first |(simp;done)|(simp;omega)) (zcV _) ?_)
 intro w4 hBw4 hCw4
 have hzw4:=hCw4.size
 rw [zm _ _ (by simp)] at hBw4
 refine zg (zc (zx (zas (show zab Tryz.prog 4 _ _ (.cell 0 149) (vA (zR kA)) from ⟨⟨w.heap.size,0,none⟩,(by kernel_rfl),zP (T:=149) (vs:=zR kA) (((hBw3).chg hCw4 (fun hs=>by have h:_=_:=hs;omega))).all (by rw [zcL];kernel_rfl)⟩) (show zab Tryz.prog 4 _ _ (.cell 1 150) (vA (w8C za2)) from ⟨⟨w1.heap.size,0,none⟩,(by kernel_rfl),zP (T:=150) (vs:=w8C za2) (hBw4).all (by rw [za8];kernel_rfl)⟩) ?_)))
 have hX1:Ext w w4:=(Ext.own (Ext.own (hEw1.trans hEw2) hCw3 (by omega)) hCw4 (by omega))
 exact ⟨rfl,hX1⟩
theorem zpl (h:(WA 8)) {lo_b hi_b:Nat} {a_b:Option Addr} {n_b c_b:Nat} {b:List UInt8} (w:World) (h_b:Bs lo_b hi_b w a_b n_b c_b b) (hp0:n_b=64):
  Calls Tryz.prog 77 #[(vA (w8C h)),(.slice a_b n_b c_b)] w (Ret fun r w'=>r=(vA (w8C (zdN h b)))∧Ext w w'):=by
 refine zL (n:=202) (σ:= [(0,(vA (w8C h))),(1,(.slice a_b n_b c_b))]) Tryz.func77 rfl ?_
 replace h_b:=h_b.now;have hle_b:=h_b.le
 refine zf (ze (zb (zt (some 2) (Instr.box 150 (vA (w8C h))) (vP w.heap.size 0) (w8C h) 150 ?_)))
 intro w1 hBw1 hEw1
 have hzw1:=hEw1.size;have hlw1:=hBw1.lt
 refine zb (zt (some 4) (Instr.alloc 150 true (.tuple #[])) (vP w1.heap.size 0) (w8C (WA.zero 8)) 150 ?_)
 intro w2 hBw2 hEw2
 have hzw2:=hEw2.size;have hlw2:=hBw2.lt
 refine zg (zc (zf (ze (zb (zi (some 27) (zi4 _) ?_)))))
 rintro _ w3 ⟨rfl,hEw3⟩
 have hzw3:=hEw3.size
 refine zd 3 [(29,(vA (w8C za2))),(28,(vA (zR kA))),(26,(.tuple #[(vA (zR kA)),(vA (w8C za2))]))] (zb (zt (some 5) (Instr.alloc 149 true (.tuple #[])) (vP w3.heap.size 0) (zR (WA.zero 64)) 149 ?_))
 intro w4 hBw4 hEw4
 have hzw4:=hEw4.size;have hlw4:=hBw4.lt
 refine zb (zt (some 6) (Instr.alloc 150 true (.tuple #[])) (vP w4.heap.size 0) (w8C (WA.zero 8)) 150 ?_)
 intro w5 hBw5 hEw5
 have hzw5:=hEw5.size;have hlw5:=hBw5.lt
 refine zb (zz 149 w3.heap.size 0 149 (vA (zR kA)) (zR (WA.zero 64)) (zR kA) (hBw4.ext hEw5) (by rw [zcL];kernel_rfl) (by first |(simp;done)|(simp;omega)) (zeQ _) ?_)
 intro w6 hBw6 hCw6
 have hzw6:=hCw6.size
 rw [zm _ _ (by simp)] at hBw6
 refine zb (zz 150 w4.heap.size 0 150 (vA (w8C za2)) (w8C (WA.zero 8)) (w8C za2) ((hBw5).chg hCw6 (fun hs=>by have h:_=_:=hs;omega)) (by rw [za8];kernel_rfl) (by first |(simp;done)|(simp;omega)) (zcV _) ?_)
 intro w7 hBw7 hCw7
 have hzw7:=hCw7.size
 rw [zm _ _ (by simp)] at hBw7
 refine zg (zc (zf (ze (zb (zt (some 7) (Instr.alloc 149 true (.tuple #[])) (vP w7.heap.size 0) (zR (WA.zero 64)) 149 ?_)))))
 intro w8 hBw8 hEw8
 have hzw8:=hEw8.size;have hlw8:=hBw8.lt
 refine zg (zc (zf (zf (ze (zd 1 [(8,(vI 0))] (zg (zc (zI ?_))))))))
 have hK1:=(((((((((((((hBw1.ext hEw2)).ext hEw3)).ext hEw4)).ext hEw5)).chg hCw6 (fun hs=>by have h:_=_:=hs;omega))).chg hCw7 (fun hs=>by have h:_=_:=hs;omega))).ext hEw8)
 have hK2:=(((((((((((hBw2.ext hEw3)).ext hEw4)).ext hEw5)).chg hCw6 (fun hs=>by have h:_=_:=hs;omega))).chg hCw7 (fun hs=>by have h:_=_:=hs;omega))).ext hEw8)
 have hX1:Ext w w8:=((Ext.own (Ext.own ((((hEw1.trans hEw2).trans hEw3).trans hEw4).trans hEw5) hCw6 (by omega)) hCw7 (by omega)).trans hEw8)
 refine zah (X:=Nat) (fun t=> [(8,(vI t))]) [9,10,11,12,30,31,32,33,34,35,36,37,38,39,40,41,42,43,44,45,46,47,48,49,50,51,52,53,54,55,56,57,58,59,60,61,62,63,64,65,66,67,68,69,70,71,72,73,74,75,76,77,78,79,80,81,82,83,84,85,86,87] (fun t w9=>t≤64∧Blk w9 w.heap.size (w8C h) 150∧Blk w9 w7.heap.size (zR (za b t)) 149∧Blk w9 w3.heap.size (zR kA) 149∧Blk w9 w1.heap.size (w8C (WA.zero 8)) 150∧Ext w w9) (fun t=>64-t) 0 (by kernel_rfl) ⟨by omega,hK1,hBw8,((((hBw6).chg hCw7 (fun hs=>by have h:_=_:=hs;omega))).ext hEw8),hK2,hX1⟩ ?_
 rintro t dw9 w9 ⟨ht,hA,hB,hK,hZ4,hEl⟩
 have hzl:=hEl.size
 have hlb:=h_b.len_eq
 have hlthA:=hA.lt
 have hlthB:=hB.lt
 have hlthK:=hK.lt
 have hlthZ4:=hZ4.lt
 refine zf (zf (ze (zd 1 [(30,(vI t))] (zb (zO (some 31) (decide (((t:Nat):Int)<((64:Nat):Int))) (fun hc31=> ?_) (fun hc31=> ?_))))))
 ·replace hc31:t<64:=by have:=zak hc31;omega
  refine zg (zc (zF (zy (zc (zf (zI (zf (zf (ze ?_)))))))))
  refine zd 1 [(34,(vI t))] (zb (zO (some 35) (decide (((t:Nat):Int)<((16:Nat):Int))) (fun hc35=> ?_) (fun hc35=> ?_)))
  ·replace hc35:t<16:=by have:=zak hc35;omega
   refine zg (zc (zF (zf (ze (zd 2 [(38,(vI t)),(37,(.slice a_b n_b c_b))] (zb (zv (some 39) .i64 (IntKind.i64.wrap (((4:Nat):Int)*((t:Nat):Int))) (4*t) (zG (by omega) (by omega) (by omega)) ?_)))))))
   refine zd 1 [(40,(vI t))] (zb (zv (some 41) .i64 (IntKind.i64.wrap (((4:Nat):Int)*((t:Nat):Int))) (4*t) (zG (by omega) (by omega) (by omega)) ?_))
   refine zb (zv (some 42) .i64 (IntKind.i64.wrap (((4*t:Nat):Int)+((4:Nat):Int))) (4*t+4) (zG (by omega) (by omega) (by omega)) ?_)
   obtain ⟨a1,hR1,hS1⟩:=(h_b.ext hEl).slice Tryz.prog 57 5 (4*t) (4*t+4) c_b (some (vI (4*t))) (some (vI (4*t+4))) none
   refine zb (zj (some 43) (Instr.sliceAt 57 (.slice a_b n_b c_b) (some (vI (4*t))) (some (vI (4*t+4))) none) (.slice a1 (4*t+4-(4*t)) (c_b-(4*t))) (hR1 _) ?_)
   refine zb (zi (some 44) (zqd 4 _ hS1 (by first | omega | decide)) ?_)
   rintro _ _ ⟨rfl,rfl⟩
   refine zd 5 [(10,(vI (zb7 ((b.drop (4*t)).take (4*t+4-(4*t))) 4))),(9,(vQ (zaH ((b.drop (4*t)).take (4*t+4-(4*t))) 4))),(46,(vI (zb7 ((b.drop (4*t)).take (4*t+4-(4*t))) 4))),(45,(vQ (zaH ((b.drop (4*t)).take (4*t+4-(4*t))) 4))),(36,(.tuple #[(vQ (zaH ((b.drop (4*t)).take (4*t+4-(4*t))) 4)),(vI (zb7 ((b.drop (4*t)).take (4*t+4-(4*t))) 4))]))] (zg (zc (zf (ze (zd 2 [(48,(vQ (zaH ((b.drop (4*t)).take (4*t+4-(4*t))) 4))),(47,(vI t))] (zb (zv (some 49) .u32 (IntKind.u32.wrap ((zaH ((b.drop (4*t)).take (4*t+4-(4*t))) 4:Nat):Int)) ((UInt32.ofNat (zaH ((b.drop (4*t)).take 4) 4)).toNat) (by rw [show 4*t+4-4*t=4 from by omega,UInt32.toNat_ofNat',Nat.mod_eq_of_lt (zcW _ 4)];exact zba rfl rfl (show _<2^32 from zcW _ 4)) ?_)))))))
   refine zb (zj (some 50) (Instr.indexAt 149 (vP w7.heap.size 0) (vI t)) (vP w7.heap.size (0+t*1)) (zX (E:=28) (sz:=1) (m:=64) (by omega)) ?_)
   refine zb (zV 28 w7.heap.size (0+t*1) 149 (vW ((UInt32.ofNat (zaH ((b.drop (4*t)).take 4) 4)).toNat)) (zR (za b t)) hB (by first | decide |(simp;done)|(simp;omega)) ?_)
   intro w10 hBw10 hCw10
   have hzw10:=hCw10.size
   rw [show ((zR (za b t)).set (0+t*1) (vW ((UInt32.ofNat (zaH ((b.drop (4*t)).take 4) 4)).toNat)):List Value)=zR ((za b t).set t (UInt32.ofNat (zaH ((b.drop (4*t)).take 4) 4))) from zaC t (UInt32.ofNat (zaH ((b.drop (4*t)).take 4) 4))] at hBw10
   refine zg (zc (zaf (zH (zT (zc (ze (zd 1 [(32,(vI t))] (zb (zv (some 33) .i64 (IntKind.i64.wrap (((t:Nat):Int)+((1:Nat):Int))) (t+1) (zG (by omega) (by omega) (by omega)) ?_)))))))))
   refine zd 1 [(8,(vI (t+1)))] (zg (zC (zS (t+1) ?_ ?_)))
   ·exact ⟨by omega,((hA).chg hCw10 (fun hs=>by have h:_=_:=hs;omega)),by have hz:=hBw10;rwa [show (za b t).set t _=za b (t+1) from ziY (by omega) rfl] at hz,((hK).chg hCw10 (fun hs=>by have h:_=_:=hs;omega)),((hZ4).chg hCw10 (fun hs=>by have h:_=_:=hs;omega)),(Ext.own hEl hCw10 (by omega))⟩
   ·first | omega |(dsimp only;omega)
  ·replace hc35:¬(t<16):=by have:=zal hc35;omega
   refine zg (zc (zr (zy (zc (zf (zag (Ext w9.drew) 10 [(52,256,0),(53,2251799813685248,1),(54,4503599627370624,2),(55,9007199254740992,4),(56,256,0),(57,36028797018963968,16),(58,72057594037928064,32),(59,144115188075855872,64),(12,18014398509481984,15),(13,288230376151711744,511)] (fun hT149=> ?_)))))))
   have hEw11:Ext w9 w9.drew:=Ext.drew w9
   generalize w9.drew=w11 at hEw11⊢
   have hzw11:=hEw11.size
   refine zk hT149 [(0,51,(vI t))] 1 1 (zh hT149 1 3 (some 52) (vI (t-15)) (zq .i64 (IntKind.i64.wrap (((t:Nat):Int)-((15:Nat):Int))) (zG (by omega) (by omega) (by omega))) (zh hT149 2 7 (some 53) (vP w7.heap.size (0+(t-15)*1)) (zl (Instr.indexAt 149 (vP w7.heap.size 0) (vI (t-15))) (fun w' hC=>zX (E:=28) (sz:=1) (m:=64) (by omega))) (zh hT149 3 15 (some 54) (vW (((za b t).get (t-15)).toNat)) (zl (Instr.loadAt 28 (vP w7.heap.size (0+(t-15)*1))) (fun w' hC=>zo (((hB.ext hEw11).ext hC).cell (zaj (t-15) (by omega))))) (zk hT149 [(4,55,(vI t))] 1 31 (zh hT149 5 63 (some 56) (vI (t-2)) (zq .i64 (IntKind.i64.wrap (((t:Nat):Int)-((2:Nat):Int))) (zG (by omega) (by omega) (by omega))) (zh hT149 6 127 (some 57) (vP w7.heap.size (0+(t-2)*1)) (zl (Instr.indexAt 149 (vP w7.heap.size 0) (vI (t-2))) (fun w' hC=>zX (E:=28) (sz:=1) (m:=64) (by omega))) (zh hT149 7 255 (some 58) (vW (((za b t).get (t-2)).toNat)) (zl (Instr.loadAt 28 (vP w7.heap.size (0+(t-2)*1))) (fun w' hC=>zo (((hB.ext hEw11).ext hC).cell (zaj (t-2) (by omega))))) (zk hT149 [(8,11,(vW (((za b t).get (t-15)).toNat))),(9,12,(vW (((za b t).get (t-2)).toNat)))] 2 1023 (zJ ?_)))))))))
   refine zc (zag (Ext w11.drew) 30 [(60,256,0),(61,256,0),(62,1152921504606846976,2),(63,2305843009213694080,4),(64,4611686018427387904,8),(65,256,0),(66,18446744073709551616,32),(67,36893488147419103360,64),(68,73786976294838206464,128),(69,156797324626531188736,272),(70,2048,0),(71,590295810358705651712,1024),(72,2048,0),(73,2361183241434822606848,6144),(74,5902958103587056517120,10240),(75,2048,0),(76,18889465931478580854784,32768),(77,47223664828696452136960,81920),(78,75853011631093676244992,131584),(79,4096,0),(80,302231454903657293676544,532480),(81,4096,0),(82,1208925819614629174706176,3145728),(83,3022314549036572936765440,5242880),(84,4096,0),(85,9671406556917033397649408,16777216),(86,24178516392292583494123520,41943040),(87,38836741955119962237435904,67371008),(88,576460752303423616,268435455),(0,232113757366008801543585792,536870911)] (fun hT164=> ?_))
   have hEw12:Ext w11 w11.drew:=Ext.drew w11
   generalize w11.drew=w12 at hEw12⊢
   have hzw12:=hEw12.size
   refine zk hT164 [(0,59,(vI t)),(1,60,(vI t))] 2 3 (zh hT164 2 7 (some 61) (vI (t-16)) (zq .i64 (IntKind.i64.wrap (((t:Nat):Int)-((16:Nat):Int))) (zG (by omega) (by omega) (by omega))) (zh hT164 3 15 (some 62) (vP w7.heap.size (0+(t-16)*1)) (zl (Instr.indexAt 149 (vP w7.heap.size 0) (vI (t-16))) (fun w' hC=>zX (E:=28) (sz:=1) (m:=64) (by omega))) (zh hT164 4 31 (some 63) (vW (((za b t).get (t-16)).toNat)) (zl (Instr.loadAt 28 (vP w7.heap.size (0+(t-16)*1))) (fun w' hC=>zo (((((hB.ext hEw11)).ext hEw12).ext hC).cell (zaj (t-16) (by omega))))) (zk hT164 [(5,64,(vI t))] 1 63 (zh hT164 6 127 (some 65) (vI (t-7)) (zq .i64 (IntKind.i64.wrap (((t:Nat):Int)-((7:Nat):Int))) (zG (by omega) (by omega) (by omega))) (zh hT164 7 255 (some 66) (vP w7.heap.size (0+(t-7)*1)) (zl (Instr.indexAt 149 (vP w7.heap.size 0) (vI (t-7))) (fun w' hC=>zX (E:=28) (sz:=1) (m:=64) (by omega))) (zh hT164 8 511 (some 67) (vW (((za b t).get (t-7)).toNat)) (zl (Instr.loadAt 28 (vP w7.heap.size (0+(t-7)*1))) (fun w' hC=>zo (((((hB.ext hEw11)).ext hEw12).ext hC).cell (zaj (t-7) (by omega))))) (zh hT164 9 1023 (some 68) (vW ((((za b t).get (t-16))+((za b t).get (t-7))).toNat)) (zq .u32 _ (zQ ((za b t).get (t-16)) ((za b t).get (t-7)))) ?_))))))))
   refine zk hT164 [(10,69,(vW (((za b t).get (t-15)).toNat))),(12,71,(vW (((za b t).get (t-15)).toNat))),(15,74,(vW (((za b t).get (t-15)).toNat)))] 3 38911 (zh hT164 16 104447 (some 75) (vW ((((za b t).get (t-15))>>>UInt32.ofNat 3).toNat)) (zq .u32 _ (zhL ((za b t).get (t-15)) 3 (by decide))) (zk hT164 [(19,78,(vW (((za b t).get (t-2)).toNat))),(21,80,(vW (((za b t).get (t-2)).toNat))),(24,83,(vW (((za b t).get (t-2)).toNat)))] 3 19503103 (zh hT164 25 53057535 (some 84) (vW ((((za b t).get (t-2))>>>UInt32.ofNat 10).toNat)) (zq .u32 _ (zhL ((za b t).get (t-2)) 10 (by decide))) (zn 11 53059583 (zi (some 70) (zae ((za b t).get (t-15)) 7 _ (by decide) (by decide)) ?_)))))
   rintro _ w13 ⟨rfl,hEw13⟩
   have hzw13:=hEw13.size
   refine ⟨.inr hEw13, ?_⟩
   refine zn 13 53067775 (zi (some 72) (zae ((za b t).get (t-15)) 18 _ (by decide) (by decide)) ?_)
   rintro _ w14 ⟨rfl,hEw14⟩
   have hzw14:=hEw14.size
   have hX2:Ext w12 w14:=(hEw13.trans hEw14)
   refine ⟨.inr hX2, ?_⟩
   refine zh (hw:=hX2) hT164 14 53084159 (some 73) (vW (((rr ((za b t).get (t-15)) 7)^^^(rr ((za b t).get (t-15)) 18)).toNat)) (zq .u32 _ (zZ (rr ((za b t).get (t-15)) 7) (rr ((za b t).get (t-15)) 18))) (zh (hw:=hX2) hT164 17 53215231 (some 76) (vW ((((rr ((za b t).get (t-15)) 7)^^^(rr ((za b t).get (t-15)) 18))^^^(((za b t).get (t-15))>>>UInt32.ofNat 3)).toNat)) (zq .u32 _ (zZ ((rr ((za b t).get (t-15)) 7)^^^(rr ((za b t).get (t-15)) 18)) (((za b t).get (t-15))>>>UInt32.ofNat 3))) (zh (hw:=hX2) hT164 18 53477375 (some 77) (vW (((((za b t).get (t-16))+((za b t).get (t-7)))+(((rr ((za b t).get (t-15)) 7)^^^(rr ((za b t).get (t-15)) 18))^^^(((za b t).get (t-15))>>>UInt32.ofNat 3))).toNat)) (zq .u32 _ (zQ (((za b t).get (t-16))+((za b t).get (t-7))) (((rr ((za b t).get (t-15)) 7)^^^(rr ((za b t).get (t-15)) 18))^^^(((za b t).get (t-15))>>>UInt32.ofNat 3)))) (zn 20 54525951 (zi (some 79) (zae ((za b t).get (t-2)) 17 _ (by decide) (by decide)) ?_))))
   rintro _ w15 ⟨rfl,hEw15⟩
   have hzw15:=hEw15.size
   have hX3:Ext w12 w15:=((hEw13.trans hEw14).trans hEw15)
   refine ⟨.inr hX3, ?_⟩
   refine zn 22 58720255 (zi (some 81) (zae ((za b t).get (t-2)) 19 _ (by decide) (by decide)) ?_)
   rintro _ w16 ⟨rfl,hEw16⟩
   have hzw16:=hEw16.size
   have hX4:Ext w12 w16:=(((hEw13.trans hEw14).trans hEw15).trans hEw16)
   refine ⟨.inr hX4, ?_⟩
   refine zh (hw:=hX4) hT164 23 67108863 (some 82) (vW (((rr ((za b t).get (t-2)) 17)^^^(rr ((za b t).get (t-2)) 19)).toNat)) (zq .u32 _ (zZ (rr ((za b t).get (t-2)) 17) (rr ((za b t).get (t-2)) 19))) (zh (hw:=hX4) hT164 26 134217727 (some 85) (vW ((((rr ((za b t).get (t-2)) 17)^^^(rr ((za b t).get (t-2)) 19))^^^(((za b t).get (t-2))>>>UInt32.ofNat 10)).toNat)) (zq .u32 _ (zZ ((rr ((za b t).get (t-2)) 17)^^^(rr ((za b t).get (t-2)) 19)) (((za b t).get (t-2))>>>UInt32.ofNat 10))) (zh (hw:=hX4) hT164 27 268435455 (some 86) (vW ((((((za b t).get (t-16))+((za b t).get (t-7)))+(((rr ((za b t).get (t-15)) 7)^^^(rr ((za b t).get (t-15)) 18))^^^(((za b t).get (t-15))>>>UInt32.ofNat 3)))+(((rr ((za b t).get (t-2)) 17)^^^(rr ((za b t).get (t-2)) 19))^^^(((za b t).get (t-2))>>>UInt32.ofNat 10))).toNat)) (zq .u32 _ (zQ ((((za b t).get (t-16))+((za b t).get (t-7)))+(((rr ((za b t).get (t-15)) 7)^^^(rr ((za b t).get (t-15)) 18))^^^(((za b t).get (t-15))>>>UInt32.ofNat 3))) (((rr ((za b t).get (t-2)) 17)^^^(rr ((za b t).get (t-2)) 19))^^^(((za b t).get (t-2))>>>UInt32.ofNat 10)))) (zh (hw:=hX4) hT164 28 536870911 (some 87) (vP w7.heap.size (0+t*1)) (zl (Instr.indexAt 149 (vP w7.heap.size 0) (vI t)) (fun w' hC=>zX (E:=28) (sz:=1) (m:=64) (by omega))) ?_)))
   have hK3:=(((((hB.ext hEw11)).ext hEw12)).ext hX4)
   refine zn 29 1073741823 (zV 28 w7.heap.size (0+t*1) 149 (vW ((((((za b t).get (t-16))+((za b t).get (t-7)))+(((rr ((za b t).get (t-15)) 7)^^^(rr ((za b t).get (t-15)) 18))^^^(((za b t).get (t-15))>>>UInt32.ofNat 3)))+(((rr ((za b t).get (t-2)) 17)^^^(rr ((za b t).get (t-2)) 19))^^^(((za b t).get (t-2))>>>UInt32.ofNat 10))).toNat)) (zR (za b t)) hK3 (by first | decide |(simp;done)|(simp;omega)) ?_)
   have hK4:=(((((hB.ext hEw11)).ext hEw12)).ext hX4)
   intro w17 hBw17 hCw17
   have hzw17:=hCw17.size
   rw [show ((zR (za b t)).set (0+t*1) (vW ((((((za b t).get (t-16))+((za b t).get (t-7)))+(((rr ((za b t).get (t-15)) 7)^^^(rr ((za b t).get (t-15)) 18))^^^(((za b t).get (t-15))>>>UInt32.ofNat 3)))+(((rr ((za b t).get (t-2)) 17)^^^(rr ((za b t).get (t-2)) 19))^^^(((za b t).get (t-2))>>>UInt32.ofNat 10))).toNat)):List Value)=zR ((za b t).set t (((((za b t).get (t-16))+((za b t).get (t-7)))+(((rr ((za b t).get (t-15)) 7)^^^(rr ((za b t).get (t-15)) 18))^^^(((za b t).get (t-15))>>>UInt32.ofNat 3)))+(((rr ((za b t).get (t-2)) 17)^^^(rr ((za b t).get (t-2)) 19))^^^(((za b t).get (t-2))>>>UInt32.ofNat 10)))) from zaC t (((((za b t).get (t-16))+((za b t).get (t-7)))+(((rr ((za b t).get (t-15)) 7)^^^(rr ((za b t).get (t-15)) 18))^^^(((za b t).get (t-15))>>>UInt32.ofNat 3)))+(((rr ((za b t).get (t-2)) 17)^^^(rr ((za b t).get (t-2)) 19))^^^(((za b t).get (t-2))>>>UInt32.ofNat 10)))] at hBw17
   refine ⟨.inl (by kernel_rfl), ?_⟩
   refine zJ (zp (zc (ze (zd 1 [(32,(vI t))] (zb (zv (some 33) .i64 (IntKind.i64.wrap (((t:Nat):Int)+((1:Nat):Int))) (t+1) (zG (by omega) (by omega) (by omega)) ?_))))))
   refine zd 1 [(8,(vI (t+1)))] (zg (zC ?_))
   have hK5:=(((((((hA.ext hEw11)).ext hEw12)).ext hX4)).chg hCw17 (fun hs=>by have h:_=_:=hs;omega))
   have hK6:=(((((((hK.ext hEw11)).ext hEw12)).ext hX4)).chg hCw17 (fun hs=>by have h:_=_:=hs;omega))
   have hK7:=(((((((hZ4.ext hEw11)).ext hEw12)).ext hX4)).chg hCw17 (fun hs=>by have h:_=_:=hs;omega))
   have hX5:Ext w w17:=(Ext.own (((hEl.trans hEw11).trans hEw12).trans hX4) hCw17 (by omega))
   refine zS (t+1) ?_ ?_
   ·exact ⟨by omega,hK5,by have hz:=hBw17;rwa [show (za b t).set t _=za b (t+1) from zax (by omega) (by unfold zbk zbi;ac_rfl)] at hz,hK6,hK7,hX5⟩
   ·first | omega |(dsimp only;omega)
 ·replace hc31:¬(t<64):=by have:=zal hc31;omega
  refine zg (zc (zr (zaf (zH (zH (zT (zc (zf (zag (Ext w9.drew) 24 [(89,4,0),(90,309485009821345068724781056,1),(91,4,0),(92,1237940039285380274899124224,4),(93,4,0),(94,4951760157141521099596496896,16),(95,4,0),(96,19807040628566084398385987584,64),(97,4,0),(98,79228162514264337593543950336,256),(99,4,0),(100,316912650057057350374175801344,1024),(101,4,0),(102,1267650600228229401496703205376,4096),(103,4,0),(104,5070602400912917605986812821504,16384),(14,618970019642690137449562112,3),(15,2475880078570760549798248448,65551),(16,9903520314283042199192993792,196671),(17,39614081257132168796771975168,459007),(18,158456325028528675187087900672,984063),(19,633825300114114700748351602688,2035711),(20,2535301200456458802993406410752,4145151),(21,10141204801825835211973625643008,8388607)] (fun hT240=> ?_))))))))))
  have hEw18:Ext w9 w9.drew:=Ext.drew w9
  generalize w9.drew=w18 at hEw18⊢
  have hzw18:=hEw18.size
  refine zh hT240 0 1 (some 88) (vP w.heap.size 0) (zl (Instr.indexAt 150 (vP w.heap.size 0) (vI 0)) (fun w' hC=>zX (E:=28) (sz:=1) (m:=8) (by omega))) (zh hT240 1 3 (some 89) (vW ((h.get 0).toNat)) (zl (Instr.loadAt 28 (vP w.heap.size 0)) (fun w' hC=>zo (((hA.ext hEw18).ext hC).cell (zaA 0 (by omega))))) (zh hT240 2 7 (some 90) (vP w.heap.size 1) (zl (Instr.indexAt 150 (vP w.heap.size 0) (vI 1)) (fun w' hC=>zX (E:=28) (sz:=1) (m:=8) (by omega))) (zh hT240 3 15 (some 91) (vW ((h.get 1).toNat)) (zl (Instr.loadAt 28 (vP w.heap.size 1)) (fun w' hC=>zo (((hA.ext hEw18).ext hC).cell (zaA 1 (by omega))))) (zh hT240 4 31 (some 92) (vP w.heap.size 2) (zl (Instr.indexAt 150 (vP w.heap.size 0) (vI 2)) (fun w' hC=>zX (E:=28) (sz:=1) (m:=8) (by omega))) (zh hT240 5 63 (some 93) (vW ((h.get 2).toNat)) (zl (Instr.loadAt 28 (vP w.heap.size 2)) (fun w' hC=>zo (((hA.ext hEw18).ext hC).cell (zaA 2 (by omega))))) (zh hT240 6 127 (some 94) (vP w.heap.size 3) (zl (Instr.indexAt 150 (vP w.heap.size 0) (vI 3)) (fun w' hC=>zX (E:=28) (sz:=1) (m:=8) (by omega))) (zh hT240 7 255 (some 95) (vW ((h.get 3).toNat)) (zl (Instr.loadAt 28 (vP w.heap.size 3)) (fun w' hC=>zo (((hA.ext hEw18).ext hC).cell (zaA 3 (by omega))))) (zh hT240 8 511 (some 96) (vP w.heap.size 4) (zl (Instr.indexAt 150 (vP w.heap.size 0) (vI 4)) (fun w' hC=>zX (E:=28) (sz:=1) (m:=8) (by omega))) ?_))))))))
  refine zh hT240 9 1023 (some 97) (vW ((h.get 4).toNat)) (zl (Instr.loadAt 28 (vP w.heap.size 4)) (fun w' hC=>zo (((hA.ext hEw18).ext hC).cell (zaA 4 (by omega))))) (zh hT240 10 2047 (some 98) (vP w.heap.size 5) (zl (Instr.indexAt 150 (vP w.heap.size 0) (vI 5)) (fun w' hC=>zX (E:=28) (sz:=1) (m:=8) (by omega))) (zh hT240 11 4095 (some 99) (vW ((h.get 5).toNat)) (zl (Instr.loadAt 28 (vP w.heap.size 5)) (fun w' hC=>zo (((hA.ext hEw18).ext hC).cell (zaA 5 (by omega))))) (zh hT240 12 8191 (some 100) (vP w.heap.size 6) (zl (Instr.indexAt 150 (vP w.heap.size 0) (vI 6)) (fun w' hC=>zX (E:=28) (sz:=1) (m:=8) (by omega))) (zh hT240 13 16383 (some 101) (vW ((h.get 6).toNat)) (zl (Instr.loadAt 28 (vP w.heap.size 6)) (fun w' hC=>zo (((hA.ext hEw18).ext hC).cell (zaA 6 (by omega))))) (zh hT240 14 32767 (some 102) (vP w.heap.size 7) (zl (Instr.indexAt 150 (vP w.heap.size 0) (vI 7)) (fun w' hC=>zX (E:=28) (sz:=1) (m:=8) (by omega))) (zh hT240 15 65535 (some 103) (vW ((h.get 7).toNat)) (zl (Instr.loadAt 28 (vP w.heap.size 7)) (fun w' hC=>zo (((hA.ext hEw18).ext hC).cell (zaA 7 (by omega))))) (zk hT240 [(16,13,(vW ((h.get 0).toNat))),(17,14,(vW ((h.get 1).toNat))),(18,15,(vW ((h.get 2).toNat))),(19,16,(vW ((h.get 3).toNat))),(20,17,(vW ((h.get 4).toNat))),(21,18,(vW ((h.get 5).toNat))),(22,19,(vW ((h.get 6).toNat))),(23,20,(vW ((h.get 7).toNat)))] 8 16777215 (zJ (zc ?_)))))))))
  refine zf (zf (ze (zd 1 [(21,(vI 0))] (zg (zc (zI ?_))))))
  obtain rfl:t=64:=by omega
  refine zah (X:=Nat×WA 8) (fun ⟨i,x⟩=> [(13,(vW ((x.get 0).toNat))),(14,(vW ((x.get 1).toNat))),(15,(vW ((x.get 2).toNat))),(16,(vW ((x.get 3).toNat))),(17,(vW ((x.get 4).toNat))),(18,(vW ((x.get 5).toNat))),(19,(vW ((x.get 6).toNat))),(20,(vW ((x.get 7).toNat))),(21,(vI i))]) [22,23,24,25,104,105,106,107,108,109,110,111,112,113,114,115,116,117,118,119,120,121,122,123,124,125,126,127,128,129,130,131,132,133,134,135,136,137,138,139,140,141,142,143,144,145,146,147,148,149,150,151,152,153,154,155,156,157,158,159,160,161,162,163,164,165,166,167,168] (fun ⟨i,x⟩ w19=>i≤64∧x=zdQ h (za b 64) i∧Blk w19 w.heap.size (w8C h) 150∧Blk w19 w7.heap.size (zR (za b 64)) 149∧Blk w19 w3.heap.size (zR kA) 149∧Blk w19 w1.heap.size (w8C (WA.zero 8)) 150∧Ext w w19) (fun ⟨i,x⟩=>64-i) (0,h) (by kernel_rfl) ⟨by omega,rfl,(hA.ext hEw18),(hB.ext hEw18),(hK.ext hEw18),(hZ4.ext hEw18),(hEl.trans hEw18)⟩ ?_
  rintro ⟨i,x⟩ dw19 w19 ⟨hi,hx,hA2,hB2,hK2,hZ42,hEm⟩
  have hzm:=hEm.size
  have hlthA2:=hA2.lt
  have hlthB2:=hB2.lt
  have hlthK2:=hK2.lt
  have hlthZ42:=hZ42.lt
  refine zf (zf (ze (zd 1 [(104,(vI i))] (zb (zO (some 105) (decide (((i:Nat):Int)<((64:Nat):Int))) (fun hc105=> ?_) (fun hc105=> ?_))))))
  ·replace hc105:i<64:=by have:=zak hc105;omega
   refine zg (zc (zF (zy (zc (zf (zI (zf (ze (zd 2 [(109,(vW ((x.get 5).toNat))),(108,(vW ((x.get 4).toNat)))] ?_)))))))))
   refine zb (zv (some 110) .u32 ((IntKind.u32.wrap ((BitVec.ofInt IntKind.u32.bits (((x.get 4).toNat:Nat):Int)&&&BitVec.ofInt IntKind.u32.bits (((x.get 5).toNat:Nat):Int)).toNat:Int))) (((x.get 4)&&&(x.get 5)).toNat) (zdk (x.get 4) (x.get 5)) ?_)
   refine zd 1 [(111,(vW ((x.get 4).toNat)))] (zb (zv (some 112) .u32 (IntKind.u32.wrap ((BitVec.ofInt IntKind.u32.bits (if IntKind.u32.signed then-1 else IntKind.u32.max)^^^BitVec.ofInt IntKind.u32.bits (((x.get 4).toNat:Nat):Int)).toNat:Int)) ((~~~(x.get 4)).toNat) (zl2 (x.get 4)) ?_))
   refine zd 1 [(113,(vW ((x.get 6).toNat)))] (zb (zv (some 114) .u32 ((IntKind.u32.wrap ((BitVec.ofInt IntKind.u32.bits (((~~~(x.get 4)).toNat:Nat):Int)&&&BitVec.ofInt IntKind.u32.bits (((x.get 6).toNat:Nat):Int)).toNat:Int))) (((~~~(x.get 4))&&&(x.get 6)).toNat) (zdk (~~~(x.get 4)) (x.get 6)) ?_))
   refine zb (zv (some 115) .u32 ((IntKind.u32.wrap ((BitVec.ofInt IntKind.u32.bits (((x.get 4&&&x.get 5).toNat:Nat):Int)||| BitVec.ofInt IntKind.u32.bits (((~~~(x.get 4)&&&x.get 6).toNat:Nat):Int)).toNat:Int))) ((((x.get 4&&&x.get 5)^^^(~~~(x.get 4)&&&x.get 6))).toNat) ((zl0 _ _).trans (by rw [zrK])) ?_)
   refine zd 1 [(22,(vW ((((x.get 4&&&x.get 5)^^^(~~~(x.get 4)&&&x.get 6))).toNat)))] (zg (zc (zf (ze (zd 2 [(117,(vW ((x.get 1).toNat))),(116,(vW ((x.get 0).toNat)))] (zb (zv (some 118) .u32 ((IntKind.u32.wrap ((BitVec.ofInt IntKind.u32.bits (((x.get 0).toNat:Nat):Int)&&&BitVec.ofInt IntKind.u32.bits (((x.get 1).toNat:Nat):Int)).toNat:Int))) (((x.get 0)&&&(x.get 1)).toNat) (zdk (x.get 0) (x.get 1)) ?_)))))))
   refine zd 2 [(120,(vW ((x.get 2).toNat))),(119,(vW ((x.get 0).toNat)))] (zb (zv (some 121) .u32 ((IntKind.u32.wrap ((BitVec.ofInt IntKind.u32.bits (((x.get 0).toNat:Nat):Int)&&&BitVec.ofInt IntKind.u32.bits (((x.get 2).toNat:Nat):Int)).toNat:Int))) (((x.get 0)&&&(x.get 2)).toNat) (zdk (x.get 0) (x.get 2)) ?_))
   refine zb (zv (some 122) .u32 ((IntKind.u32.wrap ((BitVec.ofInt IntKind.u32.bits ((((x.get 0)&&&(x.get 1)).toNat:Nat):Int)||| BitVec.ofInt IntKind.u32.bits ((((x.get 0)&&&(x.get 2)).toNat:Nat):Int)).toNat:Int))) ((((x.get 0)&&&(x.get 1))|||((x.get 0)&&&(x.get 2))).toNat) (zl0 ((x.get 0)&&&(x.get 1)) ((x.get 0)&&&(x.get 2))) ?_)
   refine zd 2 [(124,(vW ((x.get 2).toNat))),(123,(vW ((x.get 1).toNat)))] (zb (zv (some 125) .u32 ((IntKind.u32.wrap ((BitVec.ofInt IntKind.u32.bits (((x.get 1).toNat:Nat):Int)&&&BitVec.ofInt IntKind.u32.bits (((x.get 2).toNat:Nat):Int)).toNat:Int))) (((x.get 1)&&&(x.get 2)).toNat) (zdk (x.get 1) (x.get 2)) ?_))
   refine zb (zv (some 126) .u32 ((IntKind.u32.wrap ((BitVec.ofInt IntKind.u32.bits ((((x.get 0&&&x.get 1)|||(x.get 0&&&x.get 2)).toNat:Nat):Int)||| BitVec.ofInt IntKind.u32.bits (((x.get 1&&&x.get 2).toNat:Nat):Int)).toNat:Int))) ((((x.get 0&&&x.get 1)^^^(x.get 0&&&x.get 2)^^^(x.get 1&&&x.get 2))).toNat) ((zl0 _ _).trans (by rw [zqh])) ?_)
   refine zd 1 [(23,(vW ((((x.get 0&&&x.get 1)^^^(x.get 0&&&x.get 2)^^^(x.get 1&&&x.get 2))).toNat)))] (zg (zc (zf (zag (Ext w19.drew) 21 [(128,1048576,0),(129,131072,0),(130,340282366920938463463374607431768211456,2),(131,131072,0),(132,1361129467683753853853498429727072845824,12),(133,3402823669209384634633746074317682114560,20),(134,131072,0),(135,10889035741470030830827987437816582766592,80),(136,27222589353675077077069968594541456916480,160),(137,43726284149340592555043637054982215172096,257),(138,4194304,0),(139,261336857795280739939871698507597986398208,1536),(140,2097152,0),(141,696898287454081973172991196020261297061920,4096),(142,1393796574908163946345982392040522594123776,8192),(143,3136042293543368879278460382091175836778496,18432),(144,2097152,0),(145,11150372599265311570767859136324180752990336,65536),(146,22300745198530623141535718272648361505980416,131072),(147,50176676696693902068455366113458813388455936,294912),(25,89202980794122492566142873090593446023921664,1048575)] (fun hT317=> ?_)))))
   have hEw20:Ext w19 w19.drew:=Ext.drew w19
   generalize w19.drew=w20 at hEw20⊢
   have hzw20:=hEw20.size
   refine zk hT317 [(0,127,(vW ((x.get 7).toNat))),(1,128,(vW ((x.get 4).toNat))),(3,130,(vW ((x.get 4).toNat))),(6,133,(vW ((x.get 4).toNat))),(10,137,(vW ((((x.get 4&&&x.get 5)^^^(~~~(x.get 4)&&&x.get 6))).toNat))),(12,139,(vI i))] 6 5195 (zh hT317 13 13387 (some 140) (vP w3.heap.size (0+i*1)) (zl (Instr.indexAt 149 (vP w3.heap.size 0) (vI i)) (fun w' hC=>zX (E:=28) (sz:=1) (m:=64) (by omega))) (zh hT317 14 29771 (some 141) (vW ((kA.get i).toNat)) (zl (Instr.loadAt 28 (vP w3.heap.size (0+i*1))) (fun w' hC=>zo (((hK2.ext hEw20).ext hC).cell (zaj i (by omega))))) (zk hT317 [(16,143,(vI i))] 1 95307 (zh hT317 17 226379 (some 144) (vP w7.heap.size (0+i*1)) (zl (Instr.indexAt 149 (vP w7.heap.size 0) (vI i)) (fun w' hC=>zX (E:=28) (sz:=1) (m:=64) (by omega))) (zh hT317 18 488523 (some 145) (vW (((za b 64).get i).toNat)) (zl (Instr.loadAt 28 (vP w7.heap.size (0+i*1))) (fun w' hC=>zo (((hB2.ext hEw20).ext hC).cell (zaj i (by omega))))) (zn 2 488527 (zi (some 129) (zae (x.get 4) 6 _ (by decide) (by decide)) ?_)))))))
   rintro _ w21 ⟨rfl,hEw21⟩
   have hzw21:=hEw21.size
   refine ⟨.inr hEw21, ?_⟩
   refine zn 4 488543 (zi (some 131) (zae (x.get 4) 11 _ (by decide) (by decide)) ?_)
   rintro _ w22 ⟨rfl,hEw22⟩
   have hzw22:=hEw22.size
   have hX6:Ext w20 w22:=(hEw21.trans hEw22)
   refine ⟨.inr hX6, ?_⟩
   refine zh (hw:=hX6) hT317 5 488575 (some 132) (vW (((rr (x.get 4) 6)^^^(rr (x.get 4) 11)).toNat)) (zq .u32 _ (zZ (rr (x.get 4) 6) (rr (x.get 4) 11))) (zn 7 488703 (zi (some 134) (zae (x.get 4) 25 _ (by decide) (by decide)) ?_))
   rintro _ w23 ⟨rfl,hEw23⟩
   have hzw23:=hEw23.size
   have hX7:Ext w20 w23:=((hEw21.trans hEw22).trans hEw23)
   refine ⟨.inr hX7, ?_⟩
   refine zh (hw:=hX7) hT317 8 488959 (some 135) (vW ((((rr (x.get 4) 6)^^^(rr (x.get 4) 11))^^^(rr (x.get 4) 25)).toNat)) (zq .u32 _ (zZ ((rr (x.get 4) 6)^^^(rr (x.get 4) 11)) (rr (x.get 4) 25))) (zh (hw:=hX7) hT317 9 489471 (some 136) (vW (((x.get 7)+(((rr (x.get 4) 6)^^^(rr (x.get 4) 11))^^^(rr (x.get 4) 25))).toNat)) (zq .u32 _ (zQ (x.get 7) (((rr (x.get 4) 6)^^^(rr (x.get 4) 11))^^^(rr (x.get 4) 25)))) (zh (hw:=hX7) hT317 11 491519 (some 138) (vW ((((x.get 7)+(((rr (x.get 4) 6)^^^(rr (x.get 4) 11))^^^(rr (x.get 4) 25)))+(((x.get 4&&&x.get 5)^^^(~~~(x.get 4)&&&x.get 6)))).toNat)) (zq .u32 _ (zQ ((x.get 7)+(((rr (x.get 4) 6)^^^(rr (x.get 4) 11))^^^(rr (x.get 4) 25))) (((x.get 4&&&x.get 5)^^^(~~~(x.get 4)&&&x.get 6))))) (zh (hw:=hX7) hT317 15 524287 (some 142) (vW (((((x.get 7)+(((rr (x.get 4) 6)^^^(rr (x.get 4) 11))^^^(rr (x.get 4) 25)))+(((x.get 4&&&x.get 5)^^^(~~~(x.get 4)&&&x.get 6))))+(kA.get i)).toNat)) (zq .u32 _ (zQ (((x.get 7)+(((rr (x.get 4) 6)^^^(rr (x.get 4) 11))^^^(rr (x.get 4) 25)))+(((x.get 4&&&x.get 5)^^^(~~~(x.get 4)&&&x.get 6)))) (kA.get i))) ?_)))
   refine zh (hw:=hX7) hT317 19 1048575 (some 146) (vW ((((((x.get 7)+(((rr (x.get 4) 6)^^^(rr (x.get 4) 11))^^^(rr (x.get 4) 25)))+(((x.get 4&&&x.get 5)^^^(~~~(x.get 4)&&&x.get 6))))+(kA.get i))+((za b 64).get i)).toNat)) (zq .u32 _ (zQ ((((x.get 7)+(((rr (x.get 4) 6)^^^(rr (x.get 4) 11))^^^(rr (x.get 4) 25)))+(((x.get 4&&&x.get 5)^^^(~~~(x.get 4)&&&x.get 6))))+(kA.get i)) ((za b 64).get i))) (zk (hw:=hX7) hT317 [(20,24,(vW ((((((x.get 7)+(((rr (x.get 4) 6)^^^(rr (x.get 4) 11))^^^(rr (x.get 4) 25)))+(((x.get 4&&&x.get 5)^^^(~~~(x.get 4)&&&x.get 6))))+(kA.get i))+((za b 64).get i)).toNat)))] 1 2097151 (zJ (zc (zf (ze (zd 1 [(147,(vW ((x.get 0).toNat)))] (zb (zi (some 148) (zae (x.get 0) 2 _ (by decide) (by decide)) ?_))))))))
   rintro _ w24 ⟨rfl,hEw24⟩
   have hzw24:=hEw24.size
   refine zd 1 [(149,(vW ((x.get 0).toNat)))] (zb (zi (some 150) (zae (x.get 0) 13 _ (by decide) (by decide)) ?_))
   rintro _ w25 ⟨rfl,hEw25⟩
   have hzw25:=hEw25.size
   refine zb (zv (some 151) .u32 ((IntKind.u32.wrap ((BitVec.ofInt IntKind.u32.bits (((rr (x.get 0) 2).toNat:Nat):Int)^^^BitVec.ofInt IntKind.u32.bits (((rr (x.get 0) 13).toNat:Nat):Int)).toNat:Int))) (((rr (x.get 0) 2)^^^(rr (x.get 0) 13)).toNat) (zZ (rr (x.get 0) 2) (rr (x.get 0) 13)) ?_)
   refine zd 1 [(152,(vW ((x.get 0).toNat)))] (zb (zi (some 153) (zae (x.get 0) 22 _ (by decide) (by decide)) ?_))
   rintro _ w26 ⟨rfl,hEw26⟩
   have hzw26:=hEw26.size
   refine zb (zv (some 154) .u32 ((IntKind.u32.wrap ((BitVec.ofInt IntKind.u32.bits ((((rr (x.get 0) 2)^^^(rr (x.get 0) 13)).toNat:Nat):Int)^^^BitVec.ofInt IntKind.u32.bits (((rr (x.get 0) 22).toNat:Nat):Int)).toNat:Int))) ((((rr (x.get 0) 2)^^^(rr (x.get 0) 13))^^^(rr (x.get 0) 22)).toNat) (zZ ((rr (x.get 0) 2)^^^(rr (x.get 0) 13)) (rr (x.get 0) 22)) ?_)
   refine zd 1 [(155,(vW ((((x.get 0&&&x.get 1)^^^(x.get 0&&&x.get 2)^^^(x.get 1&&&x.get 2))).toNat)))] (zb (zv (some 156) .u32 (IntKind.u32.wrap ((((((rr (x.get 0) 2)^^^(rr (x.get 0) 13))^^^(rr (x.get 0) 22)).toNat:Nat):Int)+(((((x.get 0&&&x.get 1)^^^(x.get 0&&&x.get 2)^^^(x.get 1&&&x.get 2))).toNat:Nat):Int))) (((((rr (x.get 0) 2)^^^(rr (x.get 0) 13))^^^(rr (x.get 0) 22))+(((x.get 0&&&x.get 1)^^^(x.get 0&&&x.get 2)^^^(x.get 1&&&x.get 2)))).toNat) (zQ (((rr (x.get 0) 2)^^^(rr (x.get 0) 13))^^^(rr (x.get 0) 22)) (((x.get 0&&&x.get 1)^^^(x.get 0&&&x.get 2)^^^(x.get 1&&&x.get 2)))) ?_))
   refine zd 1 [(25,(vW (((((rr (x.get 0) 2)^^^(rr (x.get 0) 13))^^^(rr (x.get 0) 22))+(((x.get 0&&&x.get 1)^^^(x.get 0&&&x.get 2)^^^(x.get 1&&&x.get 2)))).toNat)))] (zg (zc (ze (zd 5 [(161,(vW ((((((x.get 7)+(((rr (x.get 4) 6)^^^(rr (x.get 4) 11))^^^(rr (x.get 4) 25)))+(((x.get 4&&&x.get 5)^^^(~~~(x.get 4)&&&x.get 6))))+(kA.get i))+((za b 64).get i)).toNat))),(160,(vW ((x.get 3).toNat))),(159,(vW ((x.get 4).toNat))),(158,(vW ((x.get 5).toNat))),(157,(vW ((x.get 6).toNat)))] (zb (zv (some 162) .u32 (IntKind.u32.wrap ((((x.get 3).toNat:Nat):Int)+(((((((x.get 7)+(((rr (x.get 4) 6)^^^(rr (x.get 4) 11))^^^(rr (x.get 4) 25)))+(((x.get 4&&&x.get 5)^^^(~~~(x.get 4)&&&x.get 6))))+(kA.get i))+((za b 64).get i)).toNat:Nat):Int))) (((x.get 3)+(((((x.get 7)+(((rr (x.get 4) 6)^^^(rr (x.get 4) 11))^^^(rr (x.get 4) 25)))+(((x.get 4&&&x.get 5)^^^(~~~(x.get 4)&&&x.get 6))))+(kA.get i))+((za b 64).get i))).toNat) (zQ (x.get 3) (((((x.get 7)+(((rr (x.get 4) 6)^^^(rr (x.get 4) 11))^^^(rr (x.get 4) 25)))+(((x.get 4&&&x.get 5)^^^(~~~(x.get 4)&&&x.get 6))))+(kA.get i))+((za b 64).get i))) ?_))))))
   refine zd 5 [(167,(vW (((((rr (x.get 0) 2)^^^(rr (x.get 0) 13))^^^(rr (x.get 0) 22))+(((x.get 0&&&x.get 1)^^^(x.get 0&&&x.get 2)^^^(x.get 1&&&x.get 2)))).toNat))),(166,(vW ((((((x.get 7)+(((rr (x.get 4) 6)^^^(rr (x.get 4) 11))^^^(rr (x.get 4) 25)))+(((x.get 4&&&x.get 5)^^^(~~~(x.get 4)&&&x.get 6))))+(kA.get i))+((za b 64).get i)).toNat))),(165,(vW ((x.get 0).toNat))),(164,(vW ((x.get 1).toNat))),(163,(vW ((x.get 2).toNat)))] (zb (zv (some 168) .u32 (IntKind.u32.wrap ((((((((x.get 7)+(((rr (x.get 4) 6)^^^(rr (x.get 4) 11))^^^(rr (x.get 4) 25)))+(((x.get 4&&&x.get 5)^^^(~~~(x.get 4)&&&x.get 6))))+(kA.get i))+((za b 64).get i)).toNat:Nat):Int)+((((((rr (x.get 0) 2)^^^(rr (x.get 0) 13))^^^(rr (x.get 0) 22))+(((x.get 0&&&x.get 1)^^^(x.get 0&&&x.get 2)^^^(x.get 1&&&x.get 2)))).toNat:Nat):Int))) (((((((x.get 7)+(((rr (x.get 4) 6)^^^(rr (x.get 4) 11))^^^(rr (x.get 4) 25)))+(((x.get 4&&&x.get 5)^^^(~~~(x.get 4)&&&x.get 6))))+(kA.get i))+((za b 64).get i))+((((rr (x.get 0) 2)^^^(rr (x.get 0) 13))^^^(rr (x.get 0) 22))+(((x.get 0&&&x.get 1)^^^(x.get 0&&&x.get 2)^^^(x.get 1&&&x.get 2))))).toNat) (zQ (((((x.get 7)+(((rr (x.get 4) 6)^^^(rr (x.get 4) 11))^^^(rr (x.get 4) 25)))+(((x.get 4&&&x.get 5)^^^(~~~(x.get 4)&&&x.get 6))))+(kA.get i))+((za b 64).get i)) ((((rr (x.get 0) 2)^^^(rr (x.get 0) 13))^^^(rr (x.get 0) 22))+(((x.get 0&&&x.get 1)^^^(x.get 0&&&x.get 2)^^^(x.get 1&&&x.get 2))))) ?_))
   refine zd 8 [(13,(vW (((((((x.get 7)+(((rr (x.get 4) 6)^^^(rr (x.get 4) 11))^^^(rr (x.get 4) 25)))+(((x.get 4&&&x.get 5)^^^(~~~(x.get 4)&&&x.get 6))))+(kA.get i))+((za b 64).get i))+((((rr (x.get 0) 2)^^^(rr (x.get 0) 13))^^^(rr (x.get 0) 22))+(((x.get 0&&&x.get 1)^^^(x.get 0&&&x.get 2)^^^(x.get 1&&&x.get 2))))).toNat))),(14,(vW ((x.get 0).toNat))),(15,(vW ((x.get 1).toNat))),(16,(vW ((x.get 2).toNat))),(17,(vW (((x.get 3)+(((((x.get 7)+(((rr (x.get 4) 6)^^^(rr (x.get 4) 11))^^^(rr (x.get 4) 25)))+(((x.get 4&&&x.get 5)^^^(~~~(x.get 4)&&&x.get 6))))+(kA.get i))+((za b 64).get i))).toNat))),(18,(vW ((x.get 4).toNat))),(19,(vW ((x.get 5).toNat))),(20,(vW ((x.get 6).toNat)))] (zg (zp (zc (ze (zd 1 [(106,(vI i))] (zb (zv (some 107) .i64 (IntKind.i64.wrap (((i:Nat):Int)+((1:Nat):Int))) (i+1) (zG (by omega) (by omega) (by omega)) ?_)))))))
   refine zd 1 [(21,(vI (i+1)))] (zg (zC ?_))
   have hK8:=(((((((((((((hA2.ext hEw20)).ext hEw21)).ext hEw22)).ext hEw23)).ext hEw24)).ext hEw25)).ext hEw26)
   have hK9:=(((((((((((((hB2.ext hEw20)).ext hEw21)).ext hEw22)).ext hEw23)).ext hEw24)).ext hEw25)).ext hEw26)
   have hK10:=(((((((((((((hK2.ext hEw20)).ext hEw21)).ext hEw22)).ext hEw23)).ext hEw24)).ext hEw25)).ext hEw26)
   have hK11:=(((((((((((((hZ42.ext hEw20)).ext hEw21)).ext hEw22)).ext hEw23)).ext hEw24)).ext hEw25)).ext hEw26)
   have hX8:Ext w w26:=(((((((hEm.trans hEw20).trans hEw21).trans hEw22).trans hEw23).trans hEw24).trans hEw25).trans hEw26)
   refine zS (i+1,rnd x (kA.get i) ((za b 64).get i)) ?_ ?_
   ·exact ⟨by omega,by rw [zdQ,←hx],hK8,hK9,hK10,hK11,hX8⟩
   ·first | omega |(dsimp only;omega)
  ·replace hc105:¬(i<64):=by have:=zal hc105;omega
   refine zg (zc (zr (zaf (zH (zH (zT (zc (zf (ze ?_)))))))))
   refine zb (zj (some 169) (Instr.indexAt 150 (vP w.heap.size 0) (vI 0)) (vP w.heap.size 0) (zX (E:=28) (sz:=1) (m:=8) (by omega)) ?_)
   refine zb (zj (some 170) (Instr.loadAt 28 (vP w.heap.size 0)) (vW ((h.get 0).toNat)) (zo (hA2.cell (zaA 0 (by omega)))) ?_)
   refine zd 1 [(171,(vW ((x.get 0).toNat)))] (zb (zv (some 172) .u32 (IntKind.u32.wrap ((((h.get 0).toNat:Nat):Int)+(((x.get 0).toNat:Nat):Int))) (((h.get 0)+(x.get 0)).toNat) (zQ (h.get 0) (x.get 0)) ?_))
   refine zb (zj (some 173) (Instr.indexAt 150 (vP w.heap.size 0) (vI 1)) (vP w.heap.size 1) (zX (E:=28) (sz:=1) (m:=8) (by omega)) ?_)
   refine zb (zj (some 174) (Instr.loadAt 28 (vP w.heap.size 1)) (vW ((h.get 1).toNat)) (zo (hA2.cell (zaA 1 (by omega)))) ?_)
   refine zd 1 [(175,(vW ((x.get 1).toNat)))] (zb (zv (some 176) .u32 (IntKind.u32.wrap ((((h.get 1).toNat:Nat):Int)+(((x.get 1).toNat:Nat):Int))) (((h.get 1)+(x.get 1)).toNat) (zQ (h.get 1) (x.get 1)) ?_))
   refine zb (zj (some 177) (Instr.indexAt 150 (vP w.heap.size 0) (vI 2)) (vP w.heap.size 2) (zX (E:=28) (sz:=1) (m:=8) (by omega)) ?_)
   refine zb (zj (some 178) (Instr.loadAt 28 (vP w.heap.size 2)) (vW ((h.get 2).toNat)) (zo (hA2.cell (zaA 2 (by omega)))) ?_)
   refine zd 1 [(179,(vW ((x.get 2).toNat)))] (zb (zv (some 180) .u32 (IntKind.u32.wrap ((((h.get 2).toNat:Nat):Int)+(((x.get 2).toNat:Nat):Int))) (((h.get 2)+(x.get 2)).toNat) (zQ (h.get 2) (x.get 2)) ?_))
   refine zb (zj (some 181) (Instr.indexAt 150 (vP w.heap.size 0) (vI 3)) (vP w.heap.size 3) (zX (E:=28) (sz:=1) (m:=8) (by omega)) ?_)
   refine zb (zj (some 182) (Instr.loadAt 28 (vP w.heap.size 3)) (vW ((h.get 3).toNat)) (zo (hA2.cell (zaA 3 (by omega)))) ?_)
   refine zd 1 [(183,(vW ((x.get 3).toNat)))] (zb (zv (some 184) .u32 (IntKind.u32.wrap ((((h.get 3).toNat:Nat):Int)+(((x.get 3).toNat:Nat):Int))) (((h.get 3)+(x.get 3)).toNat) (zQ (h.get 3) (x.get 3)) ?_))
   refine zb (zj (some 185) (Instr.indexAt 150 (vP w.heap.size 0) (vI 4)) (vP w.heap.size 4) (zX (E:=28) (sz:=1) (m:=8) (by omega)) ?_)
   refine zb (zj (some 186) (Instr.loadAt 28 (vP w.heap.size 4)) (vW ((h.get 4).toNat)) (zo (hA2.cell (zaA 4 (by omega)))) ?_)
   refine zd 1 [(187,(vW ((x.get 4).toNat)))] (zb (zv (some 188) .u32 (IntKind.u32.wrap ((((h.get 4).toNat:Nat):Int)+(((x.get 4).toNat:Nat):Int))) (((h.get 4)+(x.get 4)).toNat) (zQ (h.get 4) (x.get 4)) ?_))
   refine zb (zj (some 189) (Instr.indexAt 150 (vP w.heap.size 0) (vI 5)) (vP w.heap.size 5) (zX (E:=28) (sz:=1) (m:=8) (by omega)) ?_)
   refine zb (zj (some 190) (Instr.loadAt 28 (vP w.heap.size 5)) (vW ((h.get 5).toNat)) (zo (hA2.cell (zaA 5 (by omega)))) ?_)
   refine zd 1 [(191,(vW ((x.get 5).toNat)))] (zb (zv (some 192) .u32 (IntKind.u32.wrap ((((h.get 5).toNat:Nat):Int)+(((x.get 5).toNat:Nat):Int))) (((h.get 5)+(x.get 5)).toNat) (zQ (h.get 5) (x.get 5)) ?_))
   refine zb (zj (some 193) (Instr.indexAt 150 (vP w.heap.size 0) (vI 6)) (vP w.heap.size 6) (zX (E:=28) (sz:=1) (m:=8) (by omega)) ?_)
   refine zb (zj (some 194) (Instr.loadAt 28 (vP w.heap.size 6)) (vW ((h.get 6).toNat)) (zo (hA2.cell (zaA 6 (by omega)))) ?_)
   refine zd 1 [(195,(vW ((x.get 6).toNat)))] (zb (zv (some 196) .u32 (IntKind.u32.wrap ((((h.get 6).toNat:Nat):Int)+(((x.get 6).toNat:Nat):Int))) (((h.get 6)+(x.get 6)).toNat) (zQ (h.get 6) (x.get 6)) ?_))
   refine zb (zj (some 197) (Instr.indexAt 150 (vP w.heap.size 0) (vI 7)) (vP w.heap.size 7) (zX (E:=28) (sz:=1) (m:=8) (by omega)) ?_)
   refine zb (zj (some 198) (Instr.loadAt 28 (vP w.heap.size 7)) (vW ((h.get 7).toNat)) (zo (hA2.cell (zaA 7 (by omega)))) ?_)
   refine zd 1 [(199,(vW ((x.get 7).toNat)))] (zb (zv (some 200) .u32 (IntKind.u32.wrap ((((h.get 7).toNat:Nat):Int)+(((x.get 7).toNat:Nat):Int))) (((h.get 7)+(x.get 7)).toNat) (zQ (h.get 7) (x.get 7)) ?_))
   refine zd 1 [(201,(vA (w8C ⟨[((h.get 0)+(x.get 0)),((h.get 1)+(x.get 1)),((h.get 2)+(x.get 2)),((h.get 3)+(x.get 3)),((h.get 4)+(x.get 4)),((h.get 5)+(x.get 5)),((h.get 6)+(x.get 6)),((h.get 7)+(x.get 7))],rfl⟩)))] (zb (zz 150 w1.heap.size 0 150 (vA (w8C ⟨[((h.get 0)+(x.get 0)),((h.get 1)+(x.get 1)),((h.get 2)+(x.get 2)),((h.get 3)+(x.get 3)),((h.get 4)+(x.get 4)),((h.get 5)+(x.get 5)),((h.get 6)+(x.get 6)),((h.get 7)+(x.get 7))],rfl⟩)) (w8C (WA.zero 8)) (w8C ⟨[((h.get 0)+(x.get 0)),((h.get 1)+(x.get 1)),((h.get 2)+(x.get 2)),((h.get 3)+(x.get 3)),((h.get 4)+(x.get 4)),((h.get 5)+(x.get 5)),((h.get 6)+(x.get 6)),((h.get 7)+(x.get 7))],rfl⟩) hZ42 (by rw [za8];kernel_rfl) (by first |(simp;done)|(simp;omega)) (zcV _) ?_))
   intro w27 hBw27 hCw27
   have hzw27:=hCw27.size
   rw [zm _ _ (by simp)] at hBw27
   refine zg (zc (zx (zbp (show zab Tryz.prog 202 _ _ (.cell 4 150) (vA (w8C ⟨[((h.get 0)+(x.get 0)),((h.get 1)+(x.get 1)),((h.get 2)+(x.get 2)),((h.get 3)+(x.get 3)),((h.get 4)+(x.get 4)),((h.get 5)+(x.get 5)),((h.get 6)+(x.get 6)),((h.get 7)+(x.get 7))],rfl⟩)) from ⟨⟨w1.heap.size,0,none⟩,(by kernel_rfl),zP (T:=150) (vs:=w8C ⟨[((h.get 0)+(x.get 0)),((h.get 1)+(x.get 1)),((h.get 2)+(x.get 2)),((h.get 3)+(x.get 3)),((h.get 4)+(x.get 4)),((h.get 5)+(x.get 5)),((h.get 6)+(x.get 6)),((h.get 7)+(x.get 7))],rfl⟩) (hBw27).all (by rw [za8];kernel_rfl)⟩) ?_)))
   obtain rfl:i=64:=by omega
   exact ⟨by rw [zmx,hx],(Ext.own hEm hCw27 (by omega))⟩
end Go.Proofs.YtgdpdnokcnhgnaaGreatDoor
namespace Go.Proofs.YtgdpdnokcnhgnaaGreatDoor
open Go Go.RowKit Go.Cs
set_option maxRecDepth 100000
theorem zrC (w:World) (hg1:Gl 2 (w8C za2) w):
  Calls Tryz.prog 101 #[] w (Ret fun r w'=>r=(vA (stC Sta.new))∧Ext w w'):=by
 refine zL (n:=3) (σ:= []) Tryz.func101 rfl ?_
 have hgl1:=hg1.lt
 refine zf (ze (zb (zt (some 0) (Instr.alloc 186 true (.tuple #[])) (vP w.heap.size 0) (stC Sta.zero) 186 ?_)))
 intro w1 hBw1 hEw1
 have hzw1:=hEw1.size;have hlw1:=hBw1.lt
 refine zg (zc (zf (ze (zb (zj (some 1) (Instr.loadAt 150 (vP 2 0)) (vA (w8C za2)) (zD (vs:=w8C za2) ((hg1.ext hEw1).all) (by rw [za8];kernel_rfl)) ?_)))))
 refine zb (zj (some 2) (Instr.build 186 #[(0,vT),(1,(vA (w8C za2)))]) (vA (stC Sta.new)) ((zjY za2).trans (congrArg (fun z:Sta=>Result.ok (Value.agg (stC z).toArray) _) (show (⟨true,za2,List.replicate 64 0,0,by simp,by decide⟩:Sta)=Sta.new from rfl))) ?_)
 refine zb (zz 186 w.heap.size 0 186 (vA (stC Sta.new)) (stC Sta.zero) (stC Sta.new) hBw1 (by rw [zby];kernel_rfl) (by first |(simp;done)|(simp;omega)) (zdD _) ?_)
 intro w2 hBw2 hCw2
 have hzw2:=hCw2.size
 rw [zm _ _ (by simp)] at hBw2
 exact zg (zc (zx (zbp (show zab Tryz.prog 3 _ _ (.cell 0 186) (vA (stC Sta.new)) from ⟨⟨w.heap.size,0,none⟩,(by kernel_rfl),zP (T:=186) (vs:=stC Sta.new) (hBw2).all (by rw [zby];kernel_rfl)⟩) (⟨rfl,(Ext.own hEw1 hCw2 (by omega))⟩))))
theorem zfs (s:Sta) {lo_b hi_b:Nat} {a_b:Option Addr} {n_b c_b:Nat} {b:List UInt8} (l:List UInt8) (w:World) (h_b:Bs lo_b hi_b w a_b n_b c_b b) (hp0:Sm s l) (hp1:l.length+n_b<2305843009213693952) (hg2:Gl 3 (zR kA) w):
  Calls Tryz.prog 102 #[(vA (stC s)),(.slice a_b n_b c_b)] w (Ret fun r w'=>∃(a0:Sta),r=(vA (stC a0))∧Sm a0 (l++b)∧Ext w w'):=by
 refine zL (n:=43) (σ:= [(0,(vA (stC s))),(1,(.slice a_b n_b c_b))]) Tryz.func102 rfl ?_
 replace h_b:=h_b.now;have hle_b:=h_b.le
 have hgl2:=hg2.lt
 refine zf (ze (zb (zt (some 2) (Instr.box 186 (vA (stC s))) (vP w.heap.size 0) (stC s) 186 ?_)))
 intro w1 hBw1 hEw1
 have hzw1:=hEw1.size;have hlw1:=hBw1.lt
 refine zb (zt (some 4) (Instr.alloc 186 true (.tuple #[])) (vP w1.heap.size 0) (stC Sta.zero) 186 ?_)
 intro w2 hBw2 hEw2
 have hzw2:=hEw2.size;have hlw2:=hBw2.lt
 refine zg (zc (zf (zf (ze (zd 1 [(7,(vP w.heap.size 0))] (zb (zj (some 8) (Instr.loadAt 4 (vP w.heap.size 0)) vT (zo ((hBw1.ext hEw2).cell (show (stC s)[0]? =some vT from congrArg (fun z=>some (Value.bool z)) hp0.bg))) ?_)))))))
 refine zd 1 [(9,vF)] (zg (zc (zr (zy (zc (zf (zI (zah (X:=Nat×Sta×Option Addr) (fun ⟨p,y,ad⟩=> [(1,(.slice ad (n_b-p) (c_b-p)))]) [5,6,11,12,13,14,15,16,17,18,19,20,21,22,23,24,25,26,27,28,29,30,31,32,33,34,35,36,37,38,39,40,41] (fun ⟨p,y,ad⟩ w3=>p≤n_b∧Sm y (l++b.take p)∧Bs lo_b w.heap.size w3 ad (n_b-p) (c_b-p) (b.drop p)∧Blk w3 w.heap.size (stC y) 186∧Blk w3 w1.heap.size (stC Sta.zero) 186∧Ext w w3) (fun ⟨p,y,ad⟩=>n_b-p) (0,s,a_b) (by kernel_rfl) ⟨by omega,by rw [List.take_zero,List.append_nil];exact hp0,by rw [List.drop_zero];exact (((h_b.ext hEw1)).ext hEw2),(hBw1.ext hEw2),hBw2,(hEw1.trans hEw2)⟩ ?_))))))))
 rintro ⟨p,y,ad⟩ dw3 w3 ⟨hp,hsm,hBs,hB2,hB4,hEl⟩
 have hzl:=hEl.size
 have hl2:=hB2.lt;have hl4:=hB4.lt
 have hlen:=h_b.len_eq
 have hle1:=hBs.le
 have hll:(l++b.take p).length=l.length+p:=by simp;omega
 have hmy:y.many=l.length+p:=hsm.many.trans hll
 refine zf (zf (ze (zd 2 [(12,(vI (n_b-p))),(11,(.slice ad (n_b-p) (c_b-p)))] (zb (zO (some 13) (decide (((n_b-p:Nat):Int)>((0:Nat):Int))) (fun hc13=> ?_) (fun hc13=> ?_))))))
 ·replace hc13:n_b-p>0:=by have:=zak hc13;omega
  refine zg (zc (zF (zy (zc (zI (zf (ze (zd 1 [(14,(vP w.heap.size 73))] (zb (zj (some 15) (Instr.loadAt 29 (vP w.heap.size 73)) (vQ y.many) (zo (hB2.cell (zgk _))) ?_))))))))))
  refine zb (zv (some 16) .u64 (((y.many:Nat):Int).tmod ((64:Nat):Int)) (y.many%64) (zcP _ _) ?_)
  refine zb (zv (some 17) .i64 (IntKind.i64.wrap ((y.many%64:Nat):Int)) (y.many%64) (zG rfl (by omega) (by omega)) ?_)
  refine zd 1 [(5,(vI (y.many%64)))] (zg (zc (zf (ze (zd 2 [(19,(vI (y.many%64))),(18,(vP w.heap.size 9))] (zb (zj (some 20) (Instr.sliceAt 184 (vP w.heap.size 9) (some (vI (y.many%64))) none none) (.slice (pA w.heap.size (9+(y.many%64)*1)) (64-(y.many%64)) (64-(y.many%64))) (zgx (len:=64) (E:=5) (sz:=1) (l:=y.many%64) (r:=64) (m:=64) (.inr ⟨_,rfl⟩) (.inl ⟨rfl,rfl⟩) (.inl ⟨rfl,rfl⟩) (by simp) (by omega) (by omega) (by omega) (by omega)) ?_)))))))
  refine zd 1 [(21,(.slice ad (n_b-p) (c_b-p)))] (zb (zgu (a:=(pA w.heap.size (9+(y.many%64)*1))) (dl:=64-(y.many%64)) (dc:=64-(y.many%64)) (some 22) 57 57 3 5 w.heap.size (9+y.many%64) hB2 (fun _=>by rw [Nat.mul_one]) (by simp;omega) hBs.es (fun _=>rfl) ?_))
  intro w4 hBw4 hCw4
  have hzw4:=hCw4.size
  rw [show zad (stC y) (9+y.many%64) (((b.drop p).take (min (n_b-p) (64-(y.many%64)))).map u8v)=stC (y.put (y.many%64) ((b.drop p).take (min (n_b-p) (64-(y.many%64)))) (by simp;omega)) from zqQ (by simp;omega)] at hBw4
  refine zd 1 [(6,(vI (min (n_b-p) (64-(y.many%64)))))] (zg (zc (zf (ze (zd 1 [(23,(vP w.heap.size 73))] (zb (zj (some 24) (Instr.loadAt 29 (vP w.heap.size 73)) (vQ ((y.put (y.many%64) ((b.drop p).take (min (n_b-p) (64-(y.many%64)))) (by simp;omega)).many)) (zo (hBw4.cell (zgk _))) ?_)))))))
  refine zd 1 [(25,(vI (min (n_b-p) (64-(y.many%64)))))] (zb (zv (some 26) .u64 (IntKind.u64.wrap ((min (n_b-p) (64-(y.many%64)):Nat):Int)) (min (n_b-p) (64-(y.many%64))) (zba rfl rfl (by show _<2^64;omega)) ?_))
  refine zb (zv (some 27) .u64 (IntKind.u64.wrap ((((y.put (y.many%64) ((b.drop p).take (min (n_b-p) (64-(y.many%64)))) (by simp;omega)).many:Nat):Int)+((min (n_b-p) (64-(y.many%64)):Nat):Int))) (y.many+min (n_b-p) (64-(y.many%64))) (zba rfl (by push_cast;rfl) (by show _<2^64;omega)) ?_)
  refine zd 1 [(28,(vP w.heap.size 73))] (zb (zV 29 w.heap.size 73 186 (vQ (y.many+min (n_b-p) (64-(y.many%64)))) (stC (y.put (y.many%64) ((b.drop p).take (min (n_b-p) (64-(y.many%64)))) (by simp;omega))) hBw4 (by first | decide |(simp;done)|(simp;omega)) ?_))
  intro w5 hBw5 hCw5
  have hzw5:=hCw5.size
  rw [show ((stC (y.put (y.many%64) ((b.drop p).take (min (n_b-p) (64-(y.many%64)))) (by simp;omega))).set 73 (vQ (y.many+min (n_b-p) (64-(y.many%64)))):List Value)=stC ((y.put (y.many%64) ((b.drop p).take (min (n_b-p) (64-(y.many%64)))) (by simp;omega)).setMany (y.many+min (n_b-p) (64-(y.many%64))) (by omega)) from zly (by omega)] at hBw5
  refine zg (zc (zf (ze (zd 2 [(30,(vI (min (n_b-p) (64-(y.many%64))))),(29,(.slice ad (n_b-p) (c_b-p)))] ?_))))
  obtain ⟨a1,hR1,hS1⟩:=((((hBs).chg hCw4 (fun k h1 h2 hs=>by have h:k=_:=hs;omega))).chg hCw5 (fun k h1 h2 hs=>by have h:k=_:=hs;omega)).slice Tryz.prog 57 5 (min (n_b-p) (64-(y.many%64))) (n_b-p) (c_b-p) (some (vI (min (n_b-p) (64-(y.many%64))))) none none
  refine zb (zj (some 31) (Instr.sliceAt 57 (.slice ad (n_b-p) (c_b-p)) (some (vI (min (n_b-p) (64-(y.many%64))))) none none) (.slice a1 (n_b-p-(min (n_b-p) (64-(y.many%64)))) (c_b-p-(min (n_b-p) (64-(y.many%64))))) (hR1 _) ?_)
  refine zd 1 [(1,(.slice a1 (n_b-p-(min (n_b-p) (64-(y.many%64)))) (c_b-p-(min (n_b-p) (64-(y.many%64))))))] (zg (zc (zf (ze (zd 2 [(33,(vI (min (n_b-p) (64-(y.many%64))))),(32,(vI (y.many%64)))] (zb (zv (some 34) .i64 (IntKind.i64.wrap (((y.many%64:Nat):Int)+((min (n_b-p) (64-(y.many%64)):Nat):Int))) (y.many%64+(min (n_b-p) (64-(y.many%64)))) (zG (by omega) (by omega) (by omega)) ?_)))))))
  refine zb (zO (some 35) ((((y.many%64+(min (n_b-p) (64-(y.many%64))):Nat):Int)==((64:Nat):Int))) (fun hc35=> ?_) (fun hc35=> ?_))
  ·replace hc35:y.many%64+(min (n_b-p) (64-(y.many%64)))=64:=by have:=zbL hc35;omega
   refine zg (zc (zF (ze (zd 1 [(36,(vP w.heap.size 1))] (zb (zj (some 37) (Instr.loadAt 150 (vP w.heap.size 1)) (vA (w8C ((y.put (y.many%64) ((b.drop p).take (min (n_b-p) (64-(y.many%64)))) (by simp;omega)).setMany (y.many+min (n_b-p) (64-(y.many%64))) (by omega)).h)) (zD (vs:=w8C ((y.put (y.many%64) ((b.drop p).take (min (n_b-p) (64-(y.many%64)))) (by simp;omega)).setMany (y.many+min (n_b-p) (64-(y.many%64))) (by omega)).h) (hBw5.at 1 (w8C ((y.put (y.many%64) ((b.drop p).take (min (n_b-p) (64-(y.many%64)))) (by simp;omega)).setMany (y.many+min (n_b-p) (64-(y.many%64))) (by omega)).h) (zov _)) (by rw [za8];kernel_rfl)) ?_))))))
   refine zd 1 [(38,(vP w.heap.size 9))] (zb (zj (some 39) (Instr.loadAt 184 (vP w.heap.size 9)) (vA (zcf ((y.put (y.many%64) ((b.drop p).take (min (n_b-p) (64-(y.many%64)))) (by simp;omega)).setMany (y.many+min (n_b-p) (64-(y.many%64))) (by omega)).rb)) (zD (vs:=zcf ((y.put (y.many%64) ((b.drop p).take (min (n_b-p) (64-(y.many%64)))) (by simp;omega)).setMany (y.many+min (n_b-p) (64-(y.many%64))) (by omega)).rb) (hBw5.at 9 (zcf ((y.put (y.many%64) ((b.drop p).take (min (n_b-p) (64-(y.many%64)))) (by simp;omega)).setMany (y.many+min (n_b-p) (64-(y.many%64))) (by omega)).rb) (zpQ _)) (by rw [zjr];kernel_rfl)) ?_))
   have hK1:=(((((hg2.ext hEl)).chg hCw4 (fun hs=>by have h:_=_:=hs;omega))).chg hCw5 (fun hs=>by have h:_=_:=hs;omega))
   refine zb (zi (some 40) (zpe (((y.put (y.many%64) ((b.drop p).take (min (n_b-p) (64-(y.many%64)))) (by simp;omega)).setMany (y.many+min (n_b-p) (64-(y.many%64))) (by omega)).h) (((y.put (y.many%64) ((b.drop p).take (min (n_b-p) (64-(y.many%64)))) (by simp;omega)).setMany (y.many+min (n_b-p) (64-(y.many%64))) (by omega)).rb) _ hK1) ?_)
   rintro _ w6 ⟨rfl,hEw6⟩
   have hzw6:=hEw6.size
   refine zd 1 [(41,(vP w.heap.size 1))] (zb (zz 150 w.heap.size 1 186 (vA (w8C (zdN (((y.put (y.many%64) ((b.drop p).take (min (n_b-p) (64-(y.many%64)))) (by simp;omega)).setMany (y.many+min (n_b-p) (64-(y.many%64))) (by omega)).h) (((y.put (y.many%64) ((b.drop p).take (min (n_b-p) (64-(y.many%64)))) (by simp;omega)).setMany (y.many+min (n_b-p) (64-(y.many%64))) (by omega)).rb).l))) (stC ((y.put (y.many%64) ((b.drop p).take (min (n_b-p) (64-(y.many%64)))) (by simp;omega)).setMany (y.many+min (n_b-p) (64-(y.many%64))) (by omega))) (w8C (zdN (((y.put (y.many%64) ((b.drop p).take (min (n_b-p) (64-(y.many%64)))) (by simp;omega)).setMany (y.many+min (n_b-p) (64-(y.many%64))) (by omega)).h) (((y.put (y.many%64) ((b.drop p).take (min (n_b-p) (64-(y.many%64)))) (by simp;omega)).setMany (y.many+min (n_b-p) (64-(y.many%64))) (by omega)).rb).l)) (hBw5.ext hEw6) (by rw [za8];kernel_rfl) (by first |(simp;done)|(simp;omega)) (zcV _) ?_))
   intro w7 hBw7 hCw7
   have hzw7:=hCw7.size
   rw [show (zad (stC ((y.put (y.many%64) ((b.drop p).take (min (n_b-p) (64-(y.many%64)))) (by simp;omega)).setMany (y.many+min (n_b-p) (64-(y.many%64))) (by omega))) 1 (w8C (zdN (((y.put (y.many%64) ((b.drop p).take (min (n_b-p) (64-(y.many%64)))) (by simp;omega)).setMany (y.many+min (n_b-p) (64-(y.many%64))) (by omega)).h) (((y.put (y.many%64) ((b.drop p).take (min (n_b-p) (64-(y.many%64)))) (by simp;omega)).setMany (y.many+min (n_b-p) (64-(y.many%64))) (by omega)).rb).l)):List Value)=stC (((y.put (y.many%64) ((b.drop p).take (min (n_b-p) (64-(y.many%64)))) (by simp;omega)).setMany (y.many+min (n_b-p) (64-(y.many%64))) (by omega)).setH (zdN (((y.put (y.many%64) ((b.drop p).take (min (n_b-p) (64-(y.many%64)))) (by simp;omega)).setMany (y.many+min (n_b-p) (64-(y.many%64))) (by omega)).h) (((y.put (y.many%64) ((b.drop p).take (min (n_b-p) (64-(y.many%64)))) (by simp;omega)).setMany (y.many+min (n_b-p) (64-(y.many%64))) (by omega)).rb).l)) from zk2] at hBw7
   refine zg (zp (zC ?_))
   rw [show n_b-p-(min (n_b-p) (64-(y.many%64)))=n_b-(p+min (n_b-p) (64-(y.many%64))) from by omega,show c_b-p-(min (n_b-p) (64-(y.many%64)))=c_b-(p+min (n_b-p) (64-(y.many%64))) from by omega]
   have hK2:=((((((((hB4).chg hCw4 (fun hs=>by have h:_=_:=hs;omega))).chg hCw5 (fun hs=>by have h:_=_:=hs;omega))).ext hEw6)).chg hCw7 (fun hs=>by have h:_=_:=hs;omega))
   have hX1:Ext w w7:=(Ext.own ((Ext.own (Ext.own hEl hCw4 (by omega)) hCw5 (by omega)).trans hEw6) hCw7 (by omega))
   refine zS (p+min (n_b-p) (64-(y.many%64)),(((y.put (y.many%64) ((b.drop p).take (min (n_b-p) (64-(y.many%64)))) (by simp;omega)).setMany (y.many+min (n_b-p) (64-(y.many%64))) (by omega)).setH (zdN (((y.put (y.many%64) ((b.drop p).take (min (n_b-p) (64-(y.many%64)))) (by simp;omega)).setMany (y.many+min (n_b-p) (64-(y.many%64))) (by omega)).h) (((y.put (y.many%64) ((b.drop p).take (min (n_b-p) (64-(y.many%64)))) (by simp;omega)).setMany (y.many+min (n_b-p) (64-(y.many%64))) (by omega)).rb).l)),a1) ?_ ?_
   ·exact ⟨by omega,by rw [List.take_add,←List.append_assoc];exact hsm.full (a:=y.many%64) (n:=min (n_b-p) (64-(y.many%64))) (by omega) (by simp;omega) (by omega) _ _,by have hz:=(((hS1.ext hEw6)).chg hCw7 (fun k h1 h2 hs=>by have h:k=_:=hs;omega));rw [show n_b-p-(min (n_b-p) (64-(y.many%64)))=n_b-(p+min (n_b-p) (64-(y.many%64))) from by omega,show c_b-p-(min (n_b-p) (64-(y.many%64)))=c_b-(p+min (n_b-p) (64-(y.many%64))) from by omega,List.take_of_length_le (by simp;omega),List.drop_drop] at hz;exact hz,hBw7,hK2,hX1⟩
   ·first | omega |(dsimp only;omega)
  ·replace hc35:¬(y.many%64+(min (n_b-p) (64-(y.many%64)))=64):=by have:=zbK hc35;omega
   refine zg (zc (zr (zy (zp (zC ?_)))))
   rw [show n_b-p-(min (n_b-p) (64-(y.many%64)))=n_b-(p+min (n_b-p) (64-(y.many%64))) from by omega,show c_b-p-(min (n_b-p) (64-(y.many%64)))=c_b-(p+min (n_b-p) (64-(y.many%64))) from by omega]
   refine zS (p+min (n_b-p) (64-(y.many%64)),((y.put (y.many%64) ((b.drop p).take (min (n_b-p) (64-(y.many%64)))) (by simp;omega)).setMany (y.many+min (n_b-p) (64-(y.many%64))) (by omega)),a1) ?_ ?_
   ·exact ⟨by omega,by rw [List.take_add,←List.append_assoc];exact hsm.part (a:=y.many%64) (n:=min (n_b-p) (64-(y.many%64))) (by omega) (by simp;omega) (by omega) _ _,by have hz:=hS1;rw [show n_b-p-(min (n_b-p) (64-(y.many%64)))=n_b-(p+min (n_b-p) (64-(y.many%64))) from by omega,show c_b-p-(min (n_b-p) (64-(y.many%64)))=c_b-(p+min (n_b-p) (64-(y.many%64))) from by omega,List.take_of_length_le (by simp;omega),List.drop_drop] at hz;exact hz,hBw5,((((hB4).chg hCw4 (fun hs=>by have h:_=_:=hs;omega))).chg hCw5 (fun hs=>by have h:_=_:=hs;omega)),(Ext.own (Ext.own hEl hCw4 (by omega)) hCw5 (by omega))⟩
   ·first | omega |(dsimp only;omega)
 ·replace hc13:¬(n_b-p>0):=by have:=zal hc13;omega
  refine zg (zc (zr (zaf (zH (zH (zT (zc (zf (ze ?_)))))))))
  refine zb (zj (some 42) (Instr.loadAt 186 (vP w.heap.size 0)) (vA (stC y)) (zD (vs:=stC y) (hB2.all) (by rw [zby];kernel_rfl)) ?_)
  refine zb (zz 186 w1.heap.size 0 186 (vA (stC y)) (stC Sta.zero) (stC y) hB4 (by rw [zby];kernel_rfl) (by first |(simp;done)|(simp;omega)) (zdD _) ?_)
  intro w8 hBw8 hCw8
  have hzw8:=hCw8.size
  rw [zm _ _ (by simp)] at hBw8
  refine zg (zc (zx (zbp (show zab Tryz.prog 43 _ _ (.cell 4 186) (vA (stC y)) from ⟨⟨w1.heap.size,0,none⟩,(by kernel_rfl),zP (T:=186) (vs:=stC y) (hBw8).all (by rw [zby];kernel_rfl)⟩) ?_)))
  obtain rfl:p=n_b:=by omega
  rw [List.take_of_length_le (by omega)] at hsm
  exact ⟨y,rfl,hsm,(Ext.own hEl hCw8 (by omega))⟩
end Go.Proofs.YtgdpdnokcnhgnaaGreatDoor
namespace Go.Proofs.YtgdpdnokcnhgnaaGreatDoor
open Go Go.RowKit Go.Cs
set_option maxRecDepth 100000
theorem zrr (s:Sta) (l:List UInt8) (w:World) (hp0:Sm s l) (hp1:l.length<1099511627776) (hg2:Gl 3 (zR kA) w):
  Calls Tryz.prog 103 #[(vA (stC s))] w (Ret fun r w'=>r=(vA (zw (zN l)))∧Ext w w'):=by
 refine zL (n:=37) (σ:= [(0,(vA (stC s)))]) Tryz.func103 rfl ?_
 have hgl2:=hg2.lt
 have hs0:s.many=l.length:=hp0.many
 refine zf (ze (zb (zt (some 1) (Instr.box 186 (vA (stC s))) (vP w.heap.size 0) (stC s) 186 ?_)))
 intro w1 hBw1 hEw1
 have hzw1:=hEw1.size;have hlw1:=hBw1.lt
 refine zb (zt (some 2) (Instr.alloc 23 true (.tuple #[])) (vP w1.heap.size 0) (zw Dig.zero) 23 ?_)
 intro w2 hBw2 hEw2
 have hzw2:=hEw2.size;have hlw2:=hBw2.lt
 refine zg (zc (zf (ze (zd 1 [(6,(vP w.heap.size 73))] (zb (zj (some 7) (Instr.loadAt 29 (vP w.heap.size 73)) (vQ s.many) (zo ((hBw1.ext hEw2).cell (zgk _))) ?_))))))
 refine zd 1 [(3,(vQ s.many))] (zg (zc (zf (ze (zb (zj (some 8) (Instr.loadAt 186 (vP w.heap.size 0)) (vA (stC s)) (zD (vs:=stC s) ((hBw1.ext hEw2).all) (by rw [zby];kernel_rfl)) ?_))))))
 refine zb (zt (some 9) (Instr.buildSlice 57 1 #[(0,(vB 128))]) (.slice (pA w2.heap.size 0) 1 1) [(vB 128)] 5 ?_)
 intro w3 hBw3 hEw3
 have hzw3:=hEw3.size;have hlw3:=hBw3.lt
 have hSw3:Bs w2.heap.size (w2.heap.size+1) w3 (pA w2.heap.size 0) 1 1 [128]:=Bs.of_blk hBw3 (by kernel_rfl) rfl (Nat.le_refl _) (by decide) (Nat.le_refl _) (Nat.lt_succ_self _)
 have hK1:=(((((hg2.ext hEw1)).ext hEw2)).ext hEw3)
 refine zb (zi (some 10) (zfs s l _ hSw3 (hp0) (by first | omega |(simp;omega)) hK1) ?_)
 rintro _ w4 ⟨a1,rfl,hFz1_0,hEw4⟩
 have hzw4:=hEw4.size
 have hK2:=(((((hBw1.ext hEw2)).ext hEw3)).ext hEw4)
 refine zb (zz 186 w.heap.size 0 186 (vA (stC a1)) (stC s) (stC a1) hK2 (by rw [zby];kernel_rfl) (by first |(simp;done)|(simp;omega)) (zdD _) ?_)
 have hK3:=(((((hBw1.ext hEw2)).ext hEw3)).ext hEw4)
 intro w5 hBw5 hCw5
 have hzw5:=hCw5.size
 rw [zm _ _ (by simp)] at hBw5
 refine zg (zc (zf (zI ?_)))
 have hK4:=(((((hBw2.ext hEw3)).ext hEw4)).chg hCw5 (fun hs=>by have h:_=_:=hs;omega))
 have hX1:Ext w w5:=(Ext.own (((hEw1.trans hEw2).trans hEw3).trans hEw4) hCw5 (by omega))
 refine zah (X:=Nat×Sta) (fun ⟨z,y⟩=> []) [11,12,13,14,15,16,17] (fun ⟨z,y⟩ w6=>z≤zci l.length∧Sm y (l++ [128]++List.replicate z 0)∧Blk w6 w.heap.size (stC y) 186∧Blk w6 w1.heap.size (zw Dig.zero) 23∧Ext w w6) (fun ⟨z,y⟩=>zci l.length-z) (0,a1) (by kernel_rfl) ⟨Nat.zero_le _,by rw [List.replicate_zero,List.append_nil];exact hFz1_0,hBw5,hK4,hX1⟩ ?_
 rintro ⟨z,y⟩ dw6 w6 ⟨hz,hsm,hB1,hB2,hEl⟩
 have hzl:=hEl.size
 have hl1:=hB1.lt;have hl2:=hB2.lt
 have hmy:y.many=l.length+1+z:=hsm.many.trans (by simp;omega)
 have hpz:zci l.length=(119-l.length%64)%64:=rfl
 refine zf (zf (ze (zd 1 [(11,(vP w.heap.size 73))] (zb (zj (some 12) (Instr.loadAt 29 (vP w.heap.size 73)) (vQ y.many) (zo (hB1.cell (zgk _))) ?_)))))
 refine zb (zv (some 13) .u64 (((y.many:Nat):Int).tmod ((64:Nat):Int)) (y.many%64) (zcP _ _) ?_)
 refine zb (zO (some 14) ((((y.many%64:Nat):Int) !=((56:Nat):Int))) (fun hc14=> ?_) (fun hc14=> ?_))
 ·replace hc14:¬(y.many%64=56):=by have:=zbY hc14;omega
  refine zg (zc (zF (zy (zc (zI (ze (zb (zj (some 15) (Instr.loadAt 186 (vP w.heap.size 0)) (vA (stC y)) (zD (vs:=stC y) (hB1.all) (by rw [zby];kernel_rfl)) ?_))))))))
  refine zb (zt (some 16) (Instr.buildSlice 57 1 #[(0,(vB 0))]) (.slice (pA w6.heap.size 0) 1 1) [(vB 0)] 5 ?_)
  intro w7 hBw7 hEw7
  have hzw7:=hEw7.size;have hlw7:=hBw7.lt
  have hSw7:Bs w6.heap.size (w6.heap.size+1) w7 (pA w6.heap.size 0) 1 1 [0]:=Bs.of_blk hBw7 (by kernel_rfl) rfl (Nat.le_refl _) (by decide) (Nat.le_refl _) (Nat.lt_succ_self _)
  refine zb (zi (some 17) (zfs y (l++ [128]++List.replicate z 0) _ hSw7 (hsm) (by first | omega |(simp;omega)) (((hg2.ext hEl)).ext hEw7)) ?_)
  rintro _ w8 ⟨a2,rfl,hFz2_0,hEw8⟩
  have hzw8:=hEw8.size
  refine zb (zz 186 w.heap.size 0 186 (vA (stC a2)) (stC y) (stC a2) (((hB1.ext hEw7)).ext hEw8) (by rw [zby];kernel_rfl) (by first |(simp;done)|(simp;omega)) (zdD _) ?_)
  intro w9 hBw9 hCw9
  have hzw9:=hCw9.size
  rw [zm _ _ (by simp)] at hBw9
  refine zg (zp (zC ?_))
  have hK5:=(((((hB2.ext hEw7)).ext hEw8)).chg hCw9 (fun hs=>by have h:_=_:=hs;omega))
  have hX2:Ext w w9:=(Ext.own ((hEl.trans hEw7).trans hEw8) hCw9 (by omega))
  refine zS (z+1,a2) ?_ ?_
  ·exact ⟨by omega,by have hz:=hFz2_0;rw [List.append_assoc] at hz;rw [List.replicate_succ'];exact hz,hBw9,hK5,hX2⟩
  ·first | omega |(dsimp only;omega)
 ·replace hc14:y.many%64=56:=by have:=zbX hc14;omega
  refine zg (zc (zr (zaf (zH (zH (zT (zc (zf (zag (Ext w6.drew) 6 [(19,2,0),(20,8,0),(21,524288,2),(22,1048576,4),(23,2359296,9),(0,4194306,31)] (fun hT96=> ?_))))))))))
  have hEw10:Ext w6 w6.drew:=Ext.drew w6
  generalize w6.drew=w10 at hEw10⊢
  have hzw10:=hEw10.size
  refine zh hT96 0 1 (some 18) (vA (stC y)) (zl (Instr.loadAt 186 (vP w.heap.size 0)) (fun w' hC=>zD (vs:=stC y) (((hB1.ext hEw10).ext hC).all) (by rw [zby];kernel_rfl))) (zk hT96 [(1,19,(vQ s.many))] 1 3 (zh hT96 2 7 (some 20) (vQ (8*l.length%2^64)) (zq .u64 (IntKind.u64.wrap (((8:Nat):Int)*((s.many:Nat):Int))) (by rw [hs0];exact zcp rfl (by simp))) (zn 3 15 (zi (some 21) (zik (8*l.length%2^64) _) ?_))))
  rintro _ w11 ⟨a3,rfl,hFz3_0,hEw11⟩
  have hzw11:=hEw11.size
  refine ⟨.inr hEw11, ?_⟩
  have hK6:=(((((hg2.ext hEl)).ext hEw10)).ext hEw11)
  refine zn 4 31 (zi (some 22) (zfs y (l++ [128]++List.replicate z 0) _ hFz3_0 (hsm) (by first | omega |(simp;omega)) hK6) ?_)
  rintro _ w12 ⟨a4,rfl,hFz4_0,hEw12⟩
  have hzw12:=hEw12.size
  have hX3:Ext w10 w12:=(hEw11.trans hEw12)
  refine ⟨.inr hX3, ?_⟩
  have hK7:=(((((hB1.ext hEw10)).ext hEw11)).ext hEw12)
  refine zn 5 63 (zz 186 w.heap.size 0 186 (vA (stC a4)) (stC y) (stC a4) hK7 (by rw [zby];kernel_rfl) (by first |(simp;done)|(simp;omega)) (zdD _) ?_)
  have hK8:=(((((hB1.ext hEw10)).ext hEw11)).ext hEw12)
  intro w13 hBw13 hCw13
  have hzw13:=hCw13.size
  rw [zm _ _ (by simp)] at hBw13
  refine ⟨.inl (by kernel_rfl), ?_⟩
  refine zJ (zc (zf (zf (ze (zd 1 [(23,(vP w.heap.size 1))] (zb (zj (some 24) (Instr.loadAt 150 (vP w.heap.size 1)) (vA (w8C a4.h)) (zD (vs:=w8C a4.h) (hBw13.at 1 (w8C a4.h) (zov _)) (by rw [za8];kernel_rfl)) ?_)))))))
  refine zd 1 [(25,(vI 0))] (zg (zc (zI ?_)))
  obtain rfl:z=zci l.length:=by omega
  have hfin:a4.h=zcz (zbl l) ((zbl l).length/64):=by exact (show Sm _ (zbl l) from hFz4_0).h
  generalize hH:a4.h=H at hfin⊢
  have hK9:=(((((((hB2.ext hEw10)).ext hEw11)).ext hEw12)).chg hCw13 (fun hs=>by have h:_=_:=hs;omega))
  have hX4:Ext w w13:=(Ext.own (((hEl.trans hEw10).trans hEw11).trans hEw12) hCw13 (by omega))
  refine zah (X:=Nat) (fun i=> [(25,(vI i))]) [4,5,26,27,28,29,30,31,32,33,34,35] (fun i w14=>i≤8∧Blk w14 w1.heap.size (u8s (dgP H i)) 23∧Ext w w14) (fun i=>8-i) 0 (by kernel_rfl) ⟨by omega,(zgQ H).symm▸hK9,hX4⟩ ?_
  rintro i dw14 w14 ⟨hi,hBd,hEm⟩
  have hzm:=hEm.size
  have hld:=hBd.lt
  have hdl:=zgr H hi
  refine zf (ze (zb (zO (some 26) (decide (((i:Nat):Int)<((8:Nat):Int))) (fun hc26=> ?_) (fun hc26=> ?_))))
  ·replace hc26:i<8:=by have:=zak hc26;omega
   refine zg (zc (zf (zF (zy (zc (zf (zI (zf (ze ?_)))))))))
   refine zd 1 [(27,(vI i))] (zb (zj (some 28) (Instr.index 150 (vA (w8C H)) (vI i)) (vW ((H.get i).toNat)) (zii (E:=28) (m:=8) (by omega) (zlM (by omega))) ?_))
   refine zd 2 [(5,(vW ((H.get i).toNat))),(4,(vI i))] (zg (zc (zag (Chg (fun k=>k=w1.heap.size) w14.drew) 6 [(30,16,0),(31,536870912,1),(32,1073741828,2),(33,32,0),(34,4294967296,8),(35,10737418240,20)] (fun hT160=> ?_))))
   have hEw15:Ext w14 w14.drew:=Ext.drew w14
   generalize w14.drew=w15 at hEw15⊢
   have hzw15:=hEw15.size
   have hX5:Chg (fun k=>k=w1.heap.size) w15 w15:=(Chg.refl (fun k=>k=w1.heap.size) w15)
   refine zk (hw:=hX5) hT160 [(0,29,(vI i))] 1 1 (zh (hw:=hX5) hT160 1 3 (some 30) (vI (4*i)) (zq .i64 (IntKind.i64.wrap (((4:Nat):Int)*((i:Nat):Int))) (zG (by omega) (by omega) (by omega))) (zh (hw:=hX5) hT160 2 7 (some 31) (.slice (pA w1.heap.size (0+(4*i)*1)) (32-(4*i)) (32-(4*i))) (zl (Instr.sliceAt 23 (vP w1.heap.size 0) (some (vI (4*i))) none none) (fun w' hC=>zgx (len:=32) (E:=5) (sz:=1) (l:=4*i) (r:=32) (m:=32) (.inr ⟨_,rfl⟩) (.inl ⟨rfl,rfl⟩) (.inl ⟨rfl,rfl⟩) (by simp) (by omega) (by omega) (by omega) (by omega))) (zk (hw:=hX5) hT160 [(3,32,(vW ((H.get i).toNat)))] 1 15 (zn 4 31 (zi (some 33) (zd6 ((H.get i).toNat) _ (UInt32.toNat_lt _)) ?_)))))
   rintro _ w16 ⟨a5,rfl,hFz5_0,hEw16⟩
   have hzw16:=hEw16.size
   have hX6:Chg (fun k=>k=w1.heap.size) w15 w16:=((Chg.refl (fun k=>k=w1.heap.size) w15).trans hEw16.chg)
   refine ⟨.inr hX6, ?_⟩
   refine zn 5 63 (zgu (a:=(pA w1.heap.size (0+(4*i)*1))) (dl:=32-(4*i)) (dc:=32-(4*i)) (some 34) 57 57 3 5 w1.heap.size (i*4) (((hBd.ext hEw15)).ext hEw16) (fun _=>by rw [Nat.zero_add,Nat.mul_one,Nat.mul_comm]) (by rw [zaK,hdl];omega) hFz5_0.es (fun _=>rfl) ?_)
   intro w17 hBw17 hCw17
   have hzw17:=hCw17.size
   rw [show zad (u8s (dgP H i)) (i*4) (((be ((H.get i).toNat) 4).take (min 4 (32-(4*i)))).map u8v)=u8s (dgP H (i+1)) from by rw [show min 4 (32-(4*i))=4 from by omega,List.take_of_length_le (by simp)];exact zi1 (by omega)] at hBw17
   have hX7:Chg (fun k=>k=w1.heap.size) w15 w17:=(Chg.then ((Chg.refl (fun k=>k=w1.heap.size) w15).trans hEw16.chg) hCw17 (fun k hk hs=>by have h:k=_:=hs;first | exact hs | exact .inl h | exact .inr h |(exfalso;omega)))
   refine ⟨.inr hX7, ?_⟩
   refine zJ (zp (zc (ze (zb (zv (some 35) .i64 (IntKind.i64.wrap (((i:Nat):Int)+((1:Nat):Int))) (i+1) (zG (by omega) (by omega) (by omega)) ?_)))))
   refine zd 1 [(25,(vI (i+1)))] (zg (zC ?_))
   have hX8:Ext w w17:=(Ext.own ((hEm.trans hEw15).trans hEw16) hCw17 (by omega))
   refine zS (i+1) ?_ ?_
   ·exact ⟨by omega,hBw17,hX8⟩
   ·first | omega |(dsimp only;omega)
  ·replace hc26:¬(i<8):=by have:=zal hc26;omega
   refine zg (zc (zf (zr (zaf (zH (zH (zT (zc (zf ?_)))))))))
   refine ze ?_
   obtain rfl:i=8:=by omega
   have hBe:Blk w14 w1.heap.size (zw (zN l)) 23:=by have hq:=hBd;rw [hfin,zh5] at hq;exact hq
   refine zb (zj (some 36) (Instr.loadAt 23 (vP w1.heap.size 0)) (vA (zw (zN l))) (zD (vs:=zw (zN l)) hBe.all (by rw [zac];kernel_rfl)) ?_)
   refine zb (zz 23 w1.heap.size 0 23 (vA (zw (zN l))) (zw (zN l)) (zw (zN l)) hBe (by rw [zac];kernel_rfl) (by first |(simp;done)|(simp;omega)) (zaT _) ?_)
   intro w18 hBw18 hCw18
   have hzw18:=hCw18.size
   rw [zm _ _ (by simp)] at hBw18
   exact zg (zc (zx (zbp (show zab Tryz.prog 37 _ _ (.cell 2 23) (vA (zw (zN l))) from ⟨⟨w1.heap.size,0,none⟩,(by kernel_rfl),zP (T:=23) (vs:=zw (zN l)) (hBw18).all (by rw [zac];kernel_rfl)⟩) (⟨rfl,(Ext.own hEm hCw18 (by omega))⟩))))
theorem zrX {lo_ls hi_ls:Nat} {a_ls:Option Addr} {n_ls c_ls:Nat} {v_ls:List Value} {ls:List (List UInt8)} (w:World) (h_ls:Ps lo_ls hi_ls w a_ls n_ls c_ls v_ls ls) (hp0:zU ls<1099511627776) (hg1:Gl 2 (w8C za2) w) (hg2:Gl 3 (zR kA) w):
  Calls Tryz.prog 73 #[(.slice a_ls n_ls c_ls)] w (Ret fun r w'=>r=(vA (zw (zN ls.flatten)))∧Ext w w'):=by
 refine zL (n:=19) (σ:= [(0,(.slice a_ls n_ls c_ls))]) Tryz.func73 rfl ?_
 replace h_ls:=h_ls.now;have hle_ls:=h_ls.le
 have hgl1:=hg1.lt
 have hgl2:=hg2.lt
 refine zf (ze (zb (zt (some 2) (Instr.alloc 23 true (.tuple #[])) (vP w.heap.size 0) (zw Dig.zero) 23 ?_)))
 intro w1 hBw1 hEw1
 have hzw1:=hEw1.size;have hlw1:=hBw1.lt
 refine zg (zc (zf (ze (zb (zi (some 6) (zrC _ (hg1.ext hEw1)) ?_)))))
 rintro _ w2 ⟨rfl,hEw2⟩
 have hzw2:=hEw2.size
 refine zb (zt (some 3) (Instr.alloc 186 true (.tuple #[])) (vP w2.heap.size 0) (stC Sta.zero) 186 ?_)
 intro w3 hBw3 hEw3
 have hzw3:=hEw3.size;have hlw3:=hBw3.lt
 refine zb (zz 186 w2.heap.size 0 186 (vA (stC Sta.new)) (stC Sta.zero) (stC Sta.new) hBw3 (by rw [zby];kernel_rfl) (by first |(simp;done)|(simp;omega)) (zdD _) ?_)
 intro w4 hBw4 hCw4
 have hzw4:=hCw4.size
 rw [zm _ _ (by simp)] at hBw4
 refine zg (zc (zf (zf (ze (zd 3 [(9,(vI 0)),(8,(vI n_ls)),(7,(.slice a_ls n_ls c_ls))] (zg (zc (zI ?_))))))))
 have hK1:=(((((hBw1.ext hEw2)).ext hEw3)).chg hCw4 (fun hs=>by have h:_=_:=hs;omega))
 have hX1:Ext w w4:=(Ext.own ((hEw1.trans hEw2).trans hEw3) hCw4 (by omega))
 refine zah (X:=Nat×Sta) (fun ⟨i,y⟩=> [(9,(vI i))]) [5,10,11,12,13,14,15,16] (fun ⟨i,y⟩ w5=>i≤n_ls∧Sm y (ls.take i).flatten∧Blk w5 w2.heap.size (stC y) 186∧Blk w5 w.heap.size (zw Dig.zero) 23∧Ext w w5) (fun ⟨i,y⟩=>n_ls-i) (0,Sta.new) (by kernel_rfl) ⟨by omega,Sm.new,hBw4,hK1,hX1⟩ ?_
 rintro ⟨i,y⟩ dw5 w5 ⟨hi,hsm,hB3,hB2,hEl⟩
 have hzl:=hEl.size
 have hl3:=hB3.lt;have hl2:=hB2.lt
 have hlen:=h_ls.len_eq
 have hsl:=zdE ls i
 have hsl1:=zdE ls (i+1)
 have hfl:=zde (ls.take i)
 refine zf (ze (zb (zO (some 10) (decide (((i:Nat):Int)<((n_ls:Nat):Int))) (fun hc10=> ?_) (fun hc10=> ?_))))
 ·replace hc10:i<n_ls:=by have:=zak hc10;omega
  refine zg (zc (zf (zF (zy (zc (zf (zI (zf (ze ?_)))))))))
  obtain ⟨b1,o1,rfl⟩:=h_ls.addr (by omega)
  refine zb (zj (some 11) (Instr.indexAt 183 (.slice (pA b1 o1) n_ls c_ls) (vI i)) (vP b1 (o1+i*1)) (zap (E:=57) (sz:=1) (by omega)) ?_)
  obtain ⟨a1,n1,cp1,hP1,hS1⟩:=((h_ls.ext hEl)).cell (i:=i) (by omega)
  have hlehS1:=hS1.le;have hlnhS1:=hS1.len_eq;have hsthS1:=zeb (ls:=ls) (i:=i) (by omega)
  refine zb (zj (some 12) (Instr.loadAt 57 (vP b1 (o1+i*1))) (.slice a1 n1 cp1) (zo hP1) ?_)
  refine zd 1 [(5,(.slice a1 n1 cp1))] (zg (zc (ze (zb (zj (some 13) (Instr.loadAt 186 (vP w2.heap.size 0)) (vA (stC y)) (zD (vs:=stC y) (hB3.all) (by rw [zby];kernel_rfl)) ?_)))))
  refine zd 1 [(14,(.slice a1 n1 cp1))] (zb (zi (some 15) (zfs y ((ls.take i).flatten) _ hS1 (hsm) (by first | omega | decide) (hg2.ext hEl)) ?_))
  rintro _ w6 ⟨a2,rfl,hFz2_0,hEw6⟩
  have hzw6:=hEw6.size
  refine zb (zz 186 w2.heap.size 0 186 (vA (stC a2)) (stC y) (stC a2) (hB3.ext hEw6) (by rw [zby];kernel_rfl) (by first |(simp;done)|(simp;omega)) (zdD _) ?_)
  intro w7 hBw7 hCw7
  have hzw7:=hCw7.size
  rw [zm _ _ (by simp)] at hBw7
  refine zg (zp (zc (ze (zb (zv (some 16) .i64 (IntKind.i64.wrap (((i:Nat):Int)+((1:Nat):Int))) (i+1) (zG (by omega) (by omega) (by omega)) ?_)))))
  refine zd 1 [(9,(vI (i+1)))] (zg (zC (zS (i+1,a2) ?_ ?_)))
  ·exact ⟨by omega,by rw [zgf (by omega)];exact hFz2_0,hBw7,(((hB2.ext hEw6)).chg hCw7 (fun hs=>by have h:_=_:=hs;omega)),(Ext.own (hEl.trans hEw6) hCw7 (by omega))⟩
  ·first | omega |(dsimp only;omega)
 ·replace hc10:¬(i<n_ls):=by have:=zal hc10;omega
  obtain rfl:i=n_ls:=by omega
  rw [List.take_of_length_le (by omega)] at hsm hfl
  refine zg (zc (zf (zr (zaf (zH (zH (zT (zc (zf ?_)))))))))
  refine ze (zb (zj (some 17) (Instr.loadAt 186 (vP w2.heap.size 0)) (vA (stC y)) (zD (vs:=stC y) (hB3.all) (by rw [zby];kernel_rfl)) ?_))
  refine zb (zi (some 18) (zrr y ls.flatten _ (hsm) (by first | omega | decide) (hg2.ext hEl)) ?_)
  rintro _ w8 ⟨rfl,hEw8⟩
  have hzw8:=hEw8.size
  refine zb (zz 23 w.heap.size 0 23 (vA (zw (zN ls.flatten))) (zw Dig.zero) (zw (zN ls.flatten)) (hB2.ext hEw8) (by rw [zac];kernel_rfl) (by first |(simp;done)|(simp;omega)) (zaT _) ?_)
  intro w9 hBw9 hCw9
  have hzw9:=hCw9.size
  rw [zm _ _ (by simp)] at hBw9
  exact zg (zc (zx (zbp (show zab Tryz.prog 19 _ _ (.cell 2 23) (vA (zw (zN ls.flatten))) from ⟨⟨w.heap.size,0,none⟩,(by kernel_rfl),zP (T:=23) (vs:=zw (zN ls.flatten)) (hBw9).all (by rw [zac];kernel_rfl)⟩) (⟨rfl,(Ext.own (hEl.trans hEw8) hCw9 (by omega))⟩))))
end Go.Proofs.YtgdpdnokcnhgnaaGreatDoor
namespace Go.Proofs.YtgdpdnokcnhgnaaGreatDoor
open Go Go.RowKit Go.Cs
set_option maxRecDepth 100000
theorem zrn {lo_b hi_b:Nat} {a_b:Option Addr} {n_b c_b:Nat} {b:List UInt8} (w:World) (h_b:Bs lo_b hi_b w a_b n_b c_b b) (hp0:n_b≤1099511627776):
  Calls Tryz.prog 60 #[(.slice a_b n_b c_b)] w (Ret fun r w'=>r=(vA (zw (zN b)))∧Ext w w'):=by
 refine zL (n:=69) (σ:= [(0,(.slice a_b n_b c_b))]) Tryz.func60 rfl ?_
 replace h_b:=h_b.now;have hle_b:=h_b.le
 refine zf (ze (zb (zt (some 2) (Instr.alloc 23 true (.tuple #[])) (vP w.heap.size 0) (zw Dig.zero) 23 ?_)))
 intro w1 hBw1 hEw1
 have hzw1:=hEw1.size;have hlw1:=hBw1.lt
 refine zg (zc (zf (ze (zb (zt (some 11) (Instr.buildSlice 57 0 #[]) (.slice (pA w1.heap.size 0) 0 0) [] 5 ?_)))))
 intro w2 hBw2 hEw2
 have hzw2:=hEw2.size;have hlw2:=hBw2.lt
 have hSw2:Bs w1.heap.size (w1.heap.size+1) w2 (pA w1.heap.size 0) 0 0 []:=Bs.of_blk hBw2 (by kernel_rfl) rfl (Nat.le_refl _) (by decide) (Nat.le_refl _) (Nat.lt_succ_self _)
 refine zd 1 [(12,(.slice a_b n_b c_b))] ?_
 have hO1:Cs.Own u8v w1.heap.size (w1.heap.size+1) w2 (pA w1.heap.size 0) 0 0 5 ([]):=Cs.Own.of_blk hBw2 (by simp) (by first | rfl | exact rfl) hSw2.len_eq (Nat.le_refl _) (by simp only [maxLen];omega) (Nat.le_refl _) (Nat.lt_succ_self _)
 refine zb (zbM (some 13) 57 57 5 1 (.int .u8 0) hO1 (((h_b.ext hEw1)).ext hEw2).es (fun _=>rfl) ?_)
 intro a1 c1 w3 hOw3 hCw3
 have hzw3:=hCw3.size
 have hSw3:=hOw3.bs
 refine zb (zt (some 14) (Instr.buildSlice 57 1 #[(0,(vB 128))]) (.slice (pA w3.heap.size 0) 1 1) [(vB 128)] 5 ?_)
 intro w4 hBw4 hEw4
 have hzw4:=hEw4.size;have hlw4:=hBw4.lt
 have hSw4:Bs w3.heap.size (w3.heap.size+1) w4 (pA w3.heap.size 0) 1 1 [128]:=Bs.of_blk hBw4 (by kernel_rfl) rfl (Nat.le_refl _) (by decide) (Nat.le_refl _) (Nat.lt_succ_self _)
 refine zb (zbM (some 15) 57 57 5 1 (.int .u8 0) (hOw3.ext hEw4) hSw4.es (fun _=>rfl) ?_)
 intro a2 c2 w5 hOw5 hCw5
 have hzw5:=hCw5.size
 have hSw5:=hOw5.bs
 refine zd 1 [(3,(.slice a2 (0+n_b+1) c2))] (zg (zc (zf (zI ?_))))
 have hK1:=(((((((hBw1.ext hEw2)).chg hCw3 (fun hs=>by have hn:=hO1.ne hs;omega))).ext hEw4)).chg hCw5 (fun hs=>by have hn:=(hOw3.ext hEw4).ne hs;omega))
 have hX1:Ext w1 w5:=(Ext.ownS ((Ext.ownS hEw2 hCw3 (fun k hs hk=>by have hn:=hO1.ne hs;omega)).trans hEw4) hCw5 (fun k hs hk=>by have hn:=(hOw3.ext hEw4).ne hs;omega))
 refine zah (X:=Nat×Option Addr×Nat) (fun ⟨z,p,cp⟩=> [(3,(.slice p (0+n_b+1+z) cp))]) [16,17,18,19,20,21,22] (fun ⟨z,p,cp⟩ w6=>z≤zci b.length∧Cs.Own u8v w1.heap.size w6.heap.size w6 p (0+n_b+1+z) cp 5 (b++ [128]++List.replicate z 0)∧Blk w6 w.heap.size (zw Dig.zero) 23∧Ext w1 w6) (fun ⟨z,p,cp⟩=>zci b.length-z) (0,a2,c2) (by kernel_rfl) ⟨Nat.zero_le _,by rw [List.replicate_zero,List.append_nil];exact (hOw5).mono (by omega) (Nat.le_refl _),hK1,hX1⟩ ?_
 rintro ⟨z,p,cp⟩ dw6 w6 ⟨hz,hO,hB2,hEl⟩
 have hzl:=hEl.size
 have hlen:=h_b.len_eq
 have hl2:=hB2.lt
 have hle:=hO.es.le
 have hpz:zci b.length=(119-b.length%64)%64:=rfl
 refine zf (zf (ze (zd 2 [(17,(vI (0+n_b+1+z))),(16,(.slice p (0+n_b+1+z) cp))] (zb (zv (some 18) .i64 (((0+n_b+1+z:Nat):Int).tmod ((64:Nat):Int)) ((0+n_b+1+z)%64) (zcP _ _) ?_)))))
 refine zb (zO (some 19) (((((0+n_b+1+z)%64:Nat):Int) !=((56:Nat):Int))) (fun hc19=> ?_) (fun hc19=> ?_))
 ·replace hc19:¬((0+n_b+1+z)%64=56):=by have:=zbY hc19;omega
  refine zg (zc (zF (zy (zc (zI (ze (zd 1 [(20,(.slice p (0+n_b+1+z) cp))] (zb (zt (some 21) (Instr.buildSlice 57 1 #[(0,(vB 0))]) (.slice (pA w6.heap.size 0) 1 1) [(vB 0)] 5 ?_)))))))))
  intro w7 hBw7 hEw7
  have hzw7:=hEw7.size;have hlw7:=hBw7.lt
  have hSw7:Bs w6.heap.size (w6.heap.size+1) w7 (pA w6.heap.size 0) 1 1 [0]:=Bs.of_blk hBw7 (by kernel_rfl) rfl (Nat.le_refl _) (by decide) (Nat.le_refl _) (Nat.lt_succ_self _)
  refine zb (zbM (some 22) 57 57 5 1 (.int .u8 0) (hO.ext hEw7) hSw7.es (fun _=>rfl) ?_)
  intro a3 c3 w8 hOw8 hCw8
  have hzw8:=hCw8.size
  have hSw8:=hOw8.bs
  refine zd 1 [(3,(.slice a3 (0+n_b+1+z+1) c3))] (zg (zp (zC (zS (z+1,a3,c3) ?_ ?_))))
  ·exact ⟨by omega,by have hz:=hOw8;rw [List.append_assoc] at hz;rw [List.replicate_succ'];exact hz,(((hB2.ext hEw7)).chg hCw8 (fun hs=>by have hn:=(hO.ext hEw7).ne hs;omega)),(Ext.ownS (hEl.trans hEw7) hCw8 (fun k hs hk=>by have hn:=(hO.ext hEw7).ne hs;omega))⟩
  ·first | omega |(dsimp only;omega)
 ·replace hc19:(0+n_b+1+z)%64=56:=by have:=zbX hc19;omega
  refine zg (zc (zr (zaf (zH (zH (zT (zc (zf (ze ?_)))))))))
  refine zd 3 [(25,(vI n_b)),(24,(.slice a_b n_b c_b)),(23,(.slice p (0+n_b+1+z) cp))] (zb (zv (some 26) .u64 (IntKind.u64.wrap ((n_b:Nat):Int)) n_b (zba rfl rfl (by show _<2^64;omega)) ?_))
  refine zb (zv (some 27) .u64 (IntKind.u64.wrap (((8:Nat):Int)*((n_b:Nat):Int))) ((8*n_b)%2^64) (zcp rfl (by simp)) ?_)
  refine zb (zi (some 28) (zi6 ((8*n_b)%2^64) _ (Nat.mod_lt _ (by decide))) ?_)
  rintro _ w9 ⟨a4,rfl,hFz1_0,hFz1_1,hFz1_2,hFz1_3,hEw9⟩
  have hzw9:=hEw9.size
  have hla4:=hFz1_1.lt;have hna4:=hFz1_3
  have hSa4:Bs a4 (a4+1) w9 (pA a4 0) 8 8 (be ((8*n_b)%2^64) 8):=Bs.of_blk hFz1_1 rfl hFz1_2 (Nat.le_refl _) (zbV hna4) (Nat.le_refl _) (Nat.lt_succ_self _)
  refine zb (zbM (some 29) 57 57 5 1 (.int .u8 0) (hO.ext hEw9) hSa4.es (fun _=>rfl) ?_)
  intro a5 c4 w10 hOw10 hCw10
  have hzw10:=hCw10.size
  have hSw10:=hOw10.bs
  refine zd 1 [(3,(.slice a5 (0+n_b+1+z+8) c4))] (zg (zc (zf (ze (zb (zi (some 31) (zi4 _) ?_))))))
  rintro _ w11 ⟨rfl,hEw11⟩
  have hzw11:=hEw11.size
  refine zd 3 [(33,(vA (w8C za2))),(32,(vA (zR kA))),(30,(.tuple #[(vA (zR kA)),(vA (w8C za2))]))] (zb (zt (some 4) (Instr.alloc 149 true (.tuple #[])) (vP w11.heap.size 0) (zR (WA.zero 64)) 149 ?_))
  intro w12 hBw12 hEw12
  have hzw12:=hEw12.size;have hlw12:=hBw12.lt
  refine zb (zt (some 5) (Instr.alloc 150 true (.tuple #[])) (vP w12.heap.size 0) (w8C (WA.zero 8)) 150 ?_)
  intro w13 hBw13 hEw13
  have hzw13:=hEw13.size;have hlw13:=hBw13.lt
  refine zb (zz 149 w11.heap.size 0 149 (vA (zR kA)) (zR (WA.zero 64)) (zR kA) (hBw12.ext hEw13) (by rw [zcL];kernel_rfl) (by first |(simp;done)|(simp;omega)) (zeQ _) ?_)
  intro w14 hBw14 hCw14
  have hzw14:=hCw14.size
  rw [zm _ _ (by simp)] at hBw14
  refine zb (zz 150 w12.heap.size 0 150 (vA (w8C za2)) (w8C (WA.zero 8)) (w8C za2) ((hBw13).chg hCw14 (fun hs=>by have h:_=_:=hs;omega)) (by rw [za8];kernel_rfl) (by first |(simp;done)|(simp;omega)) (zcV _) ?_)
  intro w15 hBw15 hCw15
  have hzw15:=hCw15.size
  rw [zm _ _ (by simp)] at hBw15
  refine zg (zc (zf (zf (ze (zd 1 [(6,(vI 0))] (zg (zc (zI ?_))))))))
  obtain rfl:z=zci b.length:=by omega
  have hK2:=(((((((((hSw10.ext hEw11)).ext hEw12)).ext hEw13)).chg hCw14 (fun k h1 h2 hs=>by have h:k=_:=hs;omega))).chg hCw15 (fun k h1 h2 hs=>by have h:k=_:=hs;omega))
  have hSp:Bs w1.heap.size w10.heap.size w15 a5 (0+n_b+1+(zci b.length)+8) c4 (zbl b):=by have hq:=hK2;rw [zoL hlen rfl] at hq;exact hq
  have hpl:(zbl b).length=0+n_b+1+(zci b.length)+8:=hSp.len_eq.symm
  have hp64:=znV b
  have hK3:=(((((((((((((hB2.ext hEw9)).chg hCw10 (fun hs=>by have hn:=(hO.ext hEw9).ne hs;omega))).ext hEw11)).ext hEw12)).ext hEw13)).chg hCw14 (fun hs=>by have h:_=_:=hs;omega))).chg hCw15 (fun hs=>by have h:_=_:=hs;omega))
  have hX2:Ext w1 w15:=(Ext.own (Ext.own ((((Ext.ownS (hEl.trans hEw9) hCw10 (fun k hs hk=>by have hn:=(hO.ext hEw9).ne hs;omega)).trans hEw11).trans hEw12).trans hEw13) hCw14 (by omega)) hCw15 (by omega))
  refine zah (X:=Nat) (fun k=> [(6,(vI (64*k)))]) [34,35,36,37,38,39,40,41,42,43,44,45,46] (fun k w16=>k≤(zbl b).length/64∧Bs w1.heap.size w10.heap.size w16 a5 (0+n_b+1+(zci b.length)+8) c4 (zbl b)∧Blk w16 w12.heap.size (w8C (zcz (zbl b) k)) 150∧Blk w16 w.heap.size (zw Dig.zero) 23∧Ext w1 w16) (fun k=>(zbl b).length/64-k) 0 (by kernel_rfl) ⟨Nat.zero_le _,hSp,hBw15,hK3,hX2⟩ ?_
  rintro k dw16 w16 ⟨hk,hSk,hB5,hB2b,hEm⟩
  have hzm:=hEm.size
  have hl5:=hB5.lt;have hl2b:=hB2b.lt
  have hlk:=hSk.le
  refine zf (zf (ze (zd 3 [(36,(vI (0+n_b+1+(zci b.length)+8))),(35,(.slice a5 (0+n_b+1+(zci b.length)+8) c4)),(34,(vI (64*k)))] (zb (zO (some 37) (decide (((64*k:Nat):Int)<((0+n_b+1+(zci b.length)+8:Nat):Int))) (fun hc37=> ?_) (fun hc37=> ?_))))))
  ·replace hc37:64*k<0+n_b+1+(zci b.length)+8:=by have:=zak hc37;omega
   refine zg (zc (zF (zy (zc (zf (zI (zag (Ext w16.drew) 8 [(41,32,0),(42,8,0),(43,64,0),(44,64,0),(45,8796093022208,8),(46,24189255811072,22),(47,36283883716608,33),(0,70368744177696,127)] (fun hT155=> ?_))))))))
   have hEw17:Ext w16 w16.drew:=Ext.drew w16
   generalize w16.drew=w17 at hEw17⊢
   have hzw17:=hEw17.size
   refine zh hT155 0 1 (some 40) (vA (w8C (zcz (zbl b) k))) (zl (Instr.loadAt 150 (vP w12.heap.size 0)) (fun w' hC=>zD (vs:=w8C (zcz (zbl b) k)) (((hB5.ext hEw17).ext hC).all) (by rw [za8];kernel_rfl))) (zk hT155 [(1,41,(.slice a5 (0+n_b+1+(zci b.length)+8) c4)),(2,42,(vI (64*k))),(3,43,(vI (64*k)))] 3 15 (zh hT155 4 31 (some 44) (vI (64*k+64)) (zq .i64 (IntKind.i64.wrap (((64*k:Nat):Int)+((64:Nat):Int))) (zG (by omega) (by omega) (by omega))) ?_))
   obtain ⟨a6,hR1,hS1⟩:=(hSk.ext hEw17).slice Tryz.prog 57 5 (64*k) (64*k+64) c4 (some (vI (64*k))) (some (vI (64*k+64))) none
   refine zh hT155 5 63 (some 45) (.slice a6 (64*k+64-(64*k)) (c4-(64*k))) (zl (Instr.sliceAt 57 (.slice a5 (0+n_b+1+(zci b.length)+8) c4) (some (vI (64*k))) (some (vI (64*k+64))) none) (fun w' hC=>hR1 _)) (zn 6 127 (zi (some 46) (zpl (zcz (zbl b) k) _ hS1 (by first | omega | decide)) ?_))
   rintro _ w18 ⟨rfl,hEw18⟩
   have hzw18:=hEw18.size
   refine ⟨.inr hEw18, ?_⟩
   refine zn 7 255 (zz 150 w12.heap.size 0 150 (vA (w8C (zdN (zcz (zbl b) k) (((zbl b).drop (64*k)).take (64*k+64-(64*k)))))) (w8C (zcz (zbl b) k)) (w8C (zdN (zcz (zbl b) k) (((zbl b).drop (64*k)).take (64*k+64-(64*k))))) (((hB5.ext hEw17)).ext hEw18) (by rw [za8];kernel_rfl) (by first |(simp;done)|(simp;omega)) (zcV _) ?_)
   intro w19 hBw19 hCw19
   have hzw19:=hCw19.size
   rw [zm _ _ (by simp)] at hBw19
   refine ⟨.inl (by kernel_rfl), ?_⟩
   refine zJ (zp (zc (ze (zd 1 [(38,(vI (64*k)))] (zb (zv (some 39) .i64 (IntKind.i64.wrap (((64*k:Nat):Int)+((64:Nat):Int))) (64*k+64) (zG (by omega) (by omega) (by omega)) ?_))))))
   refine zd 1 [(6,(vI (64*k+64)))] (zg (zC ?_))
   have hK4:=(((((hSk.ext hEw17)).ext hEw18)).chg hCw19 (fun k h1 h2 hs=>by have h:k=_:=hs;omega))
   have hK5:=(((((hB2b.ext hEw17)).ext hEw18)).chg hCw19 (fun hs=>by have h:_=_:=hs;omega))
   have hX3:Ext w1 w19:=(Ext.own ((hEm.trans hEw17).trans hEw18) hCw19 (by omega))
   refine zS (k+1) ?_ ?_
   ·exact ⟨by omega,hK4,by have hz:=hBw19;rw [show 64*k+64-(64*k)=64 from by omega] at hz;exact hz,hK5,hX3⟩
   ·first | omega |(dsimp only;omega)
  ·replace hc37:¬(64*k<0+n_b+1+(zci b.length)+8):=by have:=zal hc37;omega
   refine zg (zc (zr (zaf (zH (zH (zT (zc (zf (ze ?_)))))))))
   refine zb (zt (some 7) (Instr.alloc 23 true (.tuple #[])) (vP w16.heap.size 0) (zw Dig.zero) 23 ?_)
   intro w20 hBw20 hEw20
   have hzw20:=hEw20.size;have hlw20:=hBw20.lt
   refine zg (zc (zf (zf (ze (zd 1 [(8,(vI 0))] (zg (zc (zI ?_))))))))
   obtain rfl:k=(zbl b).length/64:=by omega
   obtain ⟨H,hH⟩:∃H,H=zcz (zbl b) ((zbl b).length/64):=⟨_,rfl⟩
   have hBH:Blk w20 w12.heap.size (w8C H) 150:=by rw [hH];exact (hB5.ext hEw20)
   refine zah (X:=Nat) (fun i=> [(8,(vI i))]) [9,10,47,48,49,50,51,52,53,54,55,56,57,58,59,60,61,62,63,64,65,66,67] (fun i w21=>i≤8∧Blk w21 w12.heap.size (w8C H) 150∧Blk w21 w16.heap.size (u8s (dgP H i)) 23∧Blk w21 w.heap.size (zw Dig.zero) 23∧Ext w1 w21) (fun i=>8-i) 0 (by kernel_rfl) ⟨by omega,hBH,(zgQ H).symm▸hBw20,(hB2b.ext hEw20),(hEm.trans hEw20)⟩ ?_
   rintro i dw21 w21 ⟨hi,hBh,hBd,hB2c,hEn⟩
   have hzn:=hEn.size
   have hlh:=hBh.lt;have hld:=hBd.lt;have hl2c:=hB2c.lt
   have hdl:=zgr H hi
   refine zf (zf (ze (zd 1 [(47,(vI i))] (zb (zO (some 48) (decide (((i:Nat):Int)<((8:Nat):Int))) (fun hc48=> ?_) (fun hc48=> ?_))))))
   ·replace hc48:i<8:=by have:=zak hc48;omega
    refine zg (zc (zF (zy (zc (zf (zI (zf (ze (zd 1 [(51,(vI i))] ?_)))))))))
    refine zb (zj (some 52) (Instr.indexAt 150 (vP w12.heap.size 0) (vI i)) (vP w12.heap.size (0+i*1)) (zX (E:=28) (sz:=1) (m:=8) (by omega)) ?_)
    refine zb (zj (some 53) (Instr.loadAt 28 (vP w12.heap.size (0+i*1))) (vW ((H.get i).toNat)) (zo (hBh.cell (zaA i (by omega)))) ?_)
    refine zb (zi (some 54) (zjl ((H.get i).toNat) _ (UInt32.toNat_lt _)) ?_)
    rintro _ w22 ⟨a7,rfl,hFz4_0,hFz4_1,hFz4_2,hFz4_3,hEw22⟩
    have hzw22:=hEw22.size
    have hla7:=hFz4_1.lt;have hna7:=hFz4_3
    have hSa7:Bs a7 (a7+1) w22 (pA a7 0) 4 4 (be ((H.get i).toNat) 4):=Bs.of_blk hFz4_1 rfl hFz4_2 (Nat.le_refl _) (zbV hna7) (Nat.le_refl _) (Nat.lt_succ_self _)
    refine zd 1 [(9,(.slice (pA a7 0) 4 4))] (zg (zc (zf (ze (zd 1 [(10,(vI 0))] (zg (zc (zI (zah (X:=Nat) (fun j=> [(10,(vI j))]) [55,56,57,58,59,60,61,62,63,64,65,66,67] (fun j w23=>j≤4∧Blk w23 w16.heap.size (u8s (dgQ H i j)) 23∧Chg (fun q=>q=w16.heap.size) w22 w23) (fun j=>4-j) 0 (by kernel_rfl) ⟨by omega,by rw [znT];exact (hBd.ext hEw22),Chg.refl _ _⟩ ?_)))))))))
    rintro j dw23 w23 ⟨hj,hBq,hCj⟩
    have hzj:=hCj.size
    refine zf (zf (ze (zd 1 [(55,(vI j))] (zb (zO (some 56) (decide (((j:Nat):Int)<((4:Nat):Int))) (fun hc56=> ?_) (fun hc56=> ?_))))))
    ·replace hc56:j<4:=by have:=zak hc56;omega
     refine zg (zc (zF (zy (zc (zf (zI (ze (zd 1 [(59,(vI i))] (zb (zv (some 60) .i64 (IntKind.i64.wrap (((4:Nat):Int)*((i:Nat):Int))) (4*i) (zG (by omega) (by omega) (by omega)) ?_))))))))))
     refine zd 1 [(61,(vI j))] (zb (zv (some 62) .i64 (IntKind.i64.wrap (((4*i:Nat):Int)+((j:Nat):Int))) (4*i+j) (zG (by omega) (by omega) (by omega)) ?_))
     refine zd 2 [(64,(vI j)),(63,(.slice (pA a7 0) 4 4))] (zb (zj (some 65) (Instr.indexAt 57 (.slice (pA a7 0) 4 4) (vI j)) (vP a7 (0+j*1)) (zap (E:=5) (sz:=1) (by omega)) ?_))
     refine zb (zj (some 66) (Instr.loadAt 5 (vP a7 (0+j*1))) (vB (byt (be ((H.get i).toNat) 4) j)) (zo (((hSa7).chg hCj (fun k h1 h2 hs=>by have h:k=_:=hs;omega)).cell1 (by omega))) ?_)
     refine zb (zj (some 67) (Instr.indexAt 23 (vP w16.heap.size 0) (vI (4*i+j))) (vP w16.heap.size (0+(4*i+j)*1)) (zX (E:=5) (sz:=1) (m:=32) (by omega)) ?_)
     refine zb (zV 5 w16.heap.size (0+(4*i+j)*1) 23 (vB (byt (be ((H.get i).toNat) 4) j)) (u8s (dgQ H i j)) hBq (by rw [zaK,zpU H (by omega) (by omega)];omega) ?_)
     intro w24 hBw24 hCw24
     have hzw24:=hCw24.size
     rw [show ((u8s (dgQ H i j)).set (0+(4*i+j)*1) (vB (byt (be ((H.get i).toNat) 4) j)):List Value)=u8s (dgQ H i (j+1)) from zoV (by omega) (by omega)] at hBw24
     refine zg (zp (zc (ze (zd 1 [(57,(vI j))] (zb (zv (some 58) .i64 (IntKind.i64.wrap (((j:Nat):Int)+((1:Nat):Int))) (j+1) (zG (by omega) (by omega) (by omega)) ?_))))))
     refine zd 1 [(10,(vI (j+1)))] (zg (zC (zS (j+1) ?_ ?_)))
     ·exact ⟨by omega,hBw24,(Chg.then (Chg.then (Chg.refl (fun q=>q=w16.heap.size) w22) hCj (fun k hk hs=>by have h:k=_:=hs;first | exact hs | exact .inl h | exact .inr h |(exfalso;omega))) hCw24 (fun k hk hs=>by have h:k=_:=hs;first | exact hs | exact .inl h | exact .inr h |(exfalso;omega)))⟩
     ·first | omega |(dsimp only;omega)
    ·replace hc56:¬(j<4):=by have:=zal hc56;omega
     refine zg (zc (zr (zaf (zH (zH (zT (zp (zc (ze ?_)))))))))
     refine zd 1 [(49,(vI i))] (zb (zv (some 50) .i64 (IntKind.i64.wrap (((i:Nat):Int)+((1:Nat):Int))) (i+1) (zG (by omega) (by omega) (by omega)) ?_))
     refine zd 1 [(8,(vI (i+1)))] (zg (zC (zS (i+1) ?_ ?_)))
     ·exact ⟨by omega,(((hBh.ext hEw22)).chg hCj (fun hs=>by have h:_=_:=hs;omega)),by have hz:=hBq;rw [show j=4 from by omega,zor] at hz;exact hz,(((hB2c.ext hEw22)).chg hCj (fun hs=>by have h:_=_:=hs;omega)),(Ext.own (hEn.trans hEw22) hCj (by omega))⟩
     ·first | omega |(dsimp only;omega)
   ·replace hc48:¬(i<8):=by have:=zal hc48;omega
    refine zg (zc (zr (zaf (zH (zH (zT (zc (zf (ze ?_)))))))))
    obtain rfl:i=8:=by omega
    have hBe:Blk w21 w16.heap.size (zw (zN b)) 23:=by have hq:=hBd;rw [hH,zh5] at hq;exact hq
    refine zb (zj (some 68) (Instr.loadAt 23 (vP w16.heap.size 0)) (vA (zw (zN b))) (zD (vs:=zw (zN b)) hBe.all (by rw [zac];kernel_rfl)) ?_)
    refine zb (zz 23 w.heap.size 0 23 (vA (zw (zN b))) (zw Dig.zero) (zw (zN b)) hB2c (by rw [zac];kernel_rfl) (by first |(simp;done)|(simp;omega)) (zaT _) ?_)
    intro w25 hBw25 hCw25
    have hzw25:=hCw25.size
    rw [zm _ _ (by simp)] at hBw25
    exact zg (zc (zx (zbp (show zab Tryz.prog 69 _ _ (.cell 2 23) (vA (zw (zN b))) from ⟨⟨w.heap.size,0,none⟩,(by kernel_rfl),zP (T:=23) (vs:=zw (zN b)) (hBw25).all (by rw [zac];kernel_rfl)⟩) (⟨rfl,(Ext.own (hEw1.trans hEn) hCw25 (by omega))⟩))))
end Go.Proofs.YtgdpdnokcnhgnaaGreatDoor
namespace Go.Proofs.YtgdpdnokcnhgnaaGreatDoor
open Go Go.RowKit Go.Cs
set_option maxRecDepth 100000
theorem zdA (x:Nod) (w:World) (hp0:zar x=0) (hg0:Gl 0 [vI 45,vI 33] w) (hg1:Gl 2 (w8C za2) w) (hg2:Gl 3 (zR kA) w):
  Calls Tryz.prog 53 #[(vA (zK x))] w (Ret fun r w'=>r=(.tuple #[(vA (zw (zN (zM x)))),(vI 0)])∧Ext w w'):=by
 refine zL (n:=18) (σ:= [(0,(vA (zK x)))]) Tryz.func53 rfl ?_
 have hgl0:=hg0.lt
 have hgl1:=hg1.lt
 have hgl2:=hg2.lt
 refine zf (ze (zb (zt (some 1) (Instr.box 47 (vA (zK x))) (vP w.heap.size 0) (zK x) 47 ?_)))
 intro w1 hBw1 hEw1
 have hzw1:=hEw1.size;have hlw1:=hBw1.lt
 refine zb (zt (some 2) (Instr.alloc 23 true (.tuple #[])) (vP w1.heap.size 0) (zw Dig.zero) 23 ?_)
 intro w2 hBw2 hEw2
 have hzw2:=hEw2.size;have hlw2:=hBw2.lt
 refine zd 1 [(3,(vI 0))] (zg (zc (zf (ze (zb (zj (some 7) (Instr.loadAt 47 (vP w.heap.size 0)) (vA (zK x)) (zD (vs:=zK x) ((hBw1.ext hEw2).all) (by rw [zW];kernel_rfl)) ?_))))))
 refine zb (zi (some 8) (zra x _ (by assumption) (((hg0.ext hEw1)).ext hEw2)) ?_)
 rintro _ w3 ⟨a1,rfl,hFz1_0,hFz1_1,hFz1_2,hFz1_3,hEw3⟩
 have hzw3:=hEw3.size
 have hla1:=hFz1_1.lt;have hna1:=hFz1_3
 have hSa1:Bs a1 (a1+1) w3 (pA a1 0) (zbx x) (zbx x) (zM x):=Bs.of_blk hFz1_1 rfl hFz1_2 (Nat.le_refl _) (zbV hna1) (Nat.le_refl _) (Nat.lt_succ_self _)
 refine zd 5 [(5,(vI 0)),(4,(.slice (pA a1 0) (zbx x) (zbx x))),(10,(vI 0)),(9,(.slice (pA a1 0) (zbx x) (zbx x))),(6,(.tuple #[(.slice (pA a1 0) (zbx x) (zbx x)),(vI 0)]))] (zg (zc (zf (zf (ze (zd 1 [(11,(vI 0))] (zb (zat (some 12) (((0:Nat):Int) !=((0:Nat):Int)) false (zaL (by omega)) ?_))))))))
 refine zg (zc (zr (zy (zc (zf (ze (zd 1 [(15,(.slice (pA a1 0) (zbx x) (zbx x)))] (zb (zt (some 16) (Instr.buildSlice 183 1 #[(0,(.slice (pA a1 0) (zbx x) (zbx x)))]) (.slice (pA w3.heap.size 0) 1 1) [(.slice (pA a1 0) (zbx x) (zbx x))] 57 ?_)))))))))
 intro w4 hBw4 hEw4
 have hzw4:=hEw4.size;have hlw4:=hBw4.lt
 have hSw4:Ps 0 w4.heap.size w4 (pA w3.heap.size 0) 1 1 [(.slice (pA a1 0) (zbx x) (zbx x))] [zM x]:=Ps.of_new hBw4 rfl (by decide) (zaP.cons (zch.at (hSa1.ext hEw4)) zaP.nil)
 have hK1:=(((((((hg1.ext hEw1)).ext hEw2)).ext hEw3)).ext hEw4)
 have hK2:=(((((((hg2.ext hEw1)).ext hEw2)).ext hEw3)).ext hEw4)
 refine zb (zi (some 17) (zrX _ hSw4 (by simp [zU,zqT];unfold zbx;split<;>decide) hK1 hK2) ?_)
 rintro _ w5 ⟨rfl,hEw5⟩
 have hzw5:=hEw5.size
 rw [show zN ([zM x]).flatten=zN (zM x) from by simp]
 have hK3:=(((((hBw2.ext hEw3)).ext hEw4)).ext hEw5)
 refine zb (zz 23 w1.heap.size 0 23 (vA (zw (zN (zM x)))) (zw Dig.zero) (zw (zN (zM x))) hK3 (by rw [zac];kernel_rfl) (by first |(simp;done)|(simp;omega)) (zaT _) ?_)
 have hK4:=(((((hBw2.ext hEw3)).ext hEw4)).ext hEw5)
 intro w6 hBw6 hCw6
 have hzw6:=hCw6.size
 rw [zm _ _ (by simp)] at hBw6
 refine zd 1 [(3,(vI 0))] (zg (zc (zx (zas (show zab Tryz.prog 18 _ _ (.cell 2 23) (vA (zw (zN (zM x)))) from ⟨⟨w1.heap.size,0,none⟩,(by kernel_rfl),zP (T:=23) (vs:=zw (zN (zM x))) (hBw6).all (by rw [zac];kernel_rfl)⟩) (show zab Tryz.prog 18 _ _ (.tmp 3) (vI 0) by (show _=_;kernel_rfl)) ?_))))
 have hX1:Ext w w6:=(Ext.own ((((hEw1.trans hEw2).trans hEw3).trans hEw4).trans hEw5) hCw6 (by omega))
 exact ⟨rfl,hX1⟩
theorem zhm (x:Nod) (w:World):
  Calls Tryz.prog 33 #[(vA (zK x))] w (Ret fun r w'=>r=(vA (zw (zN (zM x))))∧Ext w w'):=by
 refine zL (n:=6) (σ:= [(0,(vA (zK x)))]) Tryz.func33 rfl ?_
 refine zf (ze (zb (zt (some 1) (Instr.box 47 (vA (zK x))) (vP w.heap.size 0) (zK x) 47 ?_)))
 intro w1 hBw1 hEw1
 have hzw1:=hEw1.size;have hlw1:=hBw1.lt
 refine zb (zt (some 2) (Instr.alloc 23 true (.tuple #[])) (vP w1.heap.size 0) (zw Dig.zero) 23 ?_)
 intro w2 hBw2 hEw2
 have hzw2:=hEw2.size;have hlw2:=hBw2.lt
 refine zg (zc (zf (ze (zb (zj (some 3) (Instr.loadAt 47 (vP w.heap.size 0)) (vA (zK x)) (zD (vs:=zK x) ((hBw1.ext hEw2).all) (by rw [zW];kernel_rfl)) ?_)))))
 refine zb (zi (some 4) (znm x _) ?_)
 rintro _ w3 ⟨a1,ca1,rfl,hFz1_0,hEw3⟩
 have hzw3:=hEw3.size
 have hlea1:=hFz1_0.le
 have hba1:=hFz1_0.bs
 refine zb (zi (some 5) (zrn _ hba1 (by unfold zbx;split<;>decide)) ?_)
 rintro _ w4 ⟨rfl,hEw4⟩
 have hzw4:=hEw4.size
 refine zb (zz 23 w1.heap.size 0 23 (vA (zw (zN (zM x)))) (zw Dig.zero) (zw (zN (zM x))) (((hBw2.ext hEw3)).ext hEw4) (by rw [zac];kernel_rfl) (by first |(simp;done)|(simp;omega)) (zaT _) ?_)
 intro w5 hBw5 hCw5
 have hzw5:=hCw5.size
 rw [zm _ _ (by simp)] at hBw5
 refine zg (zc (zx (zbp (show zab Tryz.prog 6 _ _ (.cell 2 23) (vA (zw (zN (zM x)))) from ⟨⟨w1.heap.size,0,none⟩,(by kernel_rfl),zP (T:=23) (vs:=zw (zN (zM x))) (hBw5).all (by rw [zac];kernel_rfl)⟩) ?_)))
 have hX1:Ext w w5:=(Ext.own (((hEw1.trans hEw2).trans hEw3).trans hEw4) hCw5 (by omega))
 exact ⟨rfl,hX1⟩
end Go.Proofs.YtgdpdnokcnhgnaaGreatDoor
