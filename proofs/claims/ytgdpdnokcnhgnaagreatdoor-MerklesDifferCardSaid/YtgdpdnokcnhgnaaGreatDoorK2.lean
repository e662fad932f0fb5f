/- Lemmas and walks: what each function does, by its own code. No condition beyond those of each statement. -/
import Derived.Test.YtgdpdnokcnhgnaaGreatDoorK1
set_option linter.all false
set_option linter.unusedVariables false
namespace Go.Proofs.YtgdpdnokcnhgnaaGreatDoor
open Go Go.RowKit Go.Cs
set_option maxRecDepth 100000
set_option maxHeartbeats 8000000 in
theorem zh6 (n:Nat) {lo_l hi_l:Nat} {a_l:Option Addr} {n_l c_l:Nat} {l:List Rec} {lo_s hi_s:Nat} {a_s:Option Addr} {n_s c_s:Nat} {s:List Nat} (w:World) (h_l:Ms zE 35 lo_l hi_l w a_l n_l c_l l) (h_s:Es (nv .i64) lo_s hi_s w a_s n_s c_s s) (hp0:OkM l s) (hp1:n=n_l) (hg0:Gl 0 [vI 45,vI 33] w) (hg1:Gl 2 (w8C za2) w) (hg2:Gl 3 (zR kA) w):
  Calls Tryz.prog 16 #[(vI n),(.slice a_l n_l c_l),(.slice a_s n_s c_s)] w (Ret fun r w'=>∃a1,r=(.tuple #[(vA [(vI n),(.slice a1 (tot n) (tot n))]),(vI 0)])∧OwM zK 274 w.heap.size w'.heap.size w' a1 (tot n) (tot n) 47 (zaa l s)∧Ext w w'):=by
 refine zL (n:=177) (σ:= [(0,(vI n)),(1,(.slice a_l n_l c_l)),(2,(.slice a_s n_s c_s))]) Tryz.func16 rfl ?_
 replace h_l:=h_l.now;have hle_l:=h_l.le
 replace h_s:=h_s.now;have hle_s:=h_s.le
 have hgl0:=hg0.lt
 have hgl1:=hg1.lt
 have hgl2:=hg2.lt
 have hlen:=h_l.len_eq
 have hls:=h_s.len_eq
 have hnl:n=l.length:=by omega
 have ho1:=hp0.n1;have ho2:=hp0.n2;have ho4:=hp0.len;rw [←hnl] at ho1 ho2 ho4
 have h5:=zaz n
 have hts:=zbN ho2
 have hle:=h_l.le;have hle2:=h_s.le
 refine zf (ze (zb (zt (some 6) (Instr.alloc 50 true (.tuple #[])) (vP w.heap.size 0) ([(vI 0),(.slice none 0 0)]) 50 ?_)))
 intro w1 hBw1 hEw1
 have hzw1:=hEw1.size;have hlw1:=hBw1.lt
 refine zd 1 [(7,(vI 0))] (zg (zc (zf (ze (zd 1 [(28,(vI n))] (zb (zi (some 29) (ziS n _ (by omega) (by omega)) ?_)))))))
 rintro _ w2 ⟨a1,ca1,a2,ca2,rfl,hFz1_0,hFz1_1,hEw2⟩
 have hzw2:=hEw2.size
 have hlea1:=hFz1_0.le
 have hlea2:=hFz1_1.le
 refine zd 3 [(31,(vI 0)),(30,(vA [(vI n),(.slice a1 (hgt n+1) ca1),(.slice a2 (hgt n+1) ca2)])),(27,(.tuple #[(vA [(vI n),(.slice a1 (hgt n+1) ca1),(.slice a2 (hgt n+1) ca2)]),(vI 0)]))] (zb (zt (some 8) (Instr.alloc 106 true (.tuple #[])) (vP w2.heap.size 0) ([(vI 0),(.slice none 0 0),(.slice none 0 0)]) 106 ?_))
 intro w3 hBw3 hEw3
 have hzw3:=hEw3.size;have hlw3:=hBw3.lt
 refine zb (zz 106 w2.heap.size 0 106 (vA [(vI n),(.slice a1 (hgt n+1) ca1),(.slice a2 (hgt n+1) ca2)]) ([(vI 0),(.slice none 0 0),(.slice none 0 0)]) ([(vI n),(.slice a1 (hgt n+1) ca1),(.slice a2 (hgt n+1) ca2)]) hBw3 (by kernel_rfl) (by first | decide |(simp;done)|(simp;omega)) (by simp [Value.oneCell']) ?_)
 intro w4 hBw4 hCw4
 have hzw4:=hCw4.size
 rw [zm _ _ (by kernel_rfl)] at hBw4
 refine zd 1 [(9,(vI 0))] (zg (zc (zf (zf (ze (zd 1 [(32,(vI 0))] (zb (zat (some 33) (((0:Nat):Int) !=((0:Nat):Int)) false (zaL (by omega)) ?_))))))))
 refine zg (zc (zr (zy (zc (zf (ze (zd 1 [(10,(.func (.func 46) #[] #[]))] (zg (zc ?_)))))))))
 refine zf (zf (ze (zd 3 [(38,(vI n)),(37,(vI n_l)),(36,(.slice a_l n_l c_l))] ?_)))
 have hK1:=(((((((h_s.ext hEw1)).ext hEw2)).ext hEw3)).chg hCw4 (fun k h1 h2 hs=>by have h:k=_:=hs;omega))
 have hIs:=(hK1).ints
 refine zb (zat (some 39) (((n_l:Nat):Int) !=((n:Nat):Int)) false (zaL (by omega)) ?_)
 refine zd 3 [(42,(vI n_s)),(41,(.slice a_s n_s c_s)),(40,vF)] (zb (zj (some 43) (Instr.loadAt 106 (vP w2.heap.size 0)) (vA [(vI n),(.slice a1 (hgt n+1) ca1),(.slice a2 (hgt n+1) ca2)]) (zD (vs:= [(vI n),(.slice a1 (hgt n+1) ca1),(.slice a2 (hgt n+1) ca2)]) (hBw4.all)) ?_))
 refine zb (zi (some 44) (zfF n _ (((hFz1_0.ext hEw3)).chg hCw4 (fun k h1 h2 hs=>by have h:k=_:=hs;omega)) (((hFz1_1.ext hEw3)).chg hCw4 (fun k h1 h2 hs=>by have h:k=_:=hs;omega)) (by first | rfl | assumption) (by first | rfl | assumption) (by omega) (by omega)) ?_)
 rintro _ w5 ⟨rfl,hEw5⟩
 have hzw5:=hEw5.size
 refine zb (zat (some 45) (((n_s:Nat):Int) !=((tot n:Nat):Int)) false (zaL (by omega)) ?_)
 refine zd 4 [(49,(.func (.func 46) #[] #[])),(48,(.slice a_s n_s c_s)),(47,vF),(46,vF)] (zb (zi (some 50) (zqg _ (hIs.ext hEw5) (fun i=>by rw [zix];have:=hp0.sl i;omega)) ?_))
 rintro _ w6 ⟨rfl,hEw6⟩
 have hzw6:=hEw6.size
 refine zd 1 [(51,vF)] (zg (zc (zr (zy (zc (zf (zf (ze (zd 3 [(55,(vI 0)),(54,(vI n_l)),(53,(.slice a_l n_l c_l))] ?_)))))))))
 refine zg (zc (zI (zah (X:=Nat) (fun i=> [(55,(vI i))]) [7,12,13,56,57,58,59,60,61,62,63,64,65] (fun i w7=>i≤n_l∧Ext w6 w7) (fun i=>n_l-i) 0 (by kernel_rfl) ⟨Nat.zero_le _,Ext.refl _⟩ ?_)))
 rintro i dw7 w7 ⟨hi,hE0⟩
 have hz0:=hE0.size
 refine zf (ze (zb (zO (some 56) (decide (((i:Nat):Int)<((n_l:Nat):Int))) (fun hc56=> ?_) (fun hc56=> ?_))))
 ·replace hc56:i<n_l:=by have:=zak hc56;omega
  refine zg (zc (zf (zF (zy (zc (zf (zI (zf (ze ?_)))))))))
  obtain ⟨b1,o1,rfl⟩:=h_l.addr (by omega) (by decide)
  refine zb (zj (some 57) (Instr.indexAt 39 (.slice (pA b1 o1) n_l c_l) (vI i)) (vP b1 (o1+i*35)) (zap (E:=33) (sz:=35) (by omega)) ?_)
  have hK2:=(((((((((((((h_l.ext hEw1)).ext hEw2)).ext hEw3)).chg hCw4 (fun k h1 h2 hs=>by have h:k=_:=hs;omega))).ext hEw5)).ext hEw6)).ext hE0)
  refine zb (zj (some 58) (Instr.loadAt 33 (vP b1 (o1+i*35))) (vA (zE (l.getD i Rec.zero))) (zD (vs:=zE (l.getD i Rec.zero)) (hK2.at Rec.zero (by omega)) (by rw [zY];kernel_rfl)) ?_)
  refine zb (zt (some 12) (Instr.alloc 33 true (.tuple #[])) (vP w7.heap.size 0) (zE Rec.zero) 33 ?_)
  intro w8 hBw8 hEw8
  have hzw8:=hEw8.size;have hlw8:=hBw8.lt
  refine zb (zz 33 w7.heap.size 0 33 (vA (zE (l.getD i Rec.zero))) (zE Rec.zero) (zE (l.getD i Rec.zero)) hBw8 (by rw [zY];kernel_rfl) (by first |(simp;done)|(simp;omega)) (zaU _) ?_)
  intro w9 hBw9 hCw9
  have hzw9:=hCw9.size
  rw [zm _ _ (by simp)] at hBw9
  refine zg (zc (zf (ze (zb (zj (some 59) (Instr.loadAt 33 (vP w7.heap.size 0)) (vA (zE (l.getD i Rec.zero))) (zD (vs:=zE (l.getD i Rec.zero)) (hBw9.all) (by rw [zY];kernel_rfl)) ?_)))))
  refine zb (zi (some 60) (zen (l.getD i Rec.zero) _) ?_)
  rintro _ w10 ⟨rfl,hEw10⟩
  have hzw10:=hEw10.size
  rw [show zaB (l.getD i Rec.zero)=0 from hp0.rc i (by omega)]
  refine zd 1 [(13,(vI 0))] (zg (zc (zf (ze (zd 1 [(61,(vI 0))] (zb (zat (some 62) (((0:Nat):Int) !=((0:Nat):Int)) false (zaL (by omega)) ?_)))))))
  refine zg (zc (zr (zy (zp (zc (ze (zb (zv (some 65) .i64 (IntKind.i64.wrap (((i:Nat):Int)+((1:Nat):Int))) (i+1) (zG (by omega) (by omega) (by omega)) ?_))))))))
  refine zd 1 [(55,(vI (i+1)))] (zg (zC ?_))
  have hX1:Ext w6 w10:=((Ext.own (hE0.trans hEw8) hCw9 (by omega)).trans hEw10)
  refine zS (i+1) ?_ ?_
  ·exact ⟨by omega,hX1⟩
  ·first | omega |(dsimp only;omega)
 ·replace hc56:¬(i<n_l):=by have:=zal hc56;omega
  refine zg (zc (zf (zr (zaf (zH (zH (zT (zc (zf ?_)))))))))
  refine ze (zd 1 [(66,(vI n))] ?_)
  have hK3:=(((((hBw4.ext hEw5)).ext hEw6)).ext hE0)
  refine zb (zj (some 67) (Instr.loadAt 106 (vP w2.heap.size 0)) (vA [(vI n),(.slice a1 (hgt n+1) ca1),(.slice a2 (hgt n+1) ca2)]) (zD (vs:= [(vI n),(.slice a1 (hgt n+1) ca1),(.slice a2 (hgt n+1) ca2)]) (hK3.all)) ?_)
  have hK4:=(((((((((hFz1_0.ext hEw3)).chg hCw4 (fun k h1 h2 hs=>by have h:k=_:=hs;omega))).ext hEw5)).ext hEw6)).ext hE0)
  have hK5:=(((((((((hFz1_1.ext hEw3)).chg hCw4 (fun k h1 h2 hs=>by have h:k=_:=hs;omega))).ext hEw5)).ext hEw6)).ext hE0)
  refine zb (zi (some 68) (zfF n _ hK4 hK5 (by first | rfl | assumption) (by first | rfl | assumption) (by omega) (by omega)) ?_)
  rintro _ w11 ⟨rfl,hEw11⟩
  have hzw11:=hEw11.size
  refine zb (zcU (some 69) 24 47 274 368 (tot n) (tot n) .i64 .i64 (vA (zK Nod.zero)) (by omega) (by omega) (by omega) ?_)
  rw [zeX (f:=zK) (x:=Nod.zero) rfl (zW _) (by decide)]
  intro w12 hBw12 hEw12
  have hzw12:=hEw12.size;have hlw12:=hBw12.lt
  have hmw12:Ms zK 274 w11.heap.size (w11.heap.size+1) w12 (pA w11.heap.size 0) (tot n) (tot n) (List.replicate (tot n) Nod.zero):=Ms.of_pre (r:= []) (by rw [List.append_nil];exact hBw12) zW (by simp) (Nat.le_refl _) (by simp only [maxLen];omega) (Nat.le_refl _) (Nat.lt_succ_self _)
  refine zd 1 [(70,(vA [(vI n),(.slice (pA w11.heap.size 0) (tot n) (tot n))]))] (zb (zt (some 14) (Instr.alloc 50 true (.tuple #[])) (vP w12.heap.size 0) ([(vI 0),(.slice none 0 0)]) 50 ?_))
  intro w13 hBw13 hEw13
  have hzw13:=hEw13.size;have hlw13:=hBw13.lt
  refine zb (zz 50 w12.heap.size 0 50 (vA [(vI n),(.slice (pA w11.heap.size 0) (tot n) (tot n))]) ([(vI 0),(.slice none 0 0)]) ([(vI n),(.slice (pA w11.heap.size 0) (tot n) (tot n))]) hBw13 (by kernel_rfl) (by first | decide |(simp;done)|(simp;omega)) (by simp [Value.oneCell']) ?_)
  intro w14 hBw14 hCw14
  have hzw14:=hCw14.size
  rw [zm _ _ (by kernel_rfl)] at hBw14
  refine zg (zc (zf (zf (ze (zd 1 [(71,(vP w2.heap.size 1))] ?_)))))
  have hK6:=(((((((hK3.ext hEw11)).ext hEw12)).ext hEw13)).chg hCw14 (fun hs=>by have h:_=_:=hs;omega))
  refine zb (zj (some 72) (Instr.loadAt 40 (vP w2.heap.size 1)) (.slice a1 (hgt n+1) ca1) (zo (hK6.cell rfl)) ?_)
  refine zd 2 [(74,(vI 0)),(73,(vI (hgt n+1)))] (zg (zc (zI ?_)))
  have hK7:=(((((((((((((((((((hBw1.ext hEw2)).ext hEw3)).chg hCw4 (fun hs=>by have h:_=_:=hs;omega))).ext hEw5)).ext hEw6)).ext hE0)).ext hEw11)).ext hEw12)).ext hEw13)).chg hCw14 (fun hs=>by have h:_=_:=hs;omega))
  have hK8:=(((((((hK4.ext hEw11)).ext hEw12)).ext hEw13)).chg hCw14 (fun k h1 h2 hs=>by have h:k=_:=hs;omega))
  have hK9:=(((((((hK5.ext hEw11)).ext hEw12)).ext hEw13)).chg hCw14 (fun k h1 h2 hs=>by have h:k=_:=hs;omega))
  have hX2:Ext w w14:=(Ext.own (((((((Ext.own ((hEw1.trans hEw2).trans hEw3) hCw4 (by omega)).trans hEw5).trans hEw6).trans hE0).trans hEw11).trans hEw12).trans hEw13) hCw14 (by omega))
  refine zah (X:=Nat) (fun v=> [(74,(vI v))]) [15,16,17,75,76,77,78,79,80,81,82,83,84,85,86,87,88,89,90,91,92,93,94,95,96] (fun v w15=>v≤hgt n+1∧Blk w15 w11.heap.size ((TX n (gF v 0)).flatMap zK) 47∧Blk w15 w.heap.size ([(vI 0),(.slice none 0 0)]) 50∧Blk w15 w2.heap.size ([(vI n),(.slice a1 (hgt n+1) ca1),(.slice a2 (hgt n+1) ca2)]) 106∧Blk w15 w12.heap.size ([(vI n),(.slice (pA w11.heap.size 0) (tot n) (tot n))]) 50∧Es (nv .i64) w1.heap.size w2.heap.size w15 a1 (hgt n+1) ca1 (za7 n (hgt n+1))∧Es (nv .i64) w1.heap.size w2.heap.size w15 a2 (hgt n+1) ca2 (zcy n (hgt n+1))∧Ext w w15) (fun v=>hgt n+1-v) 0 (by kernel_rfl) ⟨Nat.zero_le _,by rw [←zo7];exact (((hBw12.ext hEw13)).chg hCw14 (fun hs=>by have h:_=_:=hs;omega)),hK7,hK6,hBw14,hK8,hK9,hX2⟩ ?_
  rintro v dw15 w15 ⟨hv,hR1,hkhR16,hkhR18,hkhR114,hs1hR1,hs2hR1,hEhR1⟩
  have hzhR1:=hEhR1.size;have hlhR1:=hR1.lt
  have hmhR1:=Ms.of_row hR1 zW (len:=tot n) (zbb _ _).symm (by simp only [maxLen];omega)
  have hlkhR16:=hkhR16.lt
  have hlkhR18:=hkhR18.lt
  have hlkhR114:=hkhR114.lt
  have hcn:=zcF n v
  have hgc:v<hgt n+1→gt (za7 n (hgt n+1)) v=cnt n v:=fun hh=>zeC hh
  refine zf (ze (zb (zO (some 75) (decide (((v:Nat):Int)<((hgt n+1:Nat):Int))) (fun hc75=> ?_) (fun hc75=> ?_))))
  ·replace hc75:v<hgt n+1:=by have:=zak hc75;omega
   replace hgc:=hgc (by omega)
   refine zg (zc (zf (zF (zy (zc (zf (zI (zf (ze ?_)))))))))
   refine zd 1 [(76,(vI v))] ?_
   obtain ⟨b2,o2,rfl⟩:=hs1hR1.addr (by omega)
   refine zb (zj (some 77) (Instr.indexAt 40 (.slice (pA b2 o2) (hgt n+1) ca1) (vI v)) (vP b2 (o2+v*1)) (zap (E:=3) (sz:=1) (by omega)) ?_)
   refine zb (zj (some 78) (Instr.loadAt 3 (vP b2 (o2+v*1))) (vI (gt (za7 n (hgt n+1)) v)) (zo (hs1hR1.celln (by omega))) ?_)
   refine zd 2 [(16,(vI (gt (za7 n (hgt n+1)) v))),(15,(vI v))] (zg (zc (zf (ze (zd 2 [(80,(vI 0)),(79,(vI (gt (za7 n (hgt n+1)) v)))] (zg (zc (zI (zah (X:=Nat) (fun j=> [(80,(vI j))]) [17,81,82,83,84,85,86,87,88,89,90,91,92,93,94,95] (fun j w16=>j≤cnt n v∧Blk w16 w11.heap.size ((TX n (gF v j)).flatMap zK) 47∧Blk w16 w.heap.size ([(vI 0),(.slice none 0 0)]) 50∧Blk w16 w2.heap.size ([(vI n),(.slice (pA b2 o2) (hgt n+1) ca1),(.slice a2 (hgt n+1) ca2)]) 106∧Blk w16 w12.heap.size ([(vI n),(.slice (pA w11.heap.size 0) (tot n) (tot n))]) 50∧Es (nv .i64) w1.heap.size w2.heap.size w16 (pA b2 o2) (hgt n+1) ca1 (za7 n (hgt n+1))∧Es (nv .i64) w1.heap.size w2.heap.size w16 a2 (hgt n+1) ca2 (zcy n (hgt n+1))∧Ext w w16) (fun j=>cnt n v-j) 0 (by kernel_rfl) ⟨Nat.zero_le _,by exact hR1,hkhR16,hkhR18,hkhR114,hs1hR1,hs2hR1,hEhR1⟩ ?_)))))))))
   rintro j dw16 w16 ⟨hj,hR2,hkhR26,hkhR28,hkhR214,hs1hR2,hs2hR2,hEhR2⟩
   have hzhR2:=hEhR2.size;have hlhR2:=hR2.lt
   have hmhR2:=Ms.of_row hR2 zW (len:=tot n) (zbb _ _).symm (by simp only [maxLen];omega)
   have hlkhR26:=hkhR26.lt
   have hlkhR28:=hkhR28.lt
   have hlkhR214:=hkhR214.lt
   refine zf (ze (zb (zO (some 81) (decide (((j:Nat):Int)<((gt (za7 n (hgt n+1)) v:Nat):Int))) (fun hc81=> ?_) (fun hc81=> ?_))))
   ·replace hc81:j<gt (za7 n (hgt n+1)) v:=by have:=zak hc81;omega
    have hjc:j<cnt n v:=by omega
    have hpl:=zbe (n:=n) (l:=v) (j:=j) (by omega) hjc
    refine zg (zc (zf (zF (zy (zc (zf (zI (zf (ze ?_)))))))))
    refine zd 2 [(17,(vI j)),(82,(vI j))] (zg (zc (zag (Ext w16.drew) 13 [(84,16384,0),(85,9671406556917033397649408,1),(86,256,0),(87,32768,0),(88,131072,0),(89,270799383593676935134183424,28),(90,32768,0),(91,618970019642690137449562112,64),(92,131072,0),(93,2475880078570760549798248448,256),(94,6189700196426901374495621120,672),(95,328827822935179135520079872,2047),(0,29710560942849126597578981376,4095)] (fun hT259=> ?_))))
    have hEw17:Ext w16 w16.drew:=Ext.drew w16
    generalize w16.drew=w17 at hEw17⊢
    have hzw17:=hEw17.size
    refine zk hT259 [(0,83,(vP w12.heap.size 1))] 1 1 (zh hT259 1 3 (some 84) (.slice (pA w11.heap.size 0) (tot n) (tot n)) (zl (Instr.loadAt 24 (vP w12.heap.size 1)) (fun w' hC=>zo (((hkhR214.ext hEw17).ext hC).cell rfl))) (zh hT259 2 7 (some 85) (vA [(vI n),(.slice (pA b2 o2) (hgt n+1) ca1),(.slice a2 (hgt n+1) ca2)]) (zl (Instr.loadAt 106 (vP w2.heap.size 0)) (fun w' hC=>zD (vs:= [(vI n),(.slice (pA b2 o2) (hgt n+1) ca1),(.slice a2 (hgt n+1) ca2)]) (((hkhR28.ext hEw17).ext hC).all))) (zk hT259 [(3,86,(vI v)),(4,87,(vI j)),(6,89,(vI v))] 3 95 (zh hT259 7 223 (some 90) (vB v) (zq .u8 (IntKind.u8.wrap ((v:Nat):Int)) (zba rfl rfl (by show _<2^8;omega))) (zk hT259 [(8,91,(vI j))] 1 479 (zh hT259 9 991 (some 92) (vW j) (zq .u32 (IntKind.u32.wrap ((j:Nat):Int)) (zba rfl rfl (by show _<2^32;omega))) (zn 5 1023 (zi (some 88) (zcs n v j _ (hs1hR2.ext hEw17) (hs2hR2.ext hEw17) (by first | rfl | assumption) (by first | rfl | assumption) (by omega) (by omega) (by omega) (by omega)) ?_))))))))
    rintro _ w18 ⟨rfl,hEw18⟩
    have hzw18:=hEw18.size
    refine ⟨.inr hEw18, ?_⟩
    refine zn 10 2047 (zi (some 93) (zpS v j _ (by omega) (by omega)) ?_)
    rintro _ w19 ⟨rfl,hEw19⟩
    have hzw19:=hEw19.size
    have hX3:Ext w17 w19:=(hEw18.trans hEw19)
    refine ⟨.inr hX3, ?_⟩
    refine zh (hw:=hX3) hT259 11 4095 (some 94) (vP w11.heap.size (0+(num n v+j)*274)) (zl (Instr.indexAt 24 (.slice (pA w11.heap.size 0) (tot n) (tot n)) (vI (num n v+j))) (fun w' hC=>zap (E:=47) (sz:=274) (by omega))) ?_
    have hK10:=(((((hR2.ext hEw17)).ext hEw18)).ext hEw19)
    refine zn 12 8191 (zz 47 w11.heap.size (0+(num n v+j)*274) 47 (vA (zK (Nod.mt v j))) ((TX n (gF v j)).flatMap zK) (zK (Nod.mt v j)) hK10 (by rw [zW];kernel_rfl) (by rw [zaD zW];(try simp only [List.length_cons,List.length_nil,List.length_set]);have:=(show List.length (TX n (gF v j))=tot n from zbb _ _);have hln:=zW (Nod.mt v j);omega) (zcG _) ?_)
    have hK11:=(((((hR2.ext hEw17)).ext hEw18)).ext hEw19)
    intro w20 hBw20 hCw20
    have hzw20:=hCw20.size
    rw [show (zad ((TX n (gF v j)).flatMap zK) (0+(num n v+j)*274) (zK (Nod.mt v j)):List Value)=(TX n (gF v (j+1))).flatMap zK from (zbG zW _ _ _ (by rw [zbb];try omega)).trans (congrArg (fun z=>List.flatMap zK z) (show ((TX n (gF v j)).set (num n v+j) (Nod.mt v j))=(TX n (gF v (j+1))) from zqS (by omega) hjc))] at hBw20
    have hmw20:Ms zK 274 w11.heap.size (w11.heap.size+1) w20 (pA w11.heap.size 0) (tot n) (tot n) (TX n (gF v (j+1))):=Ms.of_pre (r:= []) (by rw [List.append_nil];exact hBw20) zW (by rw [zbb];try omega) (by omega) (by simp only [maxLen];omega) (by omega) (by omega)
    refine ⟨.inl (by kernel_rfl), ?_⟩
    refine zJ (zp (zc (ze (zb (zv (some 95) .i64 (IntKind.i64.wrap (((j:Nat):Int)+((1:Nat):Int))) (j+1) (zG (by omega) (by omega) (by omega)) ?_)))))
    refine zd 1 [(80,(vI (j+1)))] (zg (zC ?_))
    have hK12:=(((((((hkhR26.ext hEw17)).ext hEw18)).ext hEw19)).chg hCw20 (fun hs=>by have h:_=_:=hs;omega))
    have hK13:=(((((((hkhR28.ext hEw17)).ext hEw18)).ext hEw19)).chg hCw20 (fun hs=>by have h:_=_:=hs;omega))
    have hK14:=(((((((hkhR214.ext hEw17)).ext hEw18)).ext hEw19)).chg hCw20 (fun hs=>by have h:_=_:=hs;omega))
    have hK15:=(((((((hs1hR2.ext hEw17)).ext hEw18)).ext hEw19)).chg hCw20 (fun k h1 h2 hs=>by have h:k=_:=hs;omega))
    have hK16:=(((((((hs2hR2.ext hEw17)).ext hEw18)).ext hEw19)).chg hCw20 (fun k h1 h2 hs=>by have h:k=_:=hs;omega))
    have hX4:Ext w w20:=(Ext.own (((hEhR2.trans hEw17).trans hEw18).trans hEw19) hCw20 (by omega))
    refine zS (j+1) ?_ ?_
    ·exact ⟨by omega,by exact hBw20,hK12,hK13,hK14,hK15,hK16,hX4⟩
    ·first | omega |(dsimp only;omega)
   ·replace hc81:¬(j<gt (za7 n (hgt n+1)) v):=by have:=zal hc81;omega
    obtain rfl:j=cnt n v:=by omega
    refine zg (zc (zf (zr (zaf (zH (zH (zT (zp (zc ?_)))))))))
    refine ze (zb (zv (some 96) .i64 (IntKind.i64.wrap (((v:Nat):Int)+((1:Nat):Int))) (v+1) (zG (by omega) (by omega) (by omega)) ?_))
    refine zd 1 [(74,(vI (v+1)))] (zg (zC (zS (v+1) ?_ ?_)))
    ·exact ⟨by omega,by rw [←zoq];exact hR2,hkhR26,hkhR28,hkhR214,hs1hR2,hs2hR2,hEhR2⟩
    ·first | omega |(dsimp only;omega)
  ·replace hc75:¬(v<hgt n+1):=by have:=zal hc75;omega
   obtain rfl:v=hgt n+1:=by omega
   refine zg (zc (zf (zr (zaf (zH (zH (zT (zc (zf ?_)))))))))
   refine zf (ze (zd 3 [(99,(vI 0)),(98,(vI n_l)),(97,(.slice a_l n_l c_l))] (zg (zc (zI (zah (X:=Nat) (fun i=> [(99,(vI i))]) [18,19,100,101,102,103,104,105,106,107,108,109,110,111,112,113,114] (fun i w21=>i≤n∧Blk w21 w11.heap.size ((TX n (gB l s i 1 0)).flatMap zK) 47∧Blk w21 w.heap.size ([(vI 0),(.slice none 0 0)]) 50∧Blk w21 w2.heap.size ([(vI n),(.slice a1 (hgt n+1) ca1),(.slice a2 (hgt n+1) ca2)]) 106∧Blk w21 w12.heap.size ([(vI n),(.slice (pA w11.heap.size 0) (tot n) (tot n))]) 50∧Es (nv .i64) w1.heap.size w2.heap.size w21 a1 (hgt n+1) ca1 (za7 n (hgt n+1))∧Es (nv .i64) w1.heap.size w2.heap.size w21 a2 (hgt n+1) ca2 (zcy n (hgt n+1))∧Ext w w21) (fun i=>n-i) 0 (by kernel_rfl) ⟨Nat.zero_le _,by rw [←zpX l s];exact hR1,hkhR16,hkhR18,hkhR114,hs1hR1,hs2hR1,hEhR1⟩ ?_))))))
   rintro i dw21 w21 ⟨hi,hR3,hkhR36,hkhR38,hkhR314,hs1hR3,hs2hR3,hEhR3⟩
   have hzhR3:=hEhR3.size;have hlhR3:=hR3.lt
   have hmhR3:=Ms.of_row hR3 zW (len:=tot n) (zbb _ _).symm (by simp only [maxLen];omega)
   have hlkhR36:=hkhR36.lt
   have hlkhR38:=hkhR38.lt
   have hlkhR314:=hkhR314.lt
   refine zf (ze (zb (zO (some 100) (decide (((i:Nat):Int)<((n_l:Nat):Int))) (fun hc100=> ?_) (fun hc100=> ?_))))
   ·replace hc100:i<n_l:=by have:=zak hc100;omega
    have hi4:i/4<cnt n 0:=zbv (n:=n) (i:=i) (by omega) 0
    have hpl:=zbe (n:=n) (l:=0) (j:=i/4) (by omega) hi4
    refine zg (zc (zf (zF (zy (zc (zf (zI (zf (ze ?_)))))))))
    refine zd 1 [(101,(vI i))] ?_
    obtain ⟨b3,o3,rfl⟩:=h_l.addr (by omega) (by decide)
    refine zb (zj (some 102) (Instr.indexAt 39 (.slice (pA b3 o3) n_l c_l) (vI i)) (vP b3 (o3+i*35)) (zap (E:=33) (sz:=35) (by omega)) ?_)
    refine zb (zj (some 103) (Instr.loadAt 33 (vP b3 (o3+i*35))) (vA (zE (l.getD i Rec.zero))) (zD (vs:=zE (l.getD i Rec.zero)) ((h_l.ext hEhR3).at Rec.zero (by omega)) (by rw [zY];kernel_rfl)) ?_)
    refine zb (zt (some 19) (Instr.alloc 33 true (.tuple #[])) (vP w21.heap.size 0) (zE Rec.zero) 33 ?_)
    intro w22 hBw22 hEw22
    have hzw22:=hEw22.size;have hlw22:=hBw22.lt
    refine zd 1 [(18,(vI i))] (zb (zz 33 w21.heap.size 0 33 (vA (zE (l.getD i Rec.zero))) (zE Rec.zero) (zE (l.getD i Rec.zero)) hBw22 (by rw [zY];kernel_rfl) (by first |(simp;done)|(simp;omega)) (zaU _) ?_))
    intro w23 hBw23 hCw23
    have hzw23:=hCw23.size
    rw [zm _ _ (by simp)] at hBw23
    refine zg (zc (zag (Chg (fun k=>k=w11.heap.size) w23.drew) 11 [(105,16384,0),(106,20282409603651670423947251286016,1),(107,262144,0),(108,81129638414606681695789005144064,4),(109,262144,0),(110,324518553658426726783156020576256,16),(111,524288,0),(112,202824096036516704239472512860160,10),(113,2596148429267413814265248164610048,128),(114,5841333965851681082096808370372608,383),(0,11682667931703362164193616740745216,639)] (fun hT380=> ?_)))
    have hEw24:Ext w23 w23.drew:=Ext.drew w23
    generalize w23.drew=w24 at hEw24⊢
    have hzw24:=hEw24.size
    have hX5:Chg (fun k=>k=w11.heap.size) w24 w24:=(Chg.refl (fun k=>k=w11.heap.size) w24)
    refine zk (hw:=hX5) hT380 [(0,104,(vP w12.heap.size 1))] 1 1 ?_
    have hK17:=(((((hkhR314.ext hEw22)).chg hCw23 (fun hs=>by have h:_=_:=hs;omega))).ext hEw24)
    refine zh (hw:=hX5) hT380 1 3 (some 105) (.slice (pA w11.heap.size 0) (tot n) (tot n)) (zl (Instr.loadAt 24 (vP w12.heap.size 1)) (fun w' hC=>zo ((hK17.chg hC (fun hs=>by have h:_=_:=hs;omega)).cell rfl))) (zk (hw:=hX5) hT380 [(2,106,(vI i))] 1 7 (zh (hw:=hX5) hT380 3 15 (some 107) (vI (i/4)) (zq .i64 (IntKind.i64.wrap (((i:Nat):Int).tdiv ((4:Nat):Int))) (zG (ze3 _ _) (by omega) (by omega))) (zk (hw:=hX5) hT380 [(4,108,(vI i))] 1 31 (zh (hw:=hX5) hT380 5 63 (some 109) (vI (i%4)) (zq .i64 (((i:Nat):Int).tmod ((4:Nat):Int)) (zcP _ _)) (zh (hw:=hX5) hT380 6 127 (some 110) (vA (zE (l.getD i Rec.zero))) (zl (Instr.loadAt 33 (vP w21.heap.size 0)) (fun w' hC=>zD (vs:=zE (l.getD i Rec.zero)) (((hBw23.ext hEw24).chg hC (fun hs=>by have h:_=_:=hs;omega)).all) (by rw [zY];kernel_rfl))) (zh (hw:=hX5) hT380 7 255 (some 111) (vP w11.heap.size (0+(i/4)*274)) (zl (Instr.indexAt 24 (.slice (pA w11.heap.size 0) (tot n) (tot n)) (vI (i/4))) (fun w' hC=>zap (E:=47) (sz:=274) (by omega))) (zk (hw:=hX5) hT380 [(8,112,(vP w11.heap.size (0+(i/4)*274+2)))] 1 511 (zh (hw:=hX5) hT380 9 1023 (some 113) (vP w11.heap.size (0+(i/4)*274+2+(i%4)*35)) (zl (Instr.indexAt 42 (vP w11.heap.size (0+(i/4)*274+2)) (vI (i%4))) (fun w' hC=>zX (E:=33) (sz:=35) (m:=4) (by omega))) ?_))))))))
    have hK18:=(((((hR3.ext hEw22)).chg hCw23 (fun hs=>by have h:_=_:=hs;omega))).ext hEw24)
    refine zn 10 2047 (zz 33 w11.heap.size (0+(i/4)*274+2+(i%4)*35) 47 (vA (zE (l.getD i Rec.zero))) ((TX n (gB l s i 1 0)).flatMap zK) (zE (l.getD i Rec.zero)) hK18 (by rw [zY];kernel_rfl) (by (try simp only [List.length_append]);rw [zaD zW];have:=(show List.length (TX n (gB l s i 1 0))=tot n from zbb _ _);have hq:i/4<List.length (TX n (gB l s i 1 0)):=(by rw [zbb];try omega);rw [zY];omega) (zaU _) ?_)
    have hK19:=(((((hR3.ext hEw22)).chg hCw23 (fun hs=>by have h:_=_:=hs;omega))).ext hEw24)
    intro w25 hBw25 hCw25
    have hzw25:=hCw25.size
    rw [show (zad ((TX n (gB l s i 1 0)).flatMap zK) (0+(i/4)*274+2+(i%4)*35) (zE (l.getD i Rec.zero)):List Value)=(TX n (gB l s (i+1) 1 0)).flatMap zK from ((show zad ((TX n (gB l s i 1 0)).flatMap zK) (0+(i/4)*274+2+(i%4)*35) (zE (l.getD i Rec.zero))=((TX n (gB l s i 1 0)).set (i/4) (((TX n (gB l s i 1 0)).getD (i/4) Nod.zero).setR (i%4) (l.getD i Rec.zero))).flatMap zK from by have hz:=(zfN zW Nod.zero (((TX n (gB l s i 1 0)).getD (i/4) Nod.zero).setR (i%4) (l.getD i Rec.zero)) (TX n (gB l s i 1 0)) (i/4) (2+(i%4)*35) (zE (l.getD i Rec.zero)) [] (by rw [zbb];try omega) (nod_setR (by omega)) (by rw [zY];omega));rw [List.append_nil,List.append_nil] at hz;rw [show 0+(i/4)*274+2+(i%4)*35=(i/4)*274+(2+(i%4)*35) from by omega];exact hz)).trans (congrArg (fun z=>List.flatMap zK z) (show ((TX n (gB l s i 1 0)).set (i/4) (((TX n (gB l s i 1 0)).getD (i/4) Nod.zero).setR (i%4) (l.getD i Rec.zero)))=(TX n (gB l s (i+1) 1 0)) from zpI hi4))] at hBw25
    have hmw25:Ms zK 274 w11.heap.size (w11.heap.size+1) w25 (pA w11.heap.size 0) (tot n) (tot n) (TX n (gB l s (i+1) 1 0)):=Ms.of_pre (r:= []) (by rw [List.append_nil];exact hBw25) zW (by rw [zbb];try omega) (by omega) (by simp only [maxLen];omega) (by omega) (by omega)
    have hX6:Chg (fun k=>k=w11.heap.size) w24 w25:=(Chg.then (Chg.refl (fun k=>k=w11.heap.size) w24) hCw25 (fun k hk hs=>by have h:k=_:=hs;first | exact hs | exact .inl h | exact .inr h |(exfalso;omega)))
    refine ⟨.inr hX6, ?_⟩
    refine zJ (zp (zc (ze (zb (zv (some 114) .i64 (IntKind.i64.wrap (((i:Nat):Int)+((1:Nat):Int))) (i+1) (zG (by omega) (by omega) (by omega)) ?_)))))
    refine zd 1 [(99,(vI (i+1)))] (zg (zC ?_))
    have hK20:=(((((((hkhR36.ext hEw22)).chg hCw23 (fun hs=>by have h:_=_:=hs;omega))).ext hEw24)).chg hCw25 (fun hs=>by have h:_=_:=hs;omega))
    have hK21:=(((((((hkhR38.ext hEw22)).chg hCw23 (fun hs=>by have h:_=_:=hs;omega))).ext hEw24)).chg hCw25 (fun hs=>by have h:_=_:=hs;omega))
    have hK22:=(((((((hs1hR3.ext hEw22)).chg hCw23 (fun k h1 h2 hs=>by have h:k=_:=hs;omega))).ext hEw24)).chg hCw25 (fun k h1 h2 hs=>by have h:k=_:=hs;omega))
    have hK23:=(((((((hs2hR3.ext hEw22)).chg hCw23 (fun k h1 h2 hs=>by have h:k=_:=hs;omega))).ext hEw24)).chg hCw25 (fun k h1 h2 hs=>by have h:k=_:=hs;omega))
    have hX7:Ext w w25:=(Ext.own ((Ext.own (hEhR3.trans hEw22) hCw23 (by omega)).trans hEw24) hCw25 (by omega))
    refine zS (i+1) ?_ ?_
    ·exact ⟨by omega,by exact hBw25,hK20,hK21,((hK17).chg hCw25 (fun hs=>by have h:_=_:=hs;omega)),hK22,hK23,hX7⟩
    ·first | omega |(dsimp only;omega)
   ·replace hc100:¬(i<n_l):=by have:=zal hc100;omega
    obtain rfl:n=i:=by omega
    refine zg (zc (zf (zr (zaf (zH (zH (zT (zc (zf ?_)))))))))
    refine zf (ze (zd 1 [(20,(vI 1))] (zg (zc (zI (zah (X:=Nat) (fun v=> [(20,(vI v))]) [21,22,23,24,25,26,115,116,117,118,119,120,121,122,123,124,125,126,127,128,129,130,131,132,133,134,135,136,137,138,139,140,141,142,143,144,145,146,147,148,149,150,151,152,153,154,155,156,157,158,159,160,161,162,163,164,165,166,167,168,169,170,171,172,173,174,175] (fun v w26=>(1≤v∧v≤hgt n+1)∧Blk w26 w11.heap.size ((TX n (gB l s n v 0)).flatMap zK) 47∧Blk w26 w.heap.size ([(vI 0),(.slice none 0 0)]) 50∧Blk w26 w2.heap.size ([(vI n),(.slice a1 (hgt n+1) ca1),(.slice a2 (hgt n+1) ca2)]) 106∧Blk w26 w12.heap.size ([(vI n),(.slice (pA w11.heap.size 0) (tot n) (tot n))]) 50∧Es (nv .i64) w1.heap.size w2.heap.size w26 a1 (hgt n+1) ca1 (za7 n (hgt n+1))∧Es (nv .i64) w1.heap.size w2.heap.size w26 a2 (hgt n+1) ca2 (zcy n (hgt n+1))∧Ext w w26) (fun v=>hgt n+1-v) 1 (by kernel_rfl) ⟨⟨Nat.le_refl _,by omega⟩,by exact hR3,hkhR36,hkhR38,hkhR314,hs1hR3,hs2hR3,hEhR3⟩ ?_))))))
    rintro v dw26 w26 ⟨hv,hR4,hkhR46,hkhR48,hkhR414,hs1hR4,hs2hR4,hEhR4⟩
    have hzhR4:=hEhR4.size;have hlhR4:=hR4.lt
    have hmhR4:=Ms.of_row hR4 zW (len:=tot n) (zbb _ _).symm (by simp only [maxLen];omega)
    have hlkhR46:=hkhR46.lt
    have hlkhR48:=hkhR48.lt
    have hlkhR414:=hkhR414.lt
    have hcm:=zcF n (v-1)
    have hcn:=zcF n v
    have hup:=zc9 (n:=n) (l:=v) (by omega)
    have hgc:gt (za7 n (hgt n+1)) (v-1)=cnt n (v-1):=zeC (by omega)
    refine zf (zf (ze (zd 2 [(116,(vP w2.heap.size 1)),(115,(vI v))] (zb (zj (some 117) (Instr.loadAt 40 (vP w2.heap.size 1)) (.slice a1 (hgt n+1) ca1) (zo (hkhR48.cell rfl)) ?_)))))
    refine zd 1 [(118,(vI (hgt n+1)))] (zb (zO (some 119) (decide (((v:Nat):Int)<((hgt n+1:Nat):Int))) (fun hc119=> ?_) (fun hc119=> ?_)))
    ·replace hc119:v<hgt n+1:=by have:=zak hc119;omega
     refine zg (zc (zF (zy (zc (zf (zI (zf (ze (zd 1 [(122,(vP w2.heap.size 1))] ?_)))))))))
     refine zb (zj (some 123) (Instr.loadAt 40 (vP w2.heap.size 1)) (.slice a1 (hgt n+1) ca1) (zo (hkhR48.cell rfl)) ?_)
     refine zd 1 [(124,(vI v))] (zb (zv (some 125) .i64 (IntKind.i64.wrap (((v:Nat):Int)-((1:Nat):Int))) (v-1) (zG (by omega) (by omega) (by omega)) ?_))
     obtain ⟨b4,o4,rfl⟩:=hs1hR4.addr (by omega)
     refine zb (zj (some 126) (Instr.indexAt 40 (.slice (pA b4 o4) (hgt n+1) ca1) (vI (v-1))) (vP b4 (o4+(v-1)*1)) (zap (E:=3) (sz:=1) (by omega)) ?_)
     refine zb (zj (some 127) (Instr.loadAt 3 (vP b4 (o4+(v-1)*1))) (vI (gt (za7 n (hgt n+1)) (v-1))) (zo (hs1hR4.celln (by omega))) ?_)
     refine zd 1 [(128,(vI 0))] (zg (zc (zI (zah (X:=Nat) (fun c=> [(128,(vI c))]) [21,22,23,24,25,26,129,130,131,132,133,134,135,136,137,138,139,140,141,142,143,144,145,146,147,148,149,150,151,152,153,154,155,156,157,158,159,160,161,162,163,164,165,166,167,168,169,170,171,172,173,174,175] (fun c w27=>c≤cnt n (v-1)∧Blk w27 w11.heap.size ((TX n (gB l s n v c)).flatMap zK) 47∧Blk w27 w.heap.size ([(vI 0),(.slice none 0 0)]) 50∧Blk w27 w2.heap.size ([(vI n),(.slice (pA b4 o4) (hgt n+1) ca1),(.slice a2 (hgt n+1) ca2)]) 106∧Blk w27 w12.heap.size ([(vI n),(.slice (pA w11.heap.size 0) (tot n) (tot n))]) 50∧Es (nv .i64) w1.heap.size w2.heap.size w27 (pA b4 o4) (hgt n+1) ca1 (za7 n (hgt n+1))∧Es (nv .i64) w1.heap.size w2.heap.size w27 a2 (hgt n+1) ca2 (zcy n (hgt n+1))∧Ext w w27) (fun c=>cnt n (v-1)-c) 0 (by kernel_rfl) ⟨Nat.zero_le _,by exact hR4,hkhR46,hkhR48,hkhR414,hs1hR4,hs2hR4,hEhR4⟩ ?_))))
     rintro c dw27 w27 ⟨hc,hR5,hkhR56,hkhR58,hkhR514,hs1hR5,hs2hR5,hEhR5⟩
     have hzhR5:=hEhR5.size;have hlhR5:=hR5.lt
     have hmhR5:=Ms.of_row hR5 zW (len:=tot n) (zbb _ _).symm (by simp only [maxLen];omega)
     have hlkhR56:=hkhR56.lt
     have hlkhR58:=hkhR58.lt
     have hlkhR514:=hkhR514.lt
     refine zf (ze (zb (zO (some 129) (decide (((c:Nat):Int)<((gt (za7 n (hgt n+1)) (v-1):Nat):Int))) (fun hc129=> ?_) (fun hc129=> ?_))))
     ·replace hc129:c<gt (za7 n (hgt n+1)) (v-1):=by have:=zak hc129;omega
      have hcc:c<cnt n (v-1):=by omega
      have hplc:=zbe (n:=n) (l:=v-1) (j:=c) (by omega) hcc
      have hnd:((TX n (gB l s n v c)).getD (num n (v-1)+c) Nod.zero)=zaG l s (v-1) c:=zpv hnl (by omega) (by omega) hcc
      have hus:=zpT (l:=v-1) hp0 hnl (by omega) hcc
      rw [←hnd] at hus
      have hchk:zar ((TX n (gB l s n v c)).getD (num n (v-1)+c) Nod.zero)=0:=by rw [hnd];exact zjN hp0 (by rw [←hnl];omega) (by rw [←hnl];exact hcc)
      have hc4:c/4<cnt n v:=zjc.2 (by rw [hup];omega)
      have hpl4:=zbe (n:=n) (l:=v) (j:=c/4) (by omega) hc4
      have hsl:gt s (num n (v-1)+c)≤1:=hp0.sl _
      refine zg (zc (zf (zF (zy (zc (zf (zI (zf (ze ?_)))))))))
      refine zd 2 [(21,(vI c)),(130,(vI c))] (zg (zc (zf (ze (zb (zj (some 131) (Instr.loadAt 106 (vP w2.heap.size 0)) (vA [(vI n),(.slice (pA b4 o4) (hgt n+1) ca1),(.slice a2 (hgt n+1) ca2)]) (zD (vs:= [(vI n),(.slice (pA b4 o4) (hgt n+1) ca1),(.slice a2 (hgt n+1) ca2)]) (hkhR58.all)) ?_))))))
      refine zd 1 [(132,(vI v))] (zb (zv (some 133) .i64 (IntKind.i64.wrap (((v:Nat):Int)-((1:Nat):Int))) (v-1) (zG (by omega) (by omega) (by omega)) ?_))
      refine zd 1 [(134,(vI c))] (zb (zi (some 135) (zcs n (v-1) c _ hs1hR5 hs2hR5 (by first | rfl | assumption) (by first | rfl | assumption) (by omega) (by omega) (by omega) (by omega)) ?_))
      rintro _ w28 ⟨rfl,hEw28⟩
      have hzw28:=hEw28.size
      refine zd 1 [(22,(vI (num n (v-1)+c)))] (zg (zc (zf (ze (zd 1 [(136,(vP w12.heap.size 1))] (zb (zj (some 137) (Instr.loadAt 24 (vP w12.heap.size 1)) (.slice (pA w11.heap.size 0) (tot n) (tot n)) (zo ((hkhR514.ext hEw28).cell rfl)) ?_)))))))
      refine zd 1 [(138,(vI (num n (v-1)+c)))] (zb (zj (some 139) (Instr.indexAt 24 (.slice (pA w11.heap.size 0) (tot n) (tot n)) (vI (num n (v-1)+c))) (vP w11.heap.size (0+(num n (v-1)+c)*274)) (zap (E:=47) (sz:=274) (by omega)) ?_))
      refine zb (zj (some 140) (Instr.loadAt 47 (vP w11.heap.size (0+(num n (v-1)+c)*274))) (vA (zK ((TX n (gB l s n v c)).getD (num n (v-1)+c) Nod.zero))) (zD (vs:=zK ((TX n (gB l s n v c)).getD (num n (v-1)+c) Nod.zero)) ((hmhR5.ext hEw28).at Nod.zero (by omega)) (by rw [zW];kernel_rfl)) ?_)
      refine zb (zi (some 141) (zmv ((TX n (gB l s n v c)).getD (num n (v-1)+c) Nod.zero) _) ?_)
      rintro _ w29 ⟨rfl,hEw29⟩
      have hzw29:=hEw29.size
      refine zb (zO (some 142) (decide (((usd ((TX n (gB l s n v c)).getD (num n (v-1)+c) Nod.zero) 4:Nat):Int)>((0:Nat):Int))) (fun hc142=> ?_) (fun hc142=> ?_))
      ·replace hc142:usd ((TX n (gB l s n v c)).getD (num n (v-1)+c) Nod.zero) 4>0:=by have:=zak hc142;omega
       have hem:=hus.1 hc142
       refine zg (zc (zF (zf (ze (zd 1 [(144,(vP w12.heap.size 1))] (zb (zj (some 145) (Instr.loadAt 24 (vP w12.heap.size 1)) (.slice (pA w11.heap.size 0) (tot n) (tot n)) (zo ((((hkhR514.ext hEw28)).ext hEw29).cell rfl)) ?_)))))))
       refine zd 1 [(146,(vI (num n (v-1)+c)))] (zb (zj (some 147) (Instr.indexAt 24 (.slice (pA w11.heap.size 0) (tot n) (tot n)) (vI (num n (v-1)+c))) (vP w11.heap.size (0+(num n (v-1)+c)*274)) (zap (E:=47) (sz:=274) (by omega)) ?_))
       refine zb (zj (some 148) (Instr.loadAt 47 (vP w11.heap.size (0+(num n (v-1)+c)*274))) (vA (zK ((TX n (gB l s n v c)).getD (num n (v-1)+c) Nod.zero))) (zD (vs:=zK ((TX n (gB l s n v c)).getD (num n (v-1)+c) Nod.zero)) ((((hmhR5.ext hEw28)).ext hEw29).at Nod.zero (by omega)) (by rw [zW];kernel_rfl)) ?_)
       have hK24:=(((((hg0.ext hEhR5)).ext hEw28)).ext hEw29)
       have hK25:=(((((hg1.ext hEhR5)).ext hEw28)).ext hEw29)
       have hK26:=(((((hg2.ext hEhR5)).ext hEw28)).ext hEw29)
       refine zb (zi (some 149) (zdA ((TX n (gB l s n v c)).getD (num n (v-1)+c) Nod.zero) _ (by assumption) hK24 hK25 hK26) ?_)
       rintro _ w30 ⟨rfl,hEw30⟩
       have hzw30:=hEw30.size
       refine zd 3 [(151,(vI 0)),(150,(vA (zw (zN (zM ((TX n (gB l s n v c)).getD (num n (v-1)+c) Nod.zero)))))),(143,(.tuple #[(vA (zw (zN (zM ((TX n (gB l s n v c)).getD (num n (v-1)+c) Nod.zero))))),(vI 0)]))] (zb (zt (some 23) (Instr.alloc 23 true (.tuple #[])) (vP w30.heap.size 0) (zw Dig.zero) 23 ?_))
       intro w31 hBw31 hEw31
       have hzw31:=hEw31.size;have hlw31:=hBw31.lt
       refine zb (zz 23 w30.heap.size 0 23 (vA (zw (zN (zM ((TX n (gB l s n v c)).getD (num n (v-1)+c) Nod.zero))))) (zw Dig.zero) (zw (zN (zM ((TX n (gB l s n v c)).getD (num n (v-1)+c) Nod.zero)))) hBw31 (by rw [zac];kernel_rfl) (by first |(simp;done)|(simp;omega)) (zaT _) ?_)
       intro w32 hBw32 hCw32
       have hzw32:=hCw32.size
       rw [zm _ _ (by simp)] at hBw32
       refine zd 1 [(24,(vI 0))] (zg (zc (zf (ze (zd 2 [(154,(vI (num n (v-1)+c))),(153,(.slice a_s n_s c_s))] ?_)))))
       obtain ⟨b5,o5,rfl⟩:=h_s.addr (by omega)
       refine zb (zj (some 155) (Instr.indexAt 40 (.slice (pA b5 o5) n_s c_s) (vI (num n (v-1)+c))) (vP b5 (o5+(num n (v-1)+c)*1)) (zap (E:=3) (sz:=1) (by omega)) ?_)
       have hK27:=(((((((((((h_s.ext hEhR5)).ext hEw28)).ext hEw29)).ext hEw30)).ext hEw31)).chg hCw32 (fun k h1 h2 hs=>by have h:k=_:=hs;omega))
       refine zb (zj (some 156) (Instr.loadAt 3 (vP b5 (o5+(num n (v-1)+c)*1))) (vI (gt s (num n (v-1)+c))) (zo (hK27.celln (by omega))) ?_)
       refine zb (zi (some 157) (znP (gt s (num n (v-1)+c)) _ (by omega)) ?_)
       rintro _ w33 ⟨rfl,hEw33⟩
       have hzw33:=hEw33.size
       refine zd 5 [(26,(vI 0)),(25,(vB ((gt s (num n (v-1)+c))+1))),(159,(vI 0)),(158,(vB ((gt s (num n (v-1)+c))+1))),(152,(.tuple #[(vB ((gt s (num n (v-1)+c))+1)),(vI 0)]))] (zg (zc (zag (Chg (fun k=>k=w11.heap.size) w33.drew) 16 [(161,16384,0),(162,1461501637330902918203684832716283019655932542976,1),(163,256,0),(164,1048576,0),(165,2097152,0),(166,23384026197294446691258957323460528314494920687616,16),(167,64306072042559728400962132639516452864861031890944,44),(168,2097152,0),(169,187072209578355573530071658587684226515959365500928,128),(170,33554432,0),(171,8388608,0),(172,2244866514940266882360859903052210718191512386011136,1536),(173,96459108063839592601443198959274679297291547836416,66),(174,5986310706507378352962293074805895248510699696029696,4096),(175,12346765832171467852984729466787158950053318123061248,12287),(0,26938398179283202588330318836626528618298148632133632,20479)] (fun hT576=> ?_))))
       have hEw34:Ext w33 w33.drew:=Ext.drew w33
       generalize w33.drew=w34 at hEw34⊢
       have hzw34:=hEw34.size
       have hX8:Chg (fun k=>k=w11.heap.size) w34 w34:=(Chg.refl (fun k=>k=w11.heap.size) w34)
       refine zk (hw:=hX8) hT576 [(0,160,(vP w12.heap.size 1))] 1 1 ?_
       have hK28:=(((((((((((((hkhR514.ext hEw28)).ext hEw29)).ext hEw30)).ext hEw31)).chg hCw32 (fun hs=>by have h:_=_:=hs;omega))).ext hEw33)).ext hEw34)
       refine zh (hw:=hX8) hT576 1 3 (some 161) (.slice (pA w11.heap.size 0) (tot n) (tot n)) (zl (Instr.loadAt 24 (vP w12.heap.size 1)) (fun w' hC=>zo ((hK28.chg hC (fun hs=>by have h:_=_:=hs;omega)).cell rfl))) ?_
       have hK29:=(((((((((((((hkhR58.ext hEw28)).ext hEw29)).ext hEw30)).ext hEw31)).chg hCw32 (fun hs=>by have h:_=_:=hs;omega))).ext hEw33)).ext hEw34)
       refine zh (hw:=hX8) hT576 2 7 (some 162) (vA [(vI n),(.slice (pA b4 o4) (hgt n+1) ca1),(.slice a2 (hgt n+1) ca2)]) (zl (Instr.loadAt 106 (vP w2.heap.size 0)) (fun w' hC=>zD (vs:= [(vI n),(.slice (pA b4 o4) (hgt n+1) ca1),(.slice a2 (hgt n+1) ca2)]) ((hK29.chg hC (fun hs=>by have h:_=_:=hs;omega)).all))) (zk (hw:=hX8) hT576 [(3,163,(vI v)),(4,164,(vI c))] 2 31 (zh (hw:=hX8) hT576 5 63 (some 165) (vI (c/4)) (zq .i64 (IntKind.i64.wrap (((c:Nat):Int).tdiv ((4:Nat):Int))) (zG (ze3 _ _) (by omega) (by omega))) (zk (hw:=hX8) hT576 [(7,167,(vI c))] 1 191 (zh (hw:=hX8) hT576 8 447 (some 168) (vI (c%4)) (zq .i64 (((c:Nat):Int).tmod ((4:Nat):Int)) (zcP _ _)) (zk (hw:=hX8) hT576 [(9,169,(vB ((gt s (num n (v-1)+c))+1)))] 1 959 (zh (hw:=hX8) hT576 10 1983 (some 170) (vA (zw (zN (zM ((TX n (gB l s n v c)).getD (num n (v-1)+c) Nod.zero))))) (zl (Instr.loadAt 23 (vP w30.heap.size 0)) (fun w' hC=>zD (vs:=zw (zN (zM ((TX n (gB l s n v c)).getD (num n (v-1)+c) Nod.zero)))) (((((hBw32.ext hEw33)).ext hEw34).chg hC (fun hs=>by have h:_=_:=hs;omega)).all) (by rw [zac];kernel_rfl))) ?_))))))
       refine zh (hw:=hX8) hT576 11 4031 (some 171) (vA (zai (⟨(gt s (num n (v-1)+c))+1,(zN (zM ((TX n (gB l s n v c)).getD (num n (v-1)+c) Nod.zero))),by omega⟩))) (zl (Instr.build 44 #[(0,(vB ((gt s (num n (v-1)+c))+1))),(1,(vA (zw (zN (zM ((TX n (gB l s n v c)).getD (num n (v-1)+c) Nod.zero))))))]) (fun w' hC=>zfP ((gt s (num n (v-1)+c))+1) (zN (zM ((TX n (gB l s n v c)).getD (num n (v-1)+c) Nod.zero))) (by omega))) ?_
       have hK30:=(((((((((((((hs1hR5.ext hEw28)).ext hEw29)).ext hEw30)).ext hEw31)).chg hCw32 (fun k h1 h2 hs=>by have h:k=_:=hs;omega))).ext hEw33)).ext hEw34)
       have hK31:=(((((((((((((hs2hR5.ext hEw28)).ext hEw29)).ext hEw30)).ext hEw31)).chg hCw32 (fun k h1 h2 hs=>by have h:k=_:=hs;omega))).ext hEw33)).ext hEw34)
       refine zn 6 4095 (zi (some 166) (zcs n v (c/4) _ hK30 hK31 (by first | rfl | assumption) (by first | rfl | assumption) (by omega) (by omega) (by omega) (by omega)) ?_)
       rintro _ w35 ⟨rfl,hEw35⟩
       have hzw35:=hEw35.size
       have hX9:Chg (fun k=>k=w11.heap.size) w34 w35:=((Chg.refl (fun k=>k=w11.heap.size) w34).trans hEw35.chg)
       refine ⟨.inr hX9, ?_⟩
       refine zh (hw:=hX9) hT576 12 8191 (some 172) (vP w11.heap.size (0+(num n v+(c/4))*274)) (zl (Instr.indexAt 24 (.slice (pA w11.heap.size 0) (tot n) (tot n)) (vI (num n v+(c/4)))) (fun w' hC=>zap (E:=47) (sz:=274) (by omega))) (zk (hw:=hX9) hT576 [(13,173,(vP w11.heap.size (0+(num n v+(c/4))*274+142)))] 1 16383 (zh (hw:=hX9) hT576 14 32767 (some 174) (vP w11.heap.size (0+(num n v+(c/4))*274+142+(c%4)*33)) (zl (Instr.indexAt 45 (vP w11.heap.size (0+(num n v+(c/4))*274+142)) (vI (c%4))) (fun w' hC=>zX (E:=44) (sz:=33) (m:=4) (by omega))) ?_))
       have hK32:=(((((((((((((((hR5.ext hEw28)).ext hEw29)).ext hEw30)).ext hEw31)).chg hCw32 (fun hs=>by have h:_=_:=hs;omega))).ext hEw33)).ext hEw34)).ext hEw35)
       refine zn 15 65535 (zz 44 w11.heap.size (0+(num n v+(c/4))*274+142+(c%4)*33) 47 (vA (zai (⟨(gt s (num n (v-1)+c))+1,(zN (zM ((TX n (gB l s n v c)).getD (num n (v-1)+c) Nod.zero))),by omega⟩))) ((TX n (gB l s n v c)).flatMap zK) (zai (⟨(gt s (num n (v-1)+c))+1,(zN (zM ((TX n (gB l s n v c)).getD (num n (v-1)+c) Nod.zero))),by omega⟩)) hK32 (by rw [zaS];kernel_rfl) (by (try simp only [List.length_append]);rw [zaD zW];have:=(show List.length (TX n (gB l s n v c))=tot n from zbb _ _);have hq:num n v+(c/4)<List.length (TX n (gB l s n v c)):=(by rw [zbb];try omega);rw [zaS];omega) (zdq _) ?_)
       have hK33:=(((((((((((((((hR5.ext hEw28)).ext hEw29)).ext hEw30)).ext hEw31)).chg hCw32 (fun hs=>by have h:_=_:=hs;omega))).ext hEw33)).ext hEw34)).ext hEw35)
       intro w36 hBw36 hCw36
       have hzw36:=hCw36.size
       rw [show (zad ((TX n (gB l s n v c)).flatMap zK) (0+(num n v+(c/4))*274+142+(c%4)*33) (zai (⟨(gt s (num n (v-1)+c))+1,(zN (zM ((TX n (gB l s n v c)).getD (num n (v-1)+c) Nod.zero))),by omega⟩)):List Value)=(TX n (gB l s n v (c+1))).flatMap zK from ((show zad ((TX n (gB l s n v c)).flatMap zK) (0+(num n v+(c/4))*274+142+(c%4)*33) (zai (⟨(gt s (num n (v-1)+c))+1,(zN (zM ((TX n (gB l s n v c)).getD (num n (v-1)+c) Nod.zero))),by omega⟩))=((TX n (gB l s n v c)).set (num n v+(c/4)) (((TX n (gB l s n v c)).getD (num n v+(c/4)) Nod.zero).setE (c%4) (⟨(gt s (num n (v-1)+c))+1,(zN (zM ((TX n (gB l s n v c)).getD (num n (v-1)+c) Nod.zero))),by omega⟩))).flatMap zK from by have hz:=(zfN zW Nod.zero (((TX n (gB l s n v c)).getD (num n v+(c/4)) Nod.zero).setE (c%4) (⟨(gt s (num n (v-1)+c))+1,(zN (zM ((TX n (gB l s n v c)).getD (num n (v-1)+c) Nod.zero))),by omega⟩)) (TX n (gB l s n v c)) (num n v+(c/4)) (142+(c%4)*33) (zai (⟨(gt s (num n (v-1)+c))+1,(zN (zM ((TX n (gB l s n v c)).getD (num n (v-1)+c) Nod.zero))),by omega⟩)) [] (by rw [zbb];try omega) (nod_setE (by omega)) (by rw [zaS];omega));rw [List.append_nil,List.append_nil] at hz;rw [show 0+(num n v+(c/4))*274+142+(c%4)*33=(num n v+(c/4))*274+(142+(c%4)*33) from by omega];exact hz)).trans (congrArg (fun z=>List.flatMap zK z) (show ((TX n (gB l s n v c)).set (num n v+(c/4)) (((TX n (gB l s n v c)).getD (num n v+(c/4)) Nod.zero).setE (c%4) (⟨(gt s (num n (v-1)+c))+1,(zN (zM ((TX n (gB l s n v c)).getD (num n (v-1)+c) Nod.zero))),by omega⟩)))=(TX n (gB l s n v (c+1))) from zp7 (by omega) (by omega) hc4 (zpb hnl hem rfl (by rw [hnd]))))] at hBw36
       have hmw36:Ms zK 274 w11.heap.size (w11.heap.size+1) w36 (pA w11.heap.size 0) (tot n) (tot n) (TX n (gB l s n v (c+1))):=Ms.of_pre (r:= []) (by rw [List.append_nil];exact hBw36) zW (by rw [zbb];try omega) (by omega) (by simp only [maxLen];omega) (by omega) (by omega)
       have hX10:Chg (fun k=>k=w11.heap.size) w34 w36:=(Chg.then ((Chg.refl (fun k=>k=w11.heap.size) w34).trans hEw35.chg) hCw36 (fun k hk hs=>by have h:k=_:=hs;first | exact hs | exact .inl h | exact .inr h |(exfalso;omega)))
       refine ⟨.inr hX10, ?_⟩
       refine zJ (zp (zc (ze (zb (zv (some 175) .i64 (IntKind.i64.wrap (((c:Nat):Int)+((1:Nat):Int))) (c+1) (zG (by omega) (by omega) (by omega)) ?_)))))
       refine zd 1 [(128,(vI (c+1)))] (zg (zC ?_))
       have hK34:=(((((((((((((((((hkhR56.ext hEw28)).ext hEw29)).ext hEw30)).ext hEw31)).chg hCw32 (fun hs=>by have h:_=_:=hs;omega))).ext hEw33)).ext hEw34)).ext hEw35)).chg hCw36 (fun hs=>by have h:_=_:=hs;omega))
       have hX11:Ext w w36:=(Ext.own ((((Ext.own ((((hEhR5.trans hEw28).trans hEw29).trans hEw30).trans hEw31) hCw32 (by omega)).trans hEw33).trans hEw34).trans hEw35) hCw36 (by omega))
       refine zS (c+1) ?_ ?_
       ·exact ⟨by omega,by exact hBw36,hK34,(((hK29.ext hEw35)).chg hCw36 (fun hs=>by have h:_=_:=hs;omega)),(((hK28.ext hEw35)).chg hCw36 (fun hs=>by have h:_=_:=hs;omega)),(((hK30.ext hEw35)).chg hCw36 (fun k h1 h2 hs=>by have h:k=_:=hs;omega)),(((hK31.ext hEw35)).chg hCw36 (fun k h1 h2 hs=>by have h:k=_:=hs;omega)),hX11⟩
       ·first | omega |(dsimp only;omega)
      ·replace hc142:¬(usd ((TX n (gB l s n v c)).getD (num n (v-1)+c) Nod.zero) 4>0):=by have:=zal hc142;omega
       have hem:=hus.2 (by omega)
       refine zg (zc (zr (zy (zp (zc (ze (zb (zv (some 175) .i64 (IntKind.i64.wrap (((c:Nat):Int)+((1:Nat):Int))) (c+1) (zG (by omega) (by omega) (by omega)) ?_))))))))
       refine zd 1 [(128,(vI (c+1)))] (zg (zC (zS (c+1) ?_ ?_)))
       ·exact ⟨by omega,by rw [←zoW (zfz hem)];exact (((hR5.ext hEw28)).ext hEw29),(((hkhR56.ext hEw28)).ext hEw29),(((hkhR58.ext hEw28)).ext hEw29),(((hkhR514.ext hEw28)).ext hEw29),(((hs1hR5.ext hEw28)).ext hEw29),(((hs2hR5.ext hEw28)).ext hEw29),((hEhR5.trans hEw28).trans hEw29)⟩
       ·first | omega |(dsimp only;omega)
     ·replace hc129:¬(c<gt (za7 n (hgt n+1)) (v-1)):=by have:=zal hc129;omega
      obtain rfl:c=cnt n (v-1):=by omega
      refine zg (zc (zf (zr (zaf (zH (zH (zT (zp (zc ?_)))))))))
      refine ze (zd 1 [(120,(vI v))] (zb (zv (some 121) .i64 (IntKind.i64.wrap (((v:Nat):Int)+((1:Nat):Int))) (v+1) (zG (by omega) (by omega) (by omega)) ?_)))
      refine zd 1 [(20,(vI (v+1)))] (zg (zC (zS (v+1) ?_ ?_)))
      ·exact ⟨by omega,by rw [←zl7 hnl (by omega)];exact hR5,hkhR56,hkhR58,hkhR514,hs1hR5,hs2hR5,hEhR5⟩
      ·first | omega |(dsimp only;omega)
    ·replace hc119:¬(v<hgt n+1):=by have:=zal hc119;omega
     obtain rfl:v=hgt n+1:=by omega
     refine zg (zc (zr (zaf (zH (zH (zT (zc (zf (ze ?_)))))))))
     refine zb (zj (some 176) (Instr.loadAt 50 (vP w12.heap.size 0)) (vA [(vI n),(.slice (pA w11.heap.size 0) (tot n) (tot n))]) (zD (vs:= [(vI n),(.slice (pA w11.heap.size 0) (tot n) (tot n))]) (hkhR414.all)) ?_)
     refine zb (zz 50 w.heap.size 0 50 (vA [(vI n),(.slice (pA w11.heap.size 0) (tot n) (tot n))]) ([(vI 0),(.slice none 0 0)]) ([(vI n),(.slice (pA w11.heap.size 0) (tot n) (tot n))]) hkhR46 (by kernel_rfl) (by first | decide |(simp;done)|(simp;omega)) (by simp [Value.oneCell']) ?_)
     intro w37 hBw37 hCw37
     have hzw37:=hCw37.size
     rw [zm _ _ (by kernel_rfl)] at hBw37
     exact zd 1 [(7,(vI 0))] (zg (zc (zx (zas (show zab Tryz.prog 177 _ _ (.cell 6 50) (vA [(vI n),(.slice (pA w11.heap.size 0) (tot n) (tot n))]) from ⟨⟨w.heap.size,0,none⟩,(by kernel_rfl),zP (T:=50) (vs:= [(vI n),(.slice (pA w11.heap.size 0) (tot n) (tot n))]) (hBw37).all (by kernel_rfl)⟩) (show zab Tryz.prog 177 _ _ (.tmp 7) (vI 0) by (show _=_;kernel_rfl)) (⟨_,rfl,OwM.of_full (by rw [←zoy hnl];exact ((hR4).chg hCw37 (fun hs=>by have h:_=_:=hs;omega))) zW (by rw [zge,←hnl]) (by simp only [maxLen];omega) (by omega) (by omega),(Ext.own hEhR4 hCw37 (by omega))⟩)))))
end Go.Proofs.YtgdpdnokcnhgnaaGreatDoor
namespace Go.Proofs.YtgdpdnokcnhgnaaGreatDoor
open Go Go.RowKit Go.Cs
set_option maxRecDepth 100000
theorem zmW (n:Nat) (a_l:Option Addr) (n_l c_l:Nat) (a_s:Option Addr) (n_s c_s:Nat) (w:World) (hp0:1≤n) (hp1:n≤4096) (hp2:n_l≠n):
  Calls Tryz.prog 16 #[(vI n),(.slice a_l n_l c_l),(.slice a_s n_s c_s)] w (Ret fun r w'=>r=(.tuple #[(vA [(vI 0),(.slice none 0 0)]),(vI 1)])∧Ext w w'):=by
 refine zL (n:=177) (σ:= [(0,(vI n)),(1,(.slice a_l n_l c_l)),(2,(.slice a_s n_s c_s))]) Tryz.func16 rfl ?_
 have h5:=zaz n
 refine zf (ze (zb (zt (some 6) (Instr.alloc 50 true (.tuple #[])) (vP w.heap.size 0) ([(vI 0),(.slice none 0 0)]) 50 ?_)))
 intro w1 hBw1 hEw1
 have hzw1:=hEw1.size;have hlw1:=hBw1.lt
 refine zd 1 [(7,(vI 0))] (zg (zc (zf (ze (zd 1 [(28,(vI n))] (zb (zi (some 29) (ziS n _ (by omega) (by omega)) ?_)))))))
 rintro _ w2 ⟨a1,ca1,a2,ca2,rfl,hFz1_0,hFz1_1,hEw2⟩
 have hzw2:=hEw2.size
 have hlea1:=hFz1_0.le
 have hlea2:=hFz1_1.le
 refine zd 3 [(31,(vI 0)),(30,(vA [(vI n),(.slice a1 (hgt n+1) ca1),(.slice a2 (hgt n+1) ca2)])),(27,(.tuple #[(vA [(vI n),(.slice a1 (hgt n+1) ca1),(.slice a2 (hgt n+1) ca2)]),(vI 0)]))] (zb (zt (some 8) (Instr.alloc 106 true (.tuple #[])) (vP w2.heap.size 0) ([(vI 0),(.slice none 0 0),(.slice none 0 0)]) 106 ?_))
 intro w3 hBw3 hEw3
 have hzw3:=hEw3.size;have hlw3:=hBw3.lt
 refine zb (zz 106 w2.heap.size 0 106 (vA [(vI n),(.slice a1 (hgt n+1) ca1),(.slice a2 (hgt n+1) ca2)]) ([(vI 0),(.slice none 0 0),(.slice none 0 0)]) ([(vI n),(.slice a1 (hgt n+1) ca1),(.slice a2 (hgt n+1) ca2)]) hBw3 (by kernel_rfl) (by first | decide |(simp;done)|(simp;omega)) (by simp [Value.oneCell']) ?_)
 intro w4 hBw4 hCw4
 have hzw4:=hCw4.size
 rw [zm _ _ (by kernel_rfl)] at hBw4
 refine zd 1 [(9,(vI 0))] (zg (zc (zf (zf (ze (zd 1 [(32,(vI 0))] (zb (zat (some 33) (((0:Nat):Int) !=((0:Nat):Int)) false (zaL (by omega)) ?_))))))))
 refine zg (zc (zr (zy (zc (zf (ze (zd 1 [(10,(.func (.func 46) #[] #[]))] (zg (zc ?_)))))))))
 refine zf (zf (ze (zd 3 [(38,(vI n)),(37,(vI n_l)),(36,(.slice a_l n_l c_l))] (zb (zat (some 39) (((n_l:Nat):Int) !=((n:Nat):Int)) true (zcq (by omega)) ?_)))))
 refine zd 12 [(51,vT),(50,undef),(49,undef),(48,undef),(47,vT),(46,vT),(45,undef),(44,undef),(43,undef),(42,undef),(41,undef),(40,vT)] (zg (zc (zF (zf (ze (zd 1 [(52,(vA [(vI 0),(.slice none 0 0)]))] ?_))))))
 have hK1:=(((((hBw1.ext hEw2)).ext hEw3)).chg hCw4 (fun hs=>by have h:_=_:=hs;omega))
 refine zb (zz 50 w.heap.size 0 50 (vA [(vI 0),(.slice none 0 0)]) ([(vI 0),(.slice none 0 0)]) ([(vI 0),(.slice none 0 0)]) hK1 (by kernel_rfl) (by first | decide |(simp;done)|(simp;omega)) (by simp [Value.oneCell']) ?_)
 have hK2:=(((((hBw1.ext hEw2)).ext hEw3)).chg hCw4 (fun hs=>by have h:_=_:=hs;omega))
 intro w5 hBw5 hCw5
 have hzw5:=hCw5.size
 rw [zm _ _ (by kernel_rfl)] at hBw5
 refine zd 1 [(7,(vI 1))] (zg (zc (zx (zu (zas (show zab Tryz.prog 177 _ _ (.cell 6 50) (vA [(vI 0),(.slice none 0 0)]) from ⟨⟨w.heap.size,0,none⟩,(by kernel_rfl),zP (T:=50) (vs:= [(vI 0),(.slice none 0 0)]) (hBw5).all (by kernel_rfl)⟩) (show zab Tryz.prog 177 _ _ (.tmp 7) (vI 1) by (show _=_;kernel_rfl)) ?_)))))
 have hX1:Ext w w5:=(Ext.own (Ext.own ((hEw1.trans hEw2).trans hEw3) hCw4 (by omega)) hCw5 (by omega))
 exact ⟨rfl,hX1⟩
end Go.Proofs.YtgdpdnokcnhgnaaGreatDoor
namespace Go.Proofs.YtgdpdnokcnhgnaaGreatDoor
open Go Go.RowKit Go.Cs
set_option maxRecDepth 100000
theorem zh7 {lo_x hi_x:Nat} {a_x:Option Addr} {n_x c_x:Nat} {x:List Nod} (w:World) (h_x:Ms zK 274 lo_x hi_x w a_x n_x c_x x):
  Calls Tryz.prog 58 #[(.slice a_x n_x c_x)] w (Ret fun r w'=>∃a0,r=(.slice a0 n_x n_x)∧Ms zK 274 lo_x w'.heap.size w' a0 n_x n_x x∧w=w'):=by
 refine zL (n:=9) (σ:= [(0,(.slice a_x n_x c_x))]) Tryz.func58 rfl ?_
 replace h_x:=h_x.now;have hle_x:=h_x.le
 refine zf (ze (zd 1 [(2,(.slice none 0 0))] (zg (zc (zf (ze (zd 5 [(7,(vI n_x)),(6,(.slice a_x n_x c_x)),(5,(vI n_x)),(4,(.slice a_x n_x c_x)),(3,(.slice a_x n_x c_x))] ?_)))))))
 obtain ⟨a1,hR1,hS1⟩:=h_x.slice Tryz.prog 24 47 0 n_x n_x none (some (vI n_x)) (some (vI n_x))
 refine zb (zj (some 8) (Instr.sliceAt 24 (.slice a_x n_x c_x) none (some (vI n_x)) (some (vI n_x))) (.slice a1 (n_x-0) (n_x-0)) (hR1 _) ?_)
 refine zd 1 [(2,(.slice a1 (n_x-0) (n_x-0)))] (zg (zc (zx (zB (.slice a1 (n_x-0) (n_x-0)) ?_))))
 have hfin:=hS1
 rw [List.drop_zero,Nat.sub_zero,show x.take n_x=x from by rw [h_x.len_eq,List.take_length]] at hfin
 exact ⟨_,rfl,hfin.mono (Nat.le_refl _) (by omega),rfl⟩
set_option maxHeartbeats 4000000 in
theorem zgC (n:Nat) {lo_t hi_t:Nat} {a_t:Option Addr} {n_t c_t:Nat} {t:List Nod} (b:Nat) (w:World) (h_t:Ms zK 274 lo_t hi_t w a_t n_t c_t t) (hp0:1≤n) (hp1:n≤4096) (hp2:n_t=tot n) (hp3:zbJ n t=0) (hp4:b<n) (hg0:Gl 0 [vI 45,vI 33] w) (hg1:Gl 2 (w8C za2) w) (hg2:Gl 3 (zR kA) w) (hg3:Gl 1 [.iface 199 (.agg #[.pointer (some ⟨4,99,none⟩)])] w):
  Calls Tryz.prog 25 #[(vA [(vI n),(.slice a_t n_t c_t)]),(vI b)] w (Ret fun r w'=>∃a1,r=(.tuple #[(vA [(vI b),(.slice a1 (mny n t b) (mny n t b))]),(vI 0)])∧Ms zK 274 w.heap.size w'.heap.size w' a1 (mny n t b) (mny n t b) (zaR n t b (mny n t b))∧Ext w w'):=by
 refine zL (n:=83) (σ:= [(0,(vA [(vI n),(.slice a_t n_t c_t)])),(1,(vI b))]) Tryz.func25 rfl ?_
 replace h_t:=h_t.now;have hle_t:=h_t.le
 have hgl0:=hg0.lt
 have hgl1:=hg1.lt
 have hgl2:=hg2.lt
 have hgl3:=hg3.lt
 have h5:=zaz n
 have hlt:=h_t.len_eq
 have hts:=zbN hp1
 have hle:=h_t.le
 refine zf (ze (zb (zt (some 2) (Instr.box 50 (vA [(vI n),(.slice a_t n_t c_t)])) (vP w.heap.size 0) ([(vI n),(.slice a_t n_t c_t)]) 50 ?_)))
 intro w1 hBw1 hEw1
 have hzw1:=hEw1.size;have hlw1:=hBw1.lt
 refine zb (zt (some 4) (Instr.alloc 26 true (.tuple #[])) (vP w1.heap.size 0) ([(vI 0),(.slice none 0 0)]) 26 ?_)
 intro w2 hBw2 hEw2
 have hzw2:=hEw2.size;have hlw2:=hBw2.lt
 refine zd 1 [(5,(vI 0))] (zg (zc (zf (ze (zb (zj (some 14) (Instr.loadAt 50 (vP w.heap.size 0)) (vA [(vI n),(.slice a_t n_t c_t)]) (zD (vs:= [(vI n),(.slice a_t n_t c_t)]) ((hBw1.ext hEw2).all)) ?_))))))
 refine zb (zi (some 15) (zhS n _ (((h_t.ext hEw1)).ext hEw2) (by omega) (by omega) (by omega) (((hg0.ext hEw1)).ext hEw2) (((hg1.ext hEw1)).ext hEw2) (((hg2.ext hEw1)).ext hEw2) (((hg3.ext hEw1)).ext hEw2)) ?_)
 rintro _ w3 ⟨a1,ca1,a2,ca2,rfl,hFz1_0,hFz1_1,hEw3⟩
 have hzw3:=hEw3.size
 have hlea1:=hFz1_0.le
 have hlea2:=hFz1_1.le
 rw [show zbJ n t=0 from hp3]
 refine zd 3 [(17,(vI 0)),(16,(vA [(vI n),(.slice a1 (hgt n+1) ca1),(.slice a2 (hgt n+1) ca2)])),(13,(.tuple #[(vA [(vI n),(.slice a1 (hgt n+1) ca1),(.slice a2 (hgt n+1) ca2)]),(vI 0)]))] (zb (zt (some 6) (Instr.alloc 106 true (.tuple #[])) (vP w3.heap.size 0) ([(vI 0),(.slice none 0 0),(.slice none 0 0)]) 106 ?_))
 intro w4 hBw4 hEw4
 have hzw4:=hEw4.size;have hlw4:=hBw4.lt
 refine zb (zz 106 w3.heap.size 0 106 (vA [(vI n),(.slice a1 (hgt n+1) ca1),(.slice a2 (hgt n+1) ca2)]) ([(vI 0),(.slice none 0 0),(.slice none 0 0)]) ([(vI n),(.slice a1 (hgt n+1) ca1),(.slice a2 (hgt n+1) ca2)]) hBw4 (by kernel_rfl) (by first | decide |(simp;done)|(simp;omega)) (by simp [Value.oneCell']) ?_)
 intro w5 hBw5 hCw5
 have hzw5:=hCw5.size
 rw [zm _ _ (by kernel_rfl)] at hBw5
 refine zd 1 [(7,(vI 0))] (zg (zc (zf (zf (ze (zd 1 [(18,(vI 0))] (zb (zat (some 19) (((0:Nat):Int) !=((0:Nat):Int)) false (zaL (by omega)) ?_))))))))
 refine zg (zc (zr (zy (zc (zf (ze (zd 1 [(23,(vP w.heap.size 0))] ?_)))))))
 have hK1:=(((((((hBw1.ext hEw2)).ext hEw3)).ext hEw4)).chg hCw5 (fun hs=>by have h:_=_:=hs;omega))
 refine zb (zj (some 24) (Instr.loadAt 3 (vP w.heap.size 0)) (vI n) (zo (hK1.cell rfl)) ?_)
 refine zd 1 [(25,(vI b))] (zb (zi (some 26) (zhn n b _ (by omega) (by omega) (by omega)) ?_))
 rintro _ w6 ⟨a3,rfl,hFz2_0,hEw6⟩
 have hzw6:=hEw6.size
 have hlea3:=hFz2_0.le
 refine zd 5 [(7,(vI 0)),(8,(.slice a3 (hgt n+1) (hgt n+1))),(28,(vI 0)),(27,(.slice a3 (hgt n+1) (hgt n+1))),(22,(.tuple #[(.slice a3 (hgt n+1) (hgt n+1)),(vI 0)]))] (zg (zc (zf (zf (ze (zd 1 [(29,(vI 0))] (zb (zat (some 30) (((0:Nat):Int) !=((0:Nat):Int)) false (zaL (by omega)) ?_))))))))
 refine zg (zc (zr (zy (zc (zf (ze (zd 2 [(34,(vA [(vI b),(.slice none 0 0)])),(33,(vI b))] (zb (zt (some 9) (Instr.alloc 26 true (.tuple #[])) (vP w6.heap.size 0) ([(vI 0),(.slice none 0 0)]) 26 ?_)))))))))
 intro w7 hBw7 hEw7
 have hzw7:=hEw7.size;have hlw7:=hBw7.lt
 refine zb (zz 26 w6.heap.size 0 26 (vA [(vI b),(.slice none 0 0)]) ([(vI 0),(.slice none 0 0)]) ([(vI b),(.slice none 0 0)]) hBw7 (by kernel_rfl) (by first | decide |(simp;done)|(simp;omega)) (by simp [Value.oneCell']) ?_)
 intro w8 hBw8 hCw8
 have hzw8:=hCw8.size
 rw [zm _ _ (by kernel_rfl)] at hBw8
 refine zg (zc (zf (zf (ze (zd 3 [(37,(vI 0)),(36,(vI (hgt n+1))),(35,(.slice a3 (hgt n+1) (hgt n+1)))] (zg (zc (zI (zah (X:=Nat×Option Addr×Nat) (fun ⟨i,ao,cp⟩=> [(37,(vI i))]) [10,11,12,38,39,40,41,42,43,44,45,46,47,48,49,50,51,52,53,54,55,56,57,58,59,60,61,62,63,64,65,66,67,68,69,70,71,72,73,74,75,76,77] (fun ⟨i,ao,cp⟩ w9=>i≤hgt n+1∧(∀k,k<i→k<hgt n→¬((zcM n t b k).es.get (idx b (hgt n-k-1)%4)).st=0)∧OwM zK 274 w8.heap.size w9.heap.size w9 ao i cp 47 (zaR n t b i)∧Blk w9 w6.heap.size ([(vI b),(.slice ao i cp)]) 26∧Chg (fun k=>k=w6.heap.size) w8 w9) (fun ⟨i,ao,cp⟩=>hgt n+1-i) (0,none,0) (by kernel_rfl) ⟨Nat.zero_le _,fun k h=>absurd h (Nat.not_lt_zero _),OwM.nil _ _ _ _ _ _ zW,hBw8,Chg.refl _ _⟩ ?_)))))))))
 rintro ⟨i,ao,cp⟩ dw9 w9 ⟨hi,hns,hO,hB9,hEl⟩
 have hzl:=hEl.size;have hl9:=hB9.lt
 have hmO:=hO.ms;have hleO:=hmO.le
 refine zf (ze (zb (zO (some 38) (decide (((i:Nat):Int)<((hgt n+1:Nat):Int))) (fun hc38=> ?_) (fun hc38=> ?_))))
 ·replace hc38:i<hgt n+1:=by have:=zak hc38;omega
  have hij:=zbv (n:=n) (i:=b) (by omega) (hgt n-i)
  have hpl:=zbe (n:=n) (l:=hgt n-i) (j:=idx b (hgt n-i)) (by omega) hij
  have hib:=zfV b (hgt n-i)
  refine zg (zc (zf (zF (zy (zc (zf (zI (zf (ze ?_)))))))))
  refine zd 1 [(39,(vI i))] ?_
  obtain ⟨b1,o1,rfl⟩:=hFz2_0.addr (by omega) (by decide)
  refine zb (zj (some 40) (Instr.indexAt 94 (.slice (pA b1 o1) (hgt n+1) (hgt n+1)) (vI i)) (vP b1 (o1+i*2)) (zap (E:=70) (sz:=2) (by omega)) ?_)
  have hK2:=(((((hFz2_0.ext hEw7)).chg hCw8 (fun k h1 h2 hs=>by have h:k=_:=hs;omega))).chg hEl (fun k h1 h2 hs=>by have h:k=_:=hs;omega))
  refine zb (zj (some 41) (Instr.loadAt 70 (vP b1 (o1+i*2))) (vA [(vI (hgt n-i)),(vI (idx b (hgt n-i)))]) (zD (vs:= [(vI (hgt n-i)),(vI (idx b (hgt n-i)))]) (by have hz:=hK2.at (0,0) (show i<hgt n+1 by omega);rw [zdz (by omega)] at hz;exact hz)) ?_)
  refine zb (zt (some 11) (Instr.alloc 70 true (.tuple #[])) (vP w9.heap.size 0) ([(vI 0),(vI 0)]) 70 ?_)
  intro w10 hBw10 hEw10
  have hzw10:=hEw10.size;have hlw10:=hBw10.lt
  refine zd 1 [(10,(vI i))] (zb (zz 70 w9.heap.size 0 70 (vA [(vI (hgt n-i)),(vI (idx b (hgt n-i)))]) ([(vI 0),(vI 0)]) ([(vI (hgt n-i)),(vI (idx b (hgt n-i)))]) hBw10 (by kernel_rfl) (by first | decide |(simp;done)|(simp;omega)) (by simp [Value.oneCell']) ?_))
  intro w11 hBw11 hCw11
  have hzw11:=hCw11.size
  rw [zm _ _ (by kernel_rfl)] at hBw11
  refine zg (zc (zf (zag (Ext w11.drew) 12 [(43,4,0),(44,4398046511104,1),(45,64,0),(46,2048,0),(47,35184372088832,8),(48,2048,0),(49,140737488355328,32),(50,369435906932736,84),(51,571746046443520,130),(52,1125899906842624,256),(13,0,0),(0,2251799813689344,2047)] (fun hT145=> ?_))))
  have hEw12:Ext w11 w11.drew:=Ext.drew w11
  generalize w11.drew=w12 at hEw12⊢
  have hzw12:=hEw12.size
  refine zk hT145 [(0,42,(vP w.heap.size 1))] 1 1 ?_
  have hK3:=(((((((((((((hK1.ext hEw6)).ext hEw7)).chg hCw8 (fun hs=>by have h:_=_:=hs;omega))).chg hEl (fun hs=>by have h:_=_:=hs;omega))).ext hEw10)).chg hCw11 (fun hs=>by have h:_=_:=hs;omega))).ext hEw12)
  refine zh hT145 1 3 (some 43) (.slice a_t n_t c_t) (zl (Instr.loadAt 24 (vP w.heap.size 1)) (fun w' hC=>zo ((hK3.ext hC).cell rfl))) ?_
  have hK4:=(((((((((((((hBw5.ext hEw6)).ext hEw7)).chg hCw8 (fun hs=>by have h:_=_:=hs;omega))).chg hEl (fun hs=>by have h:_=_:=hs;omega))).ext hEw10)).chg hCw11 (fun hs=>by have h:_=_:=hs;omega))).ext hEw12)
  refine zh hT145 2 7 (some 44) (vA [(vI n),(.slice a1 (hgt n+1) ca1),(.slice a2 (hgt n+1) ca2)]) (zl (Instr.loadAt 106 (vP w3.heap.size 0)) (fun w' hC=>zD (vs:= [(vI n),(.slice a1 (hgt n+1) ca1),(.slice a2 (hgt n+1) ca2)]) ((hK4.ext hC).all))) (zk hT145 [(3,45,(vP w9.heap.size 0))] 1 15 (zh hT145 4 31 (some 46) (vI (hgt n-i)) (zl (Instr.loadAt 3 (vP w9.heap.size 0)) (fun w' hC=>zo (((hBw11.ext hEw12).ext hC).cell rfl))) (zk hT145 [(5,47,(vP w9.heap.size 1))] 1 63 (zh hT145 6 127 (some 48) (vI (idx b (hgt n-i))) (zl (Instr.loadAt 3 (vP w9.heap.size 1)) (fun w' hC=>zo (((hBw11.ext hEw12).ext hC).cell rfl))) (zay 7 10 255 1151 ?_ ?_)))))
  ·have hK5:=(((((((((((((((((hFz1_0.ext hEw4)).chg hCw5 (fun k h1 h2 hs=>by have h:k=_:=hs;omega))).ext hEw6)).ext hEw7)).chg hCw8 (fun k h1 h2 hs=>by have h:k=_:=hs;omega))).chg hEl (fun k h1 h2 hs=>by have h:k=_:=hs;omega))).ext hEw10)).chg hCw11 (fun k h1 h2 hs=>by have h:k=_:=hs;omega))).ext hEw12)
   have hK6:=(((((((((((((((((hFz1_1.ext hEw4)).chg hCw5 (fun k h1 h2 hs=>by have h:k=_:=hs;omega))).ext hEw6)).ext hEw7)).chg hCw8 (fun k h1 h2 hs=>by have h:k=_:=hs;omega))).chg hEl (fun k h1 h2 hs=>by have h:k=_:=hs;omega))).ext hEw10)).chg hCw11 (fun k h1 h2 hs=>by have h:k=_:=hs;omega))).ext hEw12)
   refine zi (some 49) (zcs n (hgt n-i) (idx b (hgt n-i)) _ hK5 hK6 (by first | rfl | assumption) (by first | rfl | assumption) (by omega) (by omega) (by omega) (by omega)) ?_
   rintro _ w13 ⟨rfl,hEw13⟩
   have hzw13:=hEw13.size
   refine ⟨.inr hEw13, ?_⟩
   obtain ⟨b2,o2,rfl⟩:=h_t.addr (by omega) (by decide)
   refine zh (hw:=hEw13) hT145 8 511 (some 50) (vP b2 (o2+(num n (hgt n-i)+(idx b (hgt n-i)))*274)) (zl (Instr.indexAt 24 (.slice (pA b2 o2) n_t c_t) (vI (num n (hgt n-i)+(idx b (hgt n-i))))) (fun w' hC=>zap (E:=47) (sz:=274) (by omega))) ?_
   have hK7:=(((((((((((((((((((((((h_t.ext hEw1)).ext hEw2)).ext hEw3)).ext hEw4)).chg hCw5 (fun k h1 h2 hs=>by have h:k=_:=hs;omega))).ext hEw6)).ext hEw7)).chg hCw8 (fun k h1 h2 hs=>by have h:k=_:=hs;omega))).chg hEl (fun k h1 h2 hs=>by have h:k=_:=hs;omega))).ext hEw10)).chg hCw11 (fun k h1 h2 hs=>by have h:k=_:=hs;omega))).ext hEw12)
   refine zh (hw:=hEw13) hT145 9 1023 (some 51) (vA (zK (t.getD (num n (hgt n-i)+(idx b (hgt n-i))) Nod.zero))) (zl (Instr.loadAt 47 (vP b2 (o2+(num n (hgt n-i)+(idx b (hgt n-i)))*274))) (fun w' hC=>zD (vs:=zK (t.getD (num n (hgt n-i)+(idx b (hgt n-i))) Nod.zero)) ((hK7.ext hC).at Nod.zero (by omega)) (by rw [zW];kernel_rfl))) (zn 10 2047 (zt (some 12) (Instr.alloc 47 true (.tuple #[])) (vP w13.heap.size 0) (zK Nod.zero) 47 ?_))
   intro w14 hBw14 hEw14
   have hzw14:=hEw14.size;have hlw14:=hBw14.lt
   have hX1:Ext w12 w14:=(hEw13.trans hEw14)
   refine ⟨.inr hX1, ?_⟩
   refine zn 11 4095 (zz 47 w13.heap.size 0 47 (vA (zK (t.getD (num n (hgt n-i)+(idx b (hgt n-i))) Nod.zero))) (zK Nod.zero) (zK (t.getD (num n (hgt n-i)+(idx b (hgt n-i))) Nod.zero)) hBw14 (by rw [zW];kernel_rfl) (by first |(simp;done)|(simp;omega)) (zcG _) ?_)
   intro w15 hBw15 hCw15
   have hzw15:=hCw15.size
   rw [zm _ _ (by simp)] at hBw15
   refine ⟨.inl (by kernel_rfl), ?_⟩
   refine zJ (zc (zf (ze (zd 1 [(52,(vP w6.heap.size 1))] ?_))))
   have hK8:=(((((((((((hB9.ext hEw10)).chg hCw11 (fun hs=>by have h:_=_:=hs;omega))).ext hEw12)).ext hEw13)).ext hEw14)).chg hCw15 (fun hs=>by have h:_=_:=hs;omega))
   refine zb (zj (some 53) (Instr.loadAt 24 (vP w6.heap.size 1)) (.slice ao i cp) (zo (hK8.cell rfl)) ?_)
   refine zb (zj (some 54) (Instr.loadAt 47 (vP w13.heap.size 0)) (vA (zK (t.getD (num n (hgt n-i)+(idx b (hgt n-i))) Nod.zero))) (zD (vs:=zK (t.getD (num n (hgt n-i)+(idx b (hgt n-i))) Nod.zero)) (hBw15.all) (by rw [zW];kernel_rfl)) ?_)
   refine zb (zt (some 55) (Instr.buildSlice 24 1 #[(0,(vA (zK (t.getD (num n (hgt n-i)+(idx b (hgt n-i))) Nod.zero))))]) (.slice (pA w15.heap.size 0) 1 1) (([(t.getD (num n (hgt n-i)+(idx b (hgt n-i))) Nod.zero)]:List Nod).flatMap zK) 47 ?_ (hr:=zgw (f:=zK) (sz:=274) (z:=(vA (zK Nod.zero))) [(t.getD (num n (hgt n-i)+(idx b (hgt n-i))) Nod.zero)] zW (by decide) rfl (Nat.succ_pos _) (show 274≤2^24 from by decide) rfl))
   intro w16 hBw16 hEw16
   have hzw16:=hEw16.size;have hlw16:=hBw16.lt
   have hmw16:Ms zK 274 w15.heap.size (w15.heap.size+1) w16 (pA w15.heap.size 0) 1 1 [(t.getD (num n (hgt n-i)+(idx b (hgt n-i))) Nod.zero)]:=Ms.of_pre (r:= []) (by rw [List.append_nil];exact hBw16) zW rfl (Nat.le_refl _) (by decide) (Nat.le_refl _) (Nat.lt_succ_self _)
   have hK9:=(((((((((((((hO.ext hEw10)).chg hCw11 (fun k h1 h2 hs=>by have h:k=_:=hs;omega))).ext hEw12)).ext hEw13)).ext hEw14)).chg hCw15 (fun k h1 h2 hs=>by have h:k=_:=hs;omega))).ext hEw16)
   refine zb (zhp (some 56) 24 24 47 368 (vA (zK Nod.zero)) hK9 hmw16 zcG ?_ (by rw [Value.cells,List.size_toArray,zW]) (by decide))
   intro a4 c1 w17 hOw17 hCw17
   have hzw17:=hCw17.size
   have hSw17:=hOw17.ms;have hlea4:=hSw17.le
   refine zd 1 [(57,(vP w6.heap.size 1))] ?_
   have hK10:=(((((((((((((hO.ext hEw10)).chg hCw11 (fun k h1 h2 hs=>by have h:k=_:=hs;omega))).ext hEw12)).ext hEw13)).ext hEw14)).chg hCw15 (fun k h1 h2 hs=>by have h:k=_:=hs;omega))).ext hEw16)
   refine zb (zV 24 w6.heap.size 1 26 (.slice a4 (i+1) c1) ([(vI b),(.slice ao i cp)]) (((hK8.ext hEw16)).chg hCw17 (fun hs=>by have hn:=hK10.ne hs;omega)) (by first | decide |(simp;done)|(simp;omega)) ?_)
   have hK11:=(((((((((((((hO.ext hEw10)).chg hCw11 (fun k h1 h2 hs=>by have h:k=_:=hs;omega))).ext hEw12)).ext hEw13)).ext hEw14)).chg hCw15 (fun k h1 h2 hs=>by have h:k=_:=hs;omega))).ext hEw16)
   intro w18 hBw18 hCw18
   have hzw18:=hCw18.size
   rw [show (([(vI b),(.slice ao i cp)]).set 1 (.slice a4 (i+1) c1):List Value)= [(vI b),(.slice a4 (i+1) c1)] from rfl] at hBw18
   refine zg (zc (zf (ze (zd 1 [(58,(vI i))] (zb (zv (some 59) .i64 (IntKind.i64.wrap (((i:Nat):Int)+((1:Nat):Int))) (i+1) (zG (by omega) (by omega) (by omega)) ?_))))))
   refine zd 2 [(61,(vI (hgt n+1))),(60,(.slice (pA b1 o1) (hgt n+1) (hgt n+1)))] (zb (zO (some 62) (decide (((i+1:Nat):Int)<((hgt n+1:Nat):Int))) (fun hc62=> ?_) (fun hc62=> ?_)))
   ·replace hc62:i+1<hgt n+1:=by have:=zak hc62;omega
    have hq3:((zdd n b).getD (i+1) (0,0)).2=idx b (hgt n-i-1):=by rw [zdz (by omega)];rfl
    have hib2:=zfV b (hgt n-i-1)
    refine zd 3 [(65,(vI i)),(64,(.slice (pA b1 o1) (hgt n+1) (hgt n+1))),(63,vT)] (zb (zv (some 66) .i64 (IntKind.i64.wrap (((i:Nat):Int)+((1:Nat):Int))) (i+1) (zG (by omega) (by omega) (by omega)) ?_))
    refine zb (zj (some 67) (Instr.indexAt 94 (.slice (pA b1 o1) (hgt n+1) (hgt n+1)) (vI (i+1))) (vP b1 (o1+(i+1)*2)) (zap (E:=70) (sz:=2) (by omega)) ?_)
    refine zd 1 [(68,(vP b1 (o1+(i+1)*2+1)))] ?_
    have hK12:=(((((((((((((hO.ext hEw10)).chg hCw11 (fun k h1 h2 hs=>by have h:k=_:=hs;omega))).ext hEw12)).ext hEw13)).ext hEw14)).chg hCw15 (fun k h1 h2 hs=>by have h:k=_:=hs;omega))).ext hEw16)
    have hK13:=(((((((((((((((((hK2.ext hEw10)).chg hCw11 (fun k h1 h2 hs=>by have h:k=_:=hs;omega))).ext hEw12)).ext hEw13)).ext hEw14)).chg hCw15 (fun k h1 h2 hs=>by have h:k=_:=hs;omega))).ext hEw16)).chg hCw17 (fun k h1 h2 hs=>by have hn:=hK12.ne hs;omega))).chg hCw18 (fun k h1 h2 hs=>by have h:k=_:=hs;omega))
    refine zb (zj (some 69) (Instr.loadAt 3 (vP b1 (o1+(i+1)*2+1))) (vI (((zdd n b).getD (i+1) (0,0)).2)) (zo (hK13.cell (j:=1) (0,0) (by omega) rfl)) ?_)
    refine zb (zv (some 70) .i64 (((((zdd n b).getD (i+1) (0,0)).2:Nat):Int).tmod ((4:Nat):Int)) (idx b (hgt n-i-1)%4) ((zcP _ _).trans (by rw [hq3])) ?_)
    refine zd 1 [(71,(vP w13.heap.size 142))] (zb (zj (some 72) (Instr.indexAt 45 (vP w13.heap.size 142) (vI (idx b (hgt n-i-1)%4))) (vP w13.heap.size (142+(idx b (hgt n-i-1)%4)*33)) (zX (E:=44) (sz:=33) (m:=4) (by omega)) ?_))
    refine zd 1 [(73,(vP w13.heap.size (142+(idx b (hgt n-i-1)%4)*33)))] ?_
    have hK14:=(((((((((((((hO.ext hEw10)).chg hCw11 (fun k h1 h2 hs=>by have h:k=_:=hs;omega))).ext hEw12)).ext hEw13)).ext hEw14)).chg hCw15 (fun k h1 h2 hs=>by have h:k=_:=hs;omega))).ext hEw16)
    have hK15:=(((((hBw15.ext hEw16)).chg hCw17 (fun hs=>by have hn:=hK14.ne hs;omega))).chg hCw18 (fun hs=>by have h:_=_:=hs;omega))
    refine zb (zj (some 74) (Instr.loadAt 5 (vP w13.heap.size (142+(idx b (hgt n-i-1)%4)*33))) (vB (((t.getD (num n (hgt n-i)+(idx b (hgt n-i))) Nod.zero).es.get (idx b (hgt n-i-1)%4)).st)) (zo (hK15.cell (zic (by omega)))) ?_)
    refine zb (zO (some 75) ((((((t.getD (num n (hgt n-i)+(idx b (hgt n-i))) Nod.zero).es.get (idx b (hgt n-i-1)%4)).st:Nat):Int)==((0:Nat):Int))) (fun hc75=> ?_) (fun hc75=> ?_))
    ·replace hc75:((t.getD (num n (hgt n-i)+(idx b (hgt n-i))) Nod.zero).es.get (idx b (hgt n-i-1)%4)).st=0:=by have:=zbL hc75;omega
     have hmn:mny n t b=i+1:=zmR (by omega) (show ((zcM n t b i).es.get (idx b (hgt n-i-1)%4)).st=0 from hc75) (fun k hk=>hns k hk (by omega))
     refine zd 1 [(76,vT)] (zg (zc (zF (zaf (zdK (by decide) (zH (zH (zT (zc ?_)))))))))
     refine zf (ze (zd 1 [(78,(vP w6.heap.size 1))] (zb (zj (some 79) (Instr.loadAt 24 (vP w6.heap.size 1)) (.slice a4 (i+1) c1) (zo (hBw18.cell rfl)) ?_))))
     refine zb (zi (some 80) (zh7 _ ((hSw17).chg hCw18 (fun k h1 h2 hs=>by have h:k=_:=hs;omega))) ?_)
     rintro _ _ ⟨a5,rfl,hFz4_0,rfl⟩
     have hlea5:=hFz4_0.le
     refine zd 1 [(81,(vP w6.heap.size 1))] (zb (zV 24 w6.heap.size 1 26 (.slice a5 (i+1) (i+1)) ([(vI b),(.slice a4 (i+1) c1)]) hBw18 (by first | decide |(simp;done)|(simp;omega)) ?_))
     intro w19 hBw19 hCw19
     have hzw19:=hCw19.size
     rw [show (([(vI b),(.slice a4 (i+1) c1)]).set 1 (.slice a5 (i+1) (i+1)):List Value)= [(vI b),(.slice a5 (i+1) (i+1))] from rfl] at hBw19
     refine zg (zc (zf (ze (zb (zj (some 82) (Instr.loadAt 26 (vP w6.heap.size 0)) (vA [(vI b),(.slice a5 (i+1) (i+1))]) (zD (vs:= [(vI b),(.slice a5 (i+1) (i+1))]) (hBw19.all)) ?_)))))
     have hK16:=(((((((((((((hO.ext hEw10)).chg hCw11 (fun k h1 h2 hs=>by have h:k=_:=hs;omega))).ext hEw12)).ext hEw13)).ext hEw14)).chg hCw15 (fun k h1 h2 hs=>by have h:k=_:=hs;omega))).ext hEw16)
     have hK17:=(((((((((((((((((((((((((((((((((hBw2.ext hEw3)).ext hEw4)).chg hCw5 (fun hs=>by have h:_=_:=hs;omega))).ext hEw6)).ext hEw7)).chg hCw8 (fun hs=>by have h:_=_:=hs;omega))).chg hEl (fun hs=>by have h:_=_:=hs;omega))).ext hEw10)).chg hCw11 (fun hs=>by have h:_=_:=hs;omega))).ext hEw12)).ext hEw13)).ext hEw14)).chg hCw15 (fun hs=>by have h:_=_:=hs;omega))).ext hEw16)).chg hCw17 (fun hs=>by have hn:=hK16.ne hs;omega))).chg hCw18 (fun hs=>by have h:_=_:=hs;omega))).chg hCw19 (fun hs=>by have h:_=_:=hs;omega))
     refine zb (zz 26 w1.heap.size 0 26 (vA [(vI b),(.slice a5 (i+1) (i+1))]) ([(vI 0),(.slice none 0 0)]) ([(vI b),(.slice a5 (i+1) (i+1))]) hK17 (by kernel_rfl) (by first | decide |(simp;done)|(simp;omega)) (by simp [Value.oneCell']) ?_)
     have hK18:=(((((((((((((hO.ext hEw10)).chg hCw11 (fun k h1 h2 hs=>by have h:k=_:=hs;omega))).ext hEw12)).ext hEw13)).ext hEw14)).chg hCw15 (fun k h1 h2 hs=>by have h:k=_:=hs;omega))).ext hEw16)
     have hK19:=(((((((((((((((((((((((((((((((((hBw2.ext hEw3)).ext hEw4)).chg hCw5 (fun hs=>by have h:_=_:=hs;omega))).ext hEw6)).ext hEw7)).chg hCw8 (fun hs=>by have h:_=_:=hs;omega))).chg hEl (fun hs=>by have h:_=_:=hs;omega))).ext hEw10)).chg hCw11 (fun hs=>by have h:_=_:=hs;omega))).ext hEw12)).ext hEw13)).ext hEw14)).chg hCw15 (fun hs=>by have h:_=_:=hs;omega))).ext hEw16)).chg hCw17 (fun hs=>by have hn:=hK18.ne hs;omega))).chg hCw18 (fun hs=>by have h:_=_:=hs;omega))).chg hCw19 (fun hs=>by have h:_=_:=hs;omega))
     intro w20 hBw20 hCw20
     have hzw20:=hCw20.size
     rw [zm _ _ (by kernel_rfl)] at hBw20
     refine zd 1 [(5,(vI 0))] (zg (zc (zx (zas (show zab Tryz.prog 83 _ _ (.cell 4 26) (vA [(vI b),(.slice a5 (i+1) (i+1))]) from ⟨⟨w1.heap.size,0,none⟩,(by kernel_rfl),zP (T:=26) (vs:= [(vI b),(.slice a5 (i+1) (i+1))]) (hBw20).all (by kernel_rfl)⟩) (show zab Tryz.prog 83 _ _ (.tmp 5) (vI 0) by (show _=_;kernel_rfl)) ?_))))
     have hK20:=(((((((((((((hO.ext hEw10)).chg hCw11 (fun k h1 h2 hs=>by have h:k=_:=hs;omega))).ext hEw12)).ext hEw13)).ext hEw14)).chg hCw15 (fun k h1 h2 hs=>by have h:k=_:=hs;omega))).ext hEw16)
     have hX2:Ext w w20:=(Ext.own (Ext.own (Ext.own (Ext.ownS ((Ext.own ((((Ext.own ((Ext.own (Ext.own (((Ext.own (((hEw1.trans hEw2).trans hEw3).trans hEw4) hCw5 (by omega)).trans hEw6).trans hEw7) hCw8 (by omega)) hEl (by omega)).trans hEw10) hCw11 (by omega)).trans hEw12).trans hEw13).trans hEw14) hCw15 (by omega)).trans hEw16) hCw17 (fun k hs hk=>by have hn:=hK20.ne hs;omega)) hCw18 (by omega)) hCw19 (by omega)) hCw20 (by omega))
     rw [hmn,zdy]
     exact ⟨_,rfl,(((((hFz4_0).chg hCw19 (fun k h1 h2 hs=>by have h:k=_:=hs;omega))).chg hCw20 (fun k h1 h2 hs=>by have h:k=_:=hs;omega))).now.mono (by omega) (Nat.le_refl _),hX2⟩
    ·replace hc75:¬(((t.getD (num n (hgt n-i)+(idx b (hgt n-i))) Nod.zero).es.get (idx b (hgt n-i-1)%4)).st=0):=by have:=zbK hc75;omega
     have hst:i<hgt n→¬((zcM n t b i).es.get (idx b (hgt n-i-1)%4)).st=0:=fun _=>hc75
     refine zd 1 [(76,vF)] (zg (zc (zr (zy (zp (zc (ze (zb (zv (some 77) .i64 (IntKind.i64.wrap (((i:Nat):Int)+((1:Nat):Int))) (i+1) (zG (by omega) (by omega) (by omega)) ?_)))))))))
     refine zd 1 [(37,(vI (i+1)))] (zg (zC ?_))
     have hK21:=(((((((((((((hO.ext hEw10)).chg hCw11 (fun k h1 h2 hs=>by have h:k=_:=hs;omega))).ext hEw12)).ext hEw13)).ext hEw14)).chg hCw15 (fun k h1 h2 hs=>by have h:k=_:=hs;omega))).ext hEw16)
     refine zS (i+1,a4,c1) ?_ ?_
     ·exact ⟨by omega,fun k hk hh=>by rcases Nat.lt_succ_iff_lt_or_eq.1 hk with h1 | rfl;exact hns k h1 hh;exact hst hh,by rw [zdy];exact (((hOw17).chg hCw18 (fun k h1 h2 hs=>by have h:k=_:=hs;omega))).now,hBw18,(Chg.then (Chg.then ((Chg.then ((((Chg.then ((Chg.then (Chg.refl (fun k=>k=w6.heap.size) w8) hEl (fun k hk hs=>by have h:k=_:=hs;first | exact hs | exact .inl h | exact .inr h |(exfalso;omega))).trans hEw10.chg) hCw11 (fun k hk hs=>by have h:k=_:=hs;first | exact hs | exact .inl h | exact .inr h |(exfalso;omega))).trans hEw12.chg).trans hEw13.chg).trans hEw14.chg) hCw15 (fun k hk hs=>by have h:k=_:=hs;first | exact hs | exact .inl h | exact .inr h |(exfalso;omega))).trans hEw16.chg) hCw17 (fun k hk hs=>by have hn:=hK21.ne hs;first | exact hs | exact .inl h | exact .inr h |(exfalso;omega))) hCw18 (fun k hk hs=>by have h:k=_:=hs;first | exact hs | exact .inl h | exact .inr h |(exfalso;omega)))⟩
     ·first | omega |(dsimp only;omega)
   ·replace hc62:¬(i+1<hgt n+1):=by have:=zal hc62;omega
    have hst:i<hgt n→¬((zcM n t b i).es.get (idx b (hgt n-i-1)%4)).st=0:=fun hh=>absurd hh (by omega)
    refine zd 14 [(76,vF),(75,undef),(74,undef),(73,undef),(72,undef),(71,undef),(70,undef),(69,undef),(68,undef),(67,undef),(66,undef),(65,undef),(64,undef),(63,vF)] (zg (zc (zr (zy (zp (zc (ze (zb (zv (some 77) .i64 (IntKind.i64.wrap (((i:Nat):Int)+((1:Nat):Int))) (i+1) (zG (by omega) (by omega) (by omega)) ?_)))))))))
    refine zd 1 [(37,(vI (i+1)))] (zg (zC ?_))
    have hK22:=(((((((((((((hO.ext hEw10)).chg hCw11 (fun k h1 h2 hs=>by have h:k=_:=hs;omega))).ext hEw12)).ext hEw13)).ext hEw14)).chg hCw15 (fun k h1 h2 hs=>by have h:k=_:=hs;omega))).ext hEw16)
    refine zS (i+1,a4,c1) ?_ ?_
    ·exact ⟨by omega,fun k hk hh=>by rcases Nat.lt_succ_iff_lt_or_eq.1 hk with h1 | rfl;exact hns k h1 hh;exact hst hh,by rw [zdy];exact (((hOw17).chg hCw18 (fun k h1 h2 hs=>by have h:k=_:=hs;omega))).now,hBw18,(Chg.then (Chg.then ((Chg.then ((((Chg.then ((Chg.then (Chg.refl (fun k=>k=w6.heap.size) w8) hEl (fun k hk hs=>by have h:k=_:=hs;first | exact hs | exact .inl h | exact .inr h |(exfalso;omega))).trans hEw10.chg) hCw11 (fun k hk hs=>by have h:k=_:=hs;first | exact hs | exact .inl h | exact .inr h |(exfalso;omega))).trans hEw12.chg).trans hEw13.chg).trans hEw14.chg) hCw15 (fun k hk hs=>by have h:k=_:=hs;first | exact hs | exact .inl h | exact .inr h |(exfalso;omega))).trans hEw16.chg) hCw17 (fun k hk hs=>by have hn:=hK22.ne hs;first | exact hs | exact .inl h | exact .inr h |(exfalso;omega))) hCw18 (fun k hk hs=>by have h:k=_:=hs;first | exact hs | exact .inl h | exact .inr h |(exfalso;omega)))⟩
    ·first | omega |(dsimp only;omega)
  ·refine zt (some 12) (Instr.alloc 47 true (.tuple #[])) (vP w12.heap.size 0) (zK Nod.zero) 47 ?_
   intro w21 hBw21 hEw21
   have hzw21:=hEw21.size;have hlw21:=hBw21.lt
   refine ⟨.inr hEw21, ?_⟩
   have hK23:=(((((((((((((((((((hFz1_0.ext hEw4)).chg hCw5 (fun k h1 h2 hs=>by have h:k=_:=hs;omega))).ext hEw6)).ext hEw7)).chg hCw8 (fun k h1 h2 hs=>by have h:k=_:=hs;omega))).chg hEl (fun k h1 h2 hs=>by have h:k=_:=hs;omega))).ext hEw10)).chg hCw11 (fun k h1 h2 hs=>by have h:k=_:=hs;omega))).ext hEw12)).ext hEw21)
   have hK24:=(((((((((((((((((((hFz1_1.ext hEw4)).chg hCw5 (fun k h1 h2 hs=>by have h:k=_:=hs;omega))).ext hEw6)).ext hEw7)).chg hCw8 (fun k h1 h2 hs=>by have h:k=_:=hs;omega))).chg hEl (fun k h1 h2 hs=>by have h:k=_:=hs;omega))).ext hEw10)).chg hCw11 (fun k h1 h2 hs=>by have h:k=_:=hs;omega))).ext hEw12)).ext hEw21)
   refine zn 7 1279 (zi (some 49) (zcs n (hgt n-i) (idx b (hgt n-i)) _ hK23 hK24 (by first | rfl | assumption) (by first | rfl | assumption) (by omega) (by omega) (by omega) (by omega)) ?_)
   rintro _ w22 ⟨rfl,hEw22⟩
   have hzw22:=hEw22.size
   have hX3:Ext w12 w22:=(hEw21.trans hEw22)
   refine ⟨.inr hX3, ?_⟩
   obtain ⟨b3,o3,rfl⟩:=h_t.addr (by omega) (by decide)
   refine zh (hw:=hX3) hT145 8 1535 (some 50) (vP b3 (o3+(num n (hgt n-i)+(idx b (hgt n-i)))*274)) (zl (Instr.indexAt 24 (.slice (pA b3 o3) n_t c_t) (vI (num n (hgt n-i)+(idx b (hgt n-i))))) (fun w' hC=>zap (E:=47) (sz:=274) (by omega))) ?_
   have hK25:=(((((((((((((((((((((((h_t.ext hEw1)).ext hEw2)).ext hEw3)).ext hEw4)).chg hCw5 (fun k h1 h2 hs=>by have h:k=_:=hs;omega))).ext hEw6)).ext hEw7)).chg hCw8 (fun k h1 h2 hs=>by have h:k=_:=hs;omega))).chg hEl (fun k h1 h2 hs=>by have h:k=_:=hs;omega))).ext hEw10)).chg hCw11 (fun k h1 h2 hs=>by have h:k=_:=hs;omega))).ext hEw12)
   refine zh (hw:=hX3) hT145 9 2047 (some 51) (vA (zK (t.getD (num n (hgt n-i)+(idx b (hgt n-i))) Nod.zero))) (zl (Instr.loadAt 47 (vP b3 (o3+(num n (hgt n-i)+(idx b (hgt n-i)))*274))) (fun w' hC=>zD (vs:=zK (t.getD (num n (hgt n-i)+(idx b (hgt n-i))) Nod.zero)) ((hK25.ext hC).at Nod.zero (by omega)) (by rw [zW];kernel_rfl))) (zn 11 4095 (zz 47 w12.heap.size 0 47 (vA (zK (t.getD (num n (hgt n-i)+(idx b (hgt n-i))) Nod.zero))) (zK Nod.zero) (zK (t.getD (num n (hgt n-i)+(idx b (hgt n-i))) Nod.zero)) (hBw21.ext hEw22) (by rw [zW];kernel_rfl) (by first |(simp;done)|(simp;omega)) (zcG _) ?_))
   intro w23 hBw23 hCw23
   have hzw23:=hCw23.size
   rw [zm _ _ (by simp)] at hBw23
   refine ⟨.inl (by kernel_rfl), ?_⟩
   refine zJ (zc (zf (ze (zd 1 [(52,(vP w6.heap.size 1))] ?_))))
   have hK26:=(((((((((((hB9.ext hEw10)).chg hCw11 (fun hs=>by have h:_=_:=hs;omega))).ext hEw12)).ext hEw21)).ext hEw22)).chg hCw23 (fun hs=>by have h:_=_:=hs;omega))
   refine zb (zj (some 53) (Instr.loadAt 24 (vP w6.heap.size 1)) (.slice ao i cp) (zo (hK26.cell rfl)) ?_)
   refine zb (zj (some 54) (Instr.loadAt 47 (vP w12.heap.size 0)) (vA (zK (t.getD (num n (hgt n-i)+(idx b (hgt n-i))) Nod.zero))) (zD (vs:=zK (t.getD (num n (hgt n-i)+(idx b (hgt n-i))) Nod.zero)) (hBw23.all) (by rw [zW];kernel_rfl)) ?_)
   refine zb (zt (some 55) (Instr.buildSlice 24 1 #[(0,(vA (zK (t.getD (num n (hgt n-i)+(idx b (hgt n-i))) Nod.zero))))]) (.slice (pA w23.heap.size 0) 1 1) (([(t.getD (num n (hgt n-i)+(idx b (hgt n-i))) Nod.zero)]:List Nod).flatMap zK) 47 ?_ (hr:=zgw (f:=zK) (sz:=274) (z:=(vA (zK Nod.zero))) [(t.getD (num n (hgt n-i)+(idx b (hgt n-i))) Nod.zero)] zW (by decide) rfl (Nat.succ_pos _) (show 274≤2^24 from by decide) rfl))
   intro w24 hBw24 hEw24
   have hzw24:=hEw24.size;have hlw24:=hBw24.lt
   have hmw24:Ms zK 274 w23.heap.size (w23.heap.size+1) w24 (pA w23.heap.size 0) 1 1 [(t.getD (num n (hgt n-i)+(idx b (hgt n-i))) Nod.zero)]:=Ms.of_pre (r:= []) (by rw [List.append_nil];exact hBw24) zW rfl (Nat.le_refl _) (by decide) (Nat.le_refl _) (Nat.lt_succ_self _)
   have hK27:=(((((((((((((hO.ext hEw10)).chg hCw11 (fun k h1 h2 hs=>by have h:k=_:=hs;omega))).ext hEw12)).ext hEw21)).ext hEw22)).chg hCw23 (fun k h1 h2 hs=>by have h:k=_:=hs;omega))).ext hEw24)
   refine zb (zhp (some 56) 24 24 47 368 (vA (zK Nod.zero)) hK27 hmw24 zcG ?_ (by rw [Value.cells,List.size_toArray,zW]) (by decide))
   intro a6 c2 w25 hOw25 hCw25
   have hzw25:=hCw25.size
   have hSw25:=hOw25.ms;have hlea6:=hSw25.le
   refine zd 1 [(57,(vP w6.heap.size 1))] ?_
   have hK28:=(((((((((((((hO.ext hEw10)).chg hCw11 (fun k h1 h2 hs=>by have h:k=_:=hs;omega))).ext hEw12)).ext hEw21)).ext hEw22)).chg hCw23 (fun k h1 h2 hs=>by have h:k=_:=hs;omega))).ext hEw24)
   refine zb (zV 24 w6.heap.size 1 26 (.slice a6 (i+1) c2) ([(vI b),(.slice ao i cp)]) (((hK26.ext hEw24)).chg hCw25 (fun hs=>by have hn:=hK28.ne hs;omega)) (by first | decide |(simp;done)|(simp;omega)) ?_)
   have hK29:=(((((((((((((hO.ext hEw10)).chg hCw11 (fun k h1 h2 hs=>by have h:k=_:=hs;omega))).ext hEw12)).ext hEw21)).ext hEw22)).chg hCw23 (fun k h1 h2 hs=>by have h:k=_:=hs;omega))).ext hEw24)
   intro w26 hBw26 hCw26
   have hzw26:=hCw26.size
   rw [show (([(vI b),(.slice ao i cp)]).set 1 (.slice a6 (i+1) c2):List Value)= [(vI b),(.slice a6 (i+1) c2)] from rfl] at hBw26
   refine zg (zc (zf (ze (zd 1 [(58,(vI i))] (zb (zv (some 59) .i64 (IntKind.i64.wrap (((i:Nat):Int)+((1:Nat):Int))) (i+1) (zG (by omega) (by omega) (by omega)) ?_))))))
   refine zd 2 [(61,(vI (hgt n+1))),(60,(.slice (pA b1 o1) (hgt n+1) (hgt n+1)))] (zb (zO (some 62) (decide (((i+1:Nat):Int)<((hgt n+1:Nat):Int))) (fun hc62=> ?_) (fun hc62=> ?_)))
   ·replace hc62:i+1<hgt n+1:=by have:=zak hc62;omega
    have hq3:((zdd n b).getD (i+1) (0,0)).2=idx b (hgt n-i-1):=by rw [zdz (by omega)];rfl
    have hib2:=zfV b (hgt n-i-1)
    refine zd 3 [(65,(vI i)),(64,(.slice (pA b1 o1) (hgt n+1) (hgt n+1))),(63,vT)] (zb (zv (some 66) .i64 (IntKind.i64.wrap (((i:Nat):Int)+((1:Nat):Int))) (i+1) (zG (by omega) (by omega) (by omega)) ?_))
    refine zb (zj (some 67) (Instr.indexAt 94 (.slice (pA b1 o1) (hgt n+1) (hgt n+1)) (vI (i+1))) (vP b1 (o1+(i+1)*2)) (zap (E:=70) (sz:=2) (by omega)) ?_)
    refine zd 1 [(68,(vP b1 (o1+(i+1)*2+1)))] ?_
    have hK30:=(((((((((((((hO.ext hEw10)).chg hCw11 (fun k h1 h2 hs=>by have h:k=_:=hs;omega))).ext hEw12)).ext hEw21)).ext hEw22)).chg hCw23 (fun k h1 h2 hs=>by have h:k=_:=hs;omega))).ext hEw24)
    have hK31:=(((((((((((((((((hK2.ext hEw10)).chg hCw11 (fun k h1 h2 hs=>by have h:k=_:=hs;omega))).ext hEw12)).ext hEw21)).ext hEw22)).chg hCw23 (fun k h1 h2 hs=>by have h:k=_:=hs;omega))).ext hEw24)).chg hCw25 (fun k h1 h2 hs=>by have hn:=hK30.ne hs;omega))).chg hCw26 (fun k h1 h2 hs=>by have h:k=_:=hs;omega))
    refine zb (zj (some 69) (Instr.loadAt 3 (vP b1 (o1+(i+1)*2+1))) (vI (((zdd n b).getD (i+1) (0,0)).2)) (zo (hK31.cell (j:=1) (0,0) (by omega) rfl)) ?_)
    refine zb (zv (some 70) .i64 (((((zdd n b).getD (i+1) (0,0)).2:Nat):Int).tmod ((4:Nat):Int)) (idx b (hgt n-i-1)%4) ((zcP _ _).trans (by rw [hq3])) ?_)
    refine zd 1 [(71,(vP w12.heap.size 142))] (zb (zj (some 72) (Instr.indexAt 45 (vP w12.heap.size 142) (vI (idx b (hgt n-i-1)%4))) (vP w12.heap.size (142+(idx b (hgt n-i-1)%4)*33)) (zX (E:=44) (sz:=33) (m:=4) (by omega)) ?_))
    refine zd 1 [(73,(vP w12.heap.size (142+(idx b (hgt n-i-1)%4)*33)))] ?_
    have hK32:=(((((((((((((hO.ext hEw10)).chg hCw11 (fun k h1 h2 hs=>by have h:k=_:=hs;omega))).ext hEw12)).ext hEw21)).ext hEw22)).chg hCw23 (fun k h1 h2 hs=>by have h:k=_:=hs;omega))).ext hEw24)
    have hK33:=(((((hBw23.ext hEw24)).chg hCw25 (fun hs=>by have hn:=hK32.ne hs;omega))).chg hCw26 (fun hs=>by have h:_=_:=hs;omega))
    refine zb (zj (some 74) (Instr.loadAt 5 (vP w12.heap.size (142+(idx b (hgt n-i-1)%4)*33))) (vB (((t.getD (num n (hgt n-i)+(idx b (hgt n-i))) Nod.zero).es.get (idx b (hgt n-i-1)%4)).st)) (zo (hK33.cell (zic (by omega)))) ?_)
    refine zb (zO (some 75) ((((((t.getD (num n (hgt n-i)+(idx b (hgt n-i))) Nod.zero).es.get (idx b (hgt n-i-1)%4)).st:Nat):Int)==((0:Nat):Int))) (fun hc75=> ?_) (fun hc75=> ?_))
    ·replace hc75:((t.getD (num n (hgt n-i)+(idx b (hgt n-i))) Nod.zero).es.get (idx b (hgt n-i-1)%4)).st=0:=by have:=zbL hc75;omega
     have hmn:mny n t b=i+1:=zmR (by omega) (show ((zcM n t b i).es.get (idx b (hgt n-i-1)%4)).st=0 from hc75) (fun k hk=>hns k hk (by omega))
     refine zd 1 [(76,vT)] (zg (zc (zF (zaf (zdK (by decide) (zH (zH (zT (zc ?_)))))))))
     refine zf (ze (zd 1 [(78,(vP w6.heap.size 1))] (zb (zj (some 79) (Instr.loadAt 24 (vP w6.heap.size 1)) (.slice a6 (i+1) c2) (zo (hBw26.cell rfl)) ?_))))
     refine zb (zi (some 80) (zh7 _ ((hSw25).chg hCw26 (fun k h1 h2 hs=>by have h:k=_:=hs;omega))) ?_)
     rintro _ _ ⟨a7,rfl,hFz6_0,rfl⟩
     have hlea7:=hFz6_0.le
     refine zd 1 [(81,(vP w6.heap.size 1))] (zb (zV 24 w6.heap.size 1 26 (.slice a7 (i+1) (i+1)) ([(vI b),(.slice a6 (i+1) c2)]) hBw26 (by first | decide |(simp;done)|(simp;omega)) ?_))
     intro w27 hBw27 hCw27
     have hzw27:=hCw27.size
     rw [show (([(vI b),(.slice a6 (i+1) c2)]).set 1 (.slice a7 (i+1) (i+1)):List Value)= [(vI b),(.slice a7 (i+1) (i+1))] from rfl] at hBw27
     refine zg (zc (zf (ze (zb (zj (some 82) (Instr.loadAt 26 (vP w6.heap.size 0)) (vA [(vI b),(.slice a7 (i+1) (i+1))]) (zD (vs:= [(vI b),(.slice a7 (i+1) (i+1))]) (hBw27.all)) ?_)))))
     have hK34:=(((((((((((((hO.ext hEw10)).chg hCw11 (fun k h1 h2 hs=>by have h:k=_:=hs;omega))).ext hEw12)).ext hEw21)).ext hEw22)).chg hCw23 (fun k h1 h2 hs=>by have h:k=_:=hs;omega))).ext hEw24)
     have hK35:=(((((((((((((((((((((((((((((((((hBw2.ext hEw3)).ext hEw4)).chg hCw5 (fun hs=>by have h:_=_:=hs;omega))).ext hEw6)).ext hEw7)).chg hCw8 (fun hs=>by have h:_=_:=hs;omega))).chg hEl (fun hs=>by have h:_=_:=hs;omega))).ext hEw10)).chg hCw11 (fun hs=>by have h:_=_:=hs;omega))).ext hEw12)).ext hEw21)).ext hEw22)).chg hCw23 (fun hs=>by have h:_=_:=hs;omega))).ext hEw24)).chg hCw25 (fun hs=>by have hn:=hK34.ne hs;omega))).chg hCw26 (fun hs=>by have h:_=_:=hs;omega))).chg hCw27 (fun hs=>by have h:_=_:=hs;omega))
     refine zb (zz 26 w1.heap.size 0 26 (vA [(vI b),(.slice a7 (i+1) (i+1))]) ([(vI 0),(.slice none 0 0)]) ([(vI b),(.slice a7 (i+1) (i+1))]) hK35 (by kernel_rfl) (by first | decide |(simp;done)|(simp;omega)) (by simp [Value.oneCell']) ?_)
     have hK36:=(((((((((((((hO.ext hEw10)).chg hCw11 (fun k h1 h2 hs=>by have h:k=_:=hs;omega))).ext hEw12)).ext hEw21)).ext hEw22)).chg hCw23 (fun k h1 h2 hs=>by have h:k=_:=hs;omega))).ext hEw24)
     have hK37:=(((((((((((((((((((((((((((((((((hBw2.ext hEw3)).ext hEw4)).chg hCw5 (fun hs=>by have h:_=_:=hs;omega))).ext hEw6)).ext hEw7)).chg hCw8 (fun hs=>by have h:_=_:=hs;omega))).chg hEl (fun hs=>by have h:_=_:=hs;omega))).ext hEw10)).chg hCw11 (fun hs=>by have h:_=_:=hs;omega))).ext hEw12)).ext hEw21)).ext hEw22)).chg hCw23 (fun hs=>by have h:_=_:=hs;omega))).ext hEw24)).chg hCw25 (fun hs=>by have hn:=hK36.ne hs;omega))).chg hCw26 (fun hs=>by have h:_=_:=hs;omega))).chg hCw27 (fun hs=>by have h:_=_:=hs;omega))
     intro w28 hBw28 hCw28
     have hzw28:=hCw28.size
     rw [zm _ _ (by kernel_rfl)] at hBw28
     refine zd 1 [(5,(vI 0))] (zg (zc (zx (zas (show zab Tryz.prog 83 _ _ (.cell 4 26) (vA [(vI b),(.slice a7 (i+1) (i+1))]) from ⟨⟨w1.heap.size,0,none⟩,(by kernel_rfl),zP (T:=26) (vs:= [(vI b),(.slice a7 (i+1) (i+1))]) (hBw28).all (by kernel_rfl)⟩) (show zab Tryz.prog 83 _ _ (.tmp 5) (vI 0) by (show _=_;kernel_rfl)) ?_))))
     have hK38:=(((((((((((((hO.ext hEw10)).chg hCw11 (fun k h1 h2 hs=>by have h:k=_:=hs;omega))).ext hEw12)).ext hEw21)).ext hEw22)).chg hCw23 (fun k h1 h2 hs=>by have h:k=_:=hs;omega))).ext hEw24)
     have hX4:Ext w w28:=(Ext.own (Ext.own (Ext.own (Ext.ownS ((Ext.own ((((Ext.own ((Ext.own (Ext.own (((Ext.own (((hEw1.trans hEw2).trans hEw3).trans hEw4) hCw5 (by omega)).trans hEw6).trans hEw7) hCw8 (by omega)) hEl (by omega)).trans hEw10) hCw11 (by omega)).trans hEw12).trans hEw21).trans hEw22) hCw23 (by omega)).trans hEw24) hCw25 (fun k hs hk=>by have hn:=hK38.ne hs;omega)) hCw26 (by omega)) hCw27 (by omega)) hCw28 (by omega))
     rw [hmn,zdy]
     exact ⟨_,rfl,(((((hFz6_0).chg hCw27 (fun k h1 h2 hs=>by have h:k=_:=hs;omega))).chg hCw28 (fun k h1 h2 hs=>by have h:k=_:=hs;omega))).now.mono (by omega) (Nat.le_refl _),hX4⟩
    ·replace hc75:¬(((t.getD (num n (hgt n-i)+(idx b (hgt n-i))) Nod.zero).es.get (idx b (hgt n-i-1)%4)).st=0):=by have:=zbK hc75;omega
     have hst:i<hgt n→¬((zcM n t b i).es.get (idx b (hgt n-i-1)%4)).st=0:=fun _=>hc75
     refine zd 1 [(76,vF)] (zg (zc (zr (zy (zp (zc (ze (zb (zv (some 77) .i64 (IntKind.i64.wrap (((i:Nat):Int)+((1:Nat):Int))) (i+1) (zG (by omega) (by omega) (by omega)) ?_)))))))))
     refine zd 1 [(37,(vI (i+1)))] (zg (zC ?_))
     have hK39:=(((((((((((((hO.ext hEw10)).chg hCw11 (fun k h1 h2 hs=>by have h:k=_:=hs;omega))).ext hEw12)).ext hEw21)).ext hEw22)).chg hCw23 (fun k h1 h2 hs=>by have h:k=_:=hs;omega))).ext hEw24)
     refine zS (i+1,a6,c2) ?_ ?_
     ·exact ⟨by omega,fun k hk hh=>by rcases Nat.lt_succ_iff_lt_or_eq.1 hk with h1 | rfl;exact hns k h1 hh;exact hst hh,by rw [zdy];exact (((hOw25).chg hCw26 (fun k h1 h2 hs=>by have h:k=_:=hs;omega))).now,hBw26,(Chg.then (Chg.then ((Chg.then ((((Chg.then ((Chg.then (Chg.refl (fun k=>k=w6.heap.size) w8) hEl (fun k hk hs=>by have h:k=_:=hs;first | exact hs | exact .inl h | exact .inr h |(exfalso;omega))).trans hEw10.chg) hCw11 (fun k hk hs=>by have h:k=_:=hs;first | exact hs | exact .inl h | exact .inr h |(exfalso;omega))).trans hEw12.chg).trans hEw21.chg).trans hEw22.chg) hCw23 (fun k hk hs=>by have h:k=_:=hs;first | exact hs | exact .inl h | exact .inr h |(exfalso;omega))).trans hEw24.chg) hCw25 (fun k hk hs=>by have hn:=hK39.ne hs;first | exact hs | exact .inl h | exact .inr h |(exfalso;omega))) hCw26 (fun k hk hs=>by have h:k=_:=hs;first | exact hs | exact .inl h | exact .inr h |(exfalso;omega)))⟩
     ·first | omega |(dsimp only;omega)
   ·replace hc62:¬(i+1<hgt n+1):=by have:=zal hc62;omega
    have hst:i<hgt n→¬((zcM n t b i).es.get (idx b (hgt n-i-1)%4)).st=0:=fun hh=>absurd hh (by omega)
    refine zd 14 [(76,vF),(75,undef),(74,undef),(73,undef),(72,undef),(71,undef),(70,undef),(69,undef),(68,undef),(67,undef),(66,undef),(65,undef),(64,undef),(63,vF)] (zg (zc (zr (zy (zp (zc (ze (zb (zv (some 77) .i64 (IntKind.i64.wrap (((i:Nat):Int)+((1:Nat):Int))) (i+1) (zG (by omega) (by omega) (by omega)) ?_)))))))))
    refine zd 1 [(37,(vI (i+1)))] (zg (zC ?_))
    have hK40:=(((((((((((((hO.ext hEw10)).chg hCw11 (fun k h1 h2 hs=>by have h:k=_:=hs;omega))).ext hEw12)).ext hEw21)).ext hEw22)).chg hCw23 (fun k h1 h2 hs=>by have h:k=_:=hs;omega))).ext hEw24)
    refine zS (i+1,a6,c2) ?_ ?_
    ·exact ⟨by omega,fun k hk hh=>by rcases Nat.lt_succ_iff_lt_or_eq.1 hk with h1 | rfl;exact hns k h1 hh;exact hst hh,by rw [zdy];exact (((hOw25).chg hCw26 (fun k h1 h2 hs=>by have h:k=_:=hs;omega))).now,hBw26,(Chg.then (Chg.then ((Chg.then ((((Chg.then ((Chg.then (Chg.refl (fun k=>k=w6.heap.size) w8) hEl (fun k hk hs=>by have h:k=_:=hs;first | exact hs | exact .inl h | exact .inr h |(exfalso;omega))).trans hEw10.chg) hCw11 (fun k hk hs=>by have h:k=_:=hs;first | exact hs | exact .inl h | exact .inr h |(exfalso;omega))).trans hEw12.chg).trans hEw21.chg).trans hEw22.chg) hCw23 (fun k hk hs=>by have h:k=_:=hs;first | exact hs | exact .inl h | exact .inr h |(exfalso;omega))).trans hEw24.chg) hCw25 (fun k hk hs=>by have hn:=hK40.ne hs;first | exact hs | exact .inl h | exact .inr h |(exfalso;omega))) hCw26 (fun k hk hs=>by have h:k=_:=hs;first | exact hs | exact .inl h | exact .inr h |(exfalso;omega)))⟩
    ·first | omega |(dsimp only;omega)
 ·replace hc38:¬(i<hgt n+1):=by have:=zal hc38;omega
  have hmn:mny n t b=i:=by rw [zoY (fun k hk=>hns k (by omega) hk)];omega
  refine zg (zc (zf (zr (zaf (zH (zH (zT (zc (zf ?_)))))))))
  refine ze (zd 1 [(78,(vP w6.heap.size 1))] (zb (zj (some 79) (Instr.loadAt 24 (vP w6.heap.size 1)) (.slice ao i cp) (zo (hB9.cell rfl)) ?_)))
  refine zb (zi (some 80) (zh7 _ hmO) ?_)
  rintro _ _ ⟨a8,rfl,hFz7_0,rfl⟩
  have hlea8:=hFz7_0.le
  refine zd 1 [(81,(vP w6.heap.size 1))] (zb (zV 24 w6.heap.size 1 26 (.slice a8 i i) ([(vI b),(.slice ao i cp)]) hB9 (by first | decide |(simp;done)|(simp;omega)) ?_))
  intro w29 hBw29 hCw29
  have hzw29:=hCw29.size
  rw [show (([(vI b),(.slice ao i cp)]).set 1 (.slice a8 i i):List Value)= [(vI b),(.slice a8 i i)] from rfl] at hBw29
  refine zg (zc (zf (ze (zb (zj (some 82) (Instr.loadAt 26 (vP w6.heap.size 0)) (vA [(vI b),(.slice a8 i i)]) (zD (vs:= [(vI b),(.slice a8 i i)]) (hBw29.all)) ?_)))))
  have hK41:=(((((((((((((((hBw2.ext hEw3)).ext hEw4)).chg hCw5 (fun hs=>by have h:_=_:=hs;omega))).ext hEw6)).ext hEw7)).chg hCw8 (fun hs=>by have h:_=_:=hs;omega))).chg hEl (fun hs=>by have h:_=_:=hs;omega))).chg hCw29 (fun hs=>by have h:_=_:=hs;omega))
  refine zb (zz 26 w1.heap.size 0 26 (vA [(vI b),(.slice a8 i i)]) ([(vI 0),(.slice none 0 0)]) ([(vI b),(.slice a8 i i)]) hK41 (by kernel_rfl) (by first | decide |(simp;done)|(simp;omega)) (by simp [Value.oneCell']) ?_)
  have hK42:=(((((((((((((((hBw2.ext hEw3)).ext hEw4)).chg hCw5 (fun hs=>by have h:_=_:=hs;omega))).ext hEw6)).ext hEw7)).chg hCw8 (fun hs=>by have h:_=_:=hs;omega))).chg hEl (fun hs=>by have h:_=_:=hs;omega))).chg hCw29 (fun hs=>by have h:_=_:=hs;omega))
  intro w30 hBw30 hCw30
  have hzw30:=hCw30.size
  rw [zm _ _ (by kernel_rfl)] at hBw30
  refine zd 1 [(5,(vI 0))] (zg (zc (zx (zas (show zab Tryz.prog 83 _ _ (.cell 4 26) (vA [(vI b),(.slice a8 i i)]) from ⟨⟨w1.heap.size,0,none⟩,(by kernel_rfl),zP (T:=26) (vs:= [(vI b),(.slice a8 i i)]) (hBw30).all (by kernel_rfl)⟩) (show zab Tryz.prog 83 _ _ (.tmp 5) (vI 0) by (show _=_;kernel_rfl)) ?_))))
  have hX5:Ext w w30:=(Ext.own (Ext.own (Ext.own (Ext.own (((Ext.own (((hEw1.trans hEw2).trans hEw3).trans hEw4) hCw5 (by omega)).trans hEw6).trans hEw7) hCw8 (by omega)) hEl (by omega)) hCw29 (by omega)) hCw30 (by omega))
  rw [hmn]
  exact ⟨_,rfl,(((((hFz7_0).chg hCw29 (fun k h1 h2 hs=>by have h:k=_:=hs;omega))).chg hCw30 (fun k h1 h2 hs=>by have h:k=_:=hs;omega))).now.mono (by omega) (Nat.le_refl _),hX5⟩
end Go.Proofs.YtgdpdnokcnhgnaaGreatDoor
namespace Go.Proofs.YtgdpdnokcnhgnaaGreatDoor
open Go Go.RowKit Go.Cs
set_option maxRecDepth 100000
theorem zwB {lo_x hi_x:Nat} {a_x:Option Addr} {n_x c_x:Nat} {x:List UInt8} {lo_y hi_y:Nat} {a_y:Option Addr} {n_y c_y:Nat} {y:List UInt8} (w:World) (h_x:Bs lo_x hi_x w a_x n_x c_x x) (h_y:Bs lo_y hi_y w a_y n_y c_y y) (hp0:x≠y) (hp1:137≤n_x) (hp2:137≤n_y) (hp3:n_x≤1000) (hp4:n_y≤1000) (hp5:(zN x).l=(zN y).l):
  Calls Tryz.prog 35 #[(.slice a_x n_x c_x),(.slice a_y n_y c_y)] w (Ret fun r w'=>r=(vI 1)∧Ext w w'):=by
 refine zL (n:=27) (σ:= [(0,(.slice a_x n_x c_x)),(1,(.slice a_y n_y c_y))]) Tryz.func35 rfl ?_
 replace h_x:=h_x.now;have hle_x:=h_x.le
 replace h_y:=h_y.now;have hle_y:=h_y.le
 refine zf (ze (zd 1 [(4,(vI 0))] (zg (zc (zf (zf (ze (zd 1 [(5,(.slice a_x n_x c_x))] (zb (zj (some 6) (convert 57 9 (.slice a_x n_x c_x)) (.string ⟨(x).toArray⟩) (zrO 5 h_x) ?_))))))))))
 refine zd 1 [(7,(.slice a_y n_y c_y))] (zb (zj (some 8) (convert 57 9 (.slice a_y n_y c_y)) (.string ⟨(y).toArray⟩) (zrO 5 h_y) ?_))
 refine zb (zat (some 9) ((⟨(x).toArray⟩:ByteArray).toList==(⟨(y).toArray⟩:ByteArray).toList) false (ztD (hp0)) ?_)
 refine zd 3 [(12,(vI n_x)),(11,(.slice a_x n_x c_x)),(10,vF)] (zb (zat (some 13) (decide (((n_x:Nat):Int)<((137:Nat):Int))) false (zce (by omega)) ?_))
 refine zd 4 [(17,(vI n_y)),(16,(.slice a_y n_y c_y)),(15,vF),(14,vF)] (zb (zat (some 18) (decide (((n_y:Nat):Int)<((137:Nat):Int))) false (zce (by omega)) ?_))
 refine zd 3 [(21,(.slice a_x n_x c_x)),(20,vF),(19,vF)] (zb (zi (some 22) (zrn _ h_x (by first | omega | decide)) ?_))
 rintro _ w1 ⟨rfl,hEw1⟩
 have hzw1:=hEw1.size
 refine zd 1 [(23,(.slice a_y n_y c_y))] (zb (zi (some 24) (zrn _ (h_y.ext hEw1) (by first | omega | decide)) ?_))
 rintro _ w2 ⟨rfl,hEw2⟩
 have hzw2:=hEw2.size
 refine zb (zj (some 25) (bo .neq 23 (.tmp 22) (.tmp 24) (vA (zw (zN x))) (vA (zw (zN y)))) vF (zav (r:=true) (T:=23) ((zbj (dd:=9998) (t:=23) (e:=5) (zN x) (zN y)).trans (congrArg (fun b=>Result.ok b _) (show ((zN x).l==(zN y).l)=true from beq_iff_eq.2 hp5)))) ?_)
 refine zd 1 [(26,vF)] (zg (zc (zr (zy (zc (zf (ze (zd 1 [(4,(vI 1))] (zg ?_)))))))))
 exact zc (zx (zB (vI 1) (⟨rfl,(hEw1.trans hEw2)⟩)))
end Go.Proofs.YtgdpdnokcnhgnaaGreatDoor
namespace Go.Proofs.YtgdpdnokcnhgnaaGreatDoor
open Go Go.RowKit Go.Cs
set_option maxRecDepth 100000
set_option maxHeartbeats 4000000 in
theorem zmt (w:World) (hg0:Gl 0 [vI 45,vI 33] w) (hg1:Gl 2 (w8C za2) w) (hg2:Gl 3 (zR kA) w) (hg3:Gl 1 [.iface 199 (.agg #[.pointer (some ⟨4,99,none⟩)])] w):
  Calls Tryz.prog 11 #[] w (Ret fun r w'=>r=vT∧Ext w w'):=by
 refine zL (n:=149) (σ:= []) Tryz.func11 rfl ?_
 have hgl0:=hg0.lt
 have hgl1:=hg1.lt
 have hgl2:=hg2.lt
 have hgl3:=hg3.lt
 have ht5:tot 5=3:=by decide
 have ht1:tot 1=1:=by decide
 refine zf (ze (zd 1 [(0,vF)] (zg (zc (zf (ze (zb (zi (some 16) (zoF 1 7 _ (by first | omega | decide) (by first | omega | decide)) ?_))))))))
 rintro _ w1 ⟨rfl,hEw1⟩
 have hzw1:=hEw1.size
 refine zb (zt (some 1) (Instr.alloc 33 true (.tuple #[])) (vP w1.heap.size 0) (zE Rec.zero) 33 ?_)
 intro w2 hBw2 hEw2
 have hzw2:=hEw2.size;have hlw2:=hBw2.lt
 refine zb (zz 33 w1.heap.size 0 33 (vA (zE (mkR 1 7))) (zE Rec.zero) (zE (mkR 1 7)) hBw2 (by rw [zY];kernel_rfl) (by first |(simp;done)|(simp;omega)) (zaU _) ?_)
 intro w3 hBw3 hCw3
 have hzw3:=hCw3.size
 rw [zm _ _ (by simp)] at hBw3
 refine zg (zc (zf (ze (zd 1 [(18,(vA (zE Rec.zero)))] (zb (zt (some 19) (Instr.buildSlice 39 1 #[(0,(vA (zE Rec.zero)))]) (.slice (pA w3.heap.size 0) 1 1) (([Rec.zero]:List Rec).flatMap zE) 33 ?_ (hr:=zgw (f:=zE) (sz:=35) (z:=(vA (zE Rec.zero))) [Rec.zero] zY (by decide) rfl (Nat.succ_pos _) (show 35≤2^24 from by decide) rfl)))))))
 intro w4 hBw4 hEw4
 have hzw4:=hEw4.size;have hlw4:=hBw4.lt
 have hmw4:Ms zE 35 w3.heap.size (w3.heap.size+1) w4 (pA w3.heap.size 0) 1 1 [Rec.zero]:=Ms.of_pre (r:= []) (by rw [List.append_nil];exact hBw4) zY rfl (Nat.le_refl _) (by decide) (Nat.le_refl _) (Nat.lt_succ_self _)
 refine zb (zt (some 20) (Instr.buildSlice 40 1 #[(0,(vI 0))]) (.slice (pA w4.heap.size 0) 1 1) [(vI 0)] 3 ?_)
 intro w5 hBw5 hEw5
 have hzw5:=hEw5.size;have hlw5:=hBw5.lt
 have hSw5:Es (nv .i64) w4.heap.size (w4.heap.size+1) w5 (pA w4.heap.size 0) 1 1 ([0]):=Es.of_blk hBw5 rfl rfl (Nat.le_refl _) (by decide) (Nat.le_refl _) (Nat.lt_succ_self _)
 have hK1:=(((((((((hg0.ext hEw1)).ext hEw2)).chg hCw3 (fun hs=>by have h:_=_:=hs;omega))).ext hEw4)).ext hEw5)
 have hK2:=(((((((((hg1.ext hEw1)).ext hEw2)).chg hCw3 (fun hs=>by have h:_=_:=hs;omega))).ext hEw4)).ext hEw5)
 have hK3:=(((((((((hg2.ext hEw1)).ext hEw2)).chg hCw3 (fun hs=>by have h:_=_:=hs;omega))).ext hEw4)).ext hEw5)
 refine zb (zi (some 21) (zh6 1 _ (hmw4.ext hEw5) hSw5 (znf) (by first | omega | decide) hK1 hK2 hK3) ?_)
 rintro _ w6 ⟨a1,rfl,hFz2_0,hEw6⟩
 have hzw6:=hEw6.size
 have hma1:=hFz2_0.ms;have hlea1:=hma1.le
 refine zd 3 [(23,(vI 0)),(22,(vA [(vI 1),(.slice a1 (tot 1) (tot 1))])),(17,(.tuple #[(vA [(vI 1),(.slice a1 (tot 1) (tot 1))]),(vI 0)]))] (zb (zt (some 2) (Instr.alloc 50 true (.tuple #[])) (vP w6.heap.size 0) ([(vI 0),(.slice none 0 0)]) 50 ?_))
 intro w7 hBw7 hEw7
 have hzw7:=hEw7.size;have hlw7:=hBw7.lt
 refine zb (zz 50 w6.heap.size 0 50 (vA [(vI 1),(.slice a1 (tot 1) (tot 1))]) ([(vI 0),(.slice none 0 0)]) ([(vI 1),(.slice a1 (tot 1) (tot 1))]) hBw7 (by kernel_rfl) (by first | decide |(simp;done)|(simp;omega)) (by simp [Value.oneCell']) ?_)
 intro w8 hBw8 hCw8
 have hzw8:=hCw8.size
 rw [zm _ _ (by kernel_rfl)] at hBw8
 refine zd 1 [(3,(vI 0))] (zg (zc (zf (ze (zb (zj (some 25) (Instr.loadAt 50 (vP w6.heap.size 0)) (vA [(vI 1),(.slice a1 (tot 1) (tot 1))]) (zD (vs:= [(vI 1),(.slice a1 (tot 1) (tot 1))]) (hBw8.all)) ?_))))))
 have hK4:=(((((hK1.ext hEw6)).ext hEw7)).chg hCw8 (fun hs=>by have h:_=_:=hs;omega))
 have hK5:=(((((hK2.ext hEw6)).ext hEw7)).chg hCw8 (fun hs=>by have h:_=_:=hs;omega))
 have hK6:=(((((hK3.ext hEw6)).ext hEw7)).chg hCw8 (fun hs=>by have h:_=_:=hs;omega))
 have hK7:=(((((((((((((((hg3.ext hEw1)).ext hEw2)).chg hCw3 (fun hs=>by have h:_=_:=hs;omega))).ext hEw4)).ext hEw5)).ext hEw6)).ext hEw7)).chg hCw8 (fun hs=>by have h:_=_:=hs;omega))
 refine zb (zi (some 26) (zeP 1 _ (((hma1.ext hEw7)).chg hCw8 (fun k h1 h2 hs=>by have h:k=_:=hs;omega)) (by first | omega | decide) (by first | omega | decide) (rfl) (zcE znf) hK4 hK5 hK6 hK7) ?_)
 rintro _ w9 ⟨rfl,hEw9⟩
 have hzw9:=hEw9.size
 rw [show ((zaa ([Rec.zero]) ([0])).getD (num 1 (hgt 1)) Nod.zero)=Nod.zero from zpu]
 refine zd 3 [(28,(vI 0)),(27,(vA (zw (zN (zM Nod.zero))))),(24,(.tuple #[(vA (zw (zN (zM Nod.zero)))),(vI 0)]))] (zb (zt (some 4) (Instr.alloc 23 true (.tuple #[])) (vP w9.heap.size 0) (zw Dig.zero) 23 ?_))
 intro w10 hBw10 hEw10
 have hzw10:=hEw10.size;have hlw10:=hBw10.lt
 refine zb (zz 23 w9.heap.size 0 23 (vA (zw (zN (zM Nod.zero)))) (zw Dig.zero) (zw (zN (zM Nod.zero))) hBw10 (by rw [zac];kernel_rfl) (by first |(simp;done)|(simp;omega)) (zaT _) ?_)
 intro w11 hBw11 hCw11
 have hzw11:=hCw11.size
 rw [zm _ _ (by simp)] at hBw11
 refine zd 1 [(5,(vI 0))] (zg (zc (zf (ze ?_))))
 have hK8:=(((((((((((((((hBw3.ext hEw4)).ext hEw5)).ext hEw6)).ext hEw7)).chg hCw8 (fun hs=>by have h:_=_:=hs;omega))).ext hEw9)).ext hEw10)).chg hCw11 (fun hs=>by have h:_=_:=hs;omega))
 refine zb (zj (some 30) (Instr.loadAt 33 (vP w1.heap.size 0)) (vA (zE (mkR 1 7))) (zD (vs:=zE (mkR 1 7)) (hK8.all) (by rw [zY];kernel_rfl)) ?_)
 refine zd 4 [(34,(vA (zE Rec.zero))),(33,(vA (zE Rec.zero))),(32,(vA (zE Rec.zero))),(31,(vA (zE Rec.zero)))] (zb (zt (some 35) (Instr.buildSlice 39 5 #[(0,(vA (zE (mkR 1 7)))),(1,(vA (zE Rec.zero))),(2,(vA (zE Rec.zero))),(3,(vA (zE Rec.zero))),(4,(vA (zE Rec.zero)))]) (.slice (pA w11.heap.size 0) 5 5) (([(mkR 1 7),Rec.zero,Rec.zero,Rec.zero,Rec.zero]:List Rec).flatMap zE) 33 ?_ (hr:=zgw (f:=zE) (sz:=35) (z:=(vA (zE Rec.zero))) [(mkR 1 7),Rec.zero,Rec.zero,Rec.zero,Rec.zero] zY (by decide) rfl (Nat.succ_pos _) (show 175≤2^24 from by decide) rfl)))
 intro w12 hBw12 hEw12
 have hzw12:=hEw12.size;have hlw12:=hBw12.lt
 have hmw12:Ms zE 35 w11.heap.size (w11.heap.size+1) w12 (pA w11.heap.size 0) 5 5 [(mkR 1 7),Rec.zero,Rec.zero,Rec.zero,Rec.zero]:=Ms.of_pre (r:= []) (by rw [List.append_nil];exact hBw12) zY rfl (Nat.le_refl _) (by decide) (Nat.le_refl _) (Nat.lt_succ_self _)
 refine zb (zt (some 36) (Instr.buildSlice 40 3 #[(0,(vI 1)),(1,(vI 0)),(2,(vI 0))]) (.slice (pA w12.heap.size 0) 3 3) [(vI 1),(vI 0),(vI 0)] 3 ?_)
 intro w13 hBw13 hEw13
 have hzw13:=hEw13.size;have hlw13:=hBw13.lt
 have hSw13:Es (nv .i64) w12.heap.size (w12.heap.size+1) w13 (pA w12.heap.size 0) 3 3 ([1,0,0]):=Es.of_blk hBw13 rfl rfl (Nat.le_refl _) (by decide) (Nat.le_refl _) (Nat.lt_succ_self _)
 have hK9:=(((((((((hK4.ext hEw9)).ext hEw10)).chg hCw11 (fun hs=>by have h:_=_:=hs;omega))).ext hEw12)).ext hEw13)
 have hK10:=(((((((((hK5.ext hEw9)).ext hEw10)).chg hCw11 (fun hs=>by have h:_=_:=hs;omega))).ext hEw12)).ext hEw13)
 have hK11:=(((((((((hK6.ext hEw9)).ext hEw10)).chg hCw11 (fun hs=>by have h:_=_:=hs;omega))).ext hEw12)).ext hEw13)
 refine zb (zi (some 37) (zh6 5 _ (hmw12.ext hEw13) hSw13 (zeN (zbg 1 7)) (by first | omega | decide) hK9 hK10 hK11) ?_)
 rintro _ w14 ⟨a2,rfl,hFz4_0,hEw14⟩
 have hzw14:=hEw14.size
 have hma2:=hFz4_0.ms;have hlea2:=hma2.le
 refine zd 3 [(39,(vI 0)),(38,(vA [(vI 5),(.slice a2 (tot 5) (tot 5))])),(29,(.tuple #[(vA [(vI 5),(.slice a2 (tot 5) (tot 5))]),(vI 0)]))] (zb (zt (some 6) (Instr.alloc 50 true (.tuple #[])) (vP w14.heap.size 0) ([(vI 0),(.slice none 0 0)]) 50 ?_))
 intro w15 hBw15 hEw15
 have hzw15:=hEw15.size;have hlw15:=hBw15.lt
 refine zb (zz 50 w14.heap.size 0 50 (vA [(vI 5),(.slice a2 (tot 5) (tot 5))]) ([(vI 0),(.slice none 0 0)]) ([(vI 5),(.slice a2 (tot 5) (tot 5))]) hBw15 (by kernel_rfl) (by first | decide |(simp;done)|(simp;omega)) (by simp [Value.oneCell']) ?_)
 intro w16 hBw16 hCw16
 have hzw16:=hCw16.size
 rw [zm _ _ (by kernel_rfl)] at hBw16
 refine zd 1 [(7,(vI 0))] (zg (zc (zf (ze (zb (zj (some 41) (Instr.loadAt 50 (vP w14.heap.size 0)) (vA [(vI 5),(.slice a2 (tot 5) (tot 5))]) (zD (vs:= [(vI 5),(.slice a2 (tot 5) (tot 5))]) (hBw16.all)) ?_))))))
 have hK12:=(((((hK9.ext hEw14)).ext hEw15)).chg hCw16 (fun hs=>by have h:_=_:=hs;omega))
 have hK13:=(((((hK10.ext hEw14)).ext hEw15)).chg hCw16 (fun hs=>by have h:_=_:=hs;omega))
 have hK14:=(((((hK11.ext hEw14)).ext hEw15)).chg hCw16 (fun hs=>by have h:_=_:=hs;omega))
 have hK15:=(((((((((((((((hK7.ext hEw9)).ext hEw10)).chg hCw11 (fun hs=>by have h:_=_:=hs;omega))).ext hEw12)).ext hEw13)).ext hEw14)).ext hEw15)).chg hCw16 (fun hs=>by have h:_=_:=hs;omega))
 refine zb (zi (some 42) (zgC 5 0 _ (((hma2.ext hEw15)).chg hCw16 (fun k h1 h2 hs=>by have h:k=_:=hs;omega)) (by first | omega | decide) (by first | omega | decide) (rfl) (zcE (zeN (zbg 1 7))) (by first | omega | decide) hK12 hK13 hK14 hK15) ?_)
 rintro _ w17 ⟨a3,rfl,hFz5_0,hEw17⟩
 have hzw17:=hEw17.size
 have hlea3:=hFz5_0.le
 rw [show mny 5 (zaa ([(mkR 1 7),Rec.zero,Rec.zero,Rec.zero,Rec.zero]) ([1,0,0])) 0=2 from zfD (zbg 1 7) (show (mkR 1 7).st≠0 by decide)] at hFz5_0
 rw [show mny 5 (zaa ([(mkR 1 7),Rec.zero,Rec.zero,Rec.zero,Rec.zero]) ([1,0,0])) 0=2 from zfD (zbg 1 7) (show (mkR 1 7).st≠0 by decide)]
 refine zd 3 [(44,(vI 0)),(43,(vA [(vI 0),(.slice a3 2 2)])),(40,(.tuple #[(vA [(vI 0),(.slice a3 2 2)]),(vI 0)]))] (zb (zt (some 8) (Instr.alloc 26 true (.tuple #[])) (vP w17.heap.size 0) ([(vI 0),(.slice none 0 0)]) 26 ?_))
 intro w18 hBw18 hEw18
 have hzw18:=hEw18.size;have hlw18:=hBw18.lt
 refine zb (zz 26 w17.heap.size 0 26 (vA [(vI 0),(.slice a3 2 2)]) ([(vI 0),(.slice none 0 0)]) ([(vI 0),(.slice a3 2 2)]) hBw18 (by kernel_rfl) (by first | decide |(simp;done)|(simp;omega)) (by simp [Value.oneCell']) ?_)
 intro w19 hBw19 hCw19
 have hzw19:=hCw19.size
 rw [zm _ _ (by kernel_rfl)] at hBw19
 refine zd 1 [(9,(vI 0))] (zg (zc (zf (ze ?_))))
 have hK16:=(((((hBw16.ext hEw17)).ext hEw18)).chg hCw19 (fun hs=>by have h:_=_:=hs;omega))
 refine zb (zj (some 46) (Instr.loadAt 50 (vP w14.heap.size 0)) (vA [(vI 5),(.slice a2 (tot 5) (tot 5))]) (zD (vs:= [(vI 5),(.slice a2 (tot 5) (tot 5))]) (hK16.all)) ?_)
 have hK17:=(((((((((hma2.ext hEw15)).chg hCw16 (fun k h1 h2 hs=>by have h:k=_:=hs;omega))).ext hEw17)).ext hEw18)).chg hCw19 (fun k h1 h2 hs=>by have h:k=_:=hs;omega))
 have hK18:=(((((hK12.ext hEw17)).ext hEw18)).chg hCw19 (fun hs=>by have h:_=_:=hs;omega))
 have hK19:=(((((hK13.ext hEw17)).ext hEw18)).chg hCw19 (fun hs=>by have h:_=_:=hs;omega))
 have hK20:=(((((hK14.ext hEw17)).ext hEw18)).chg hCw19 (fun hs=>by have h:_=_:=hs;omega))
 have hK21:=(((((hK15.ext hEw17)).ext hEw18)).chg hCw19 (fun hs=>by have h:_=_:=hs;omega))
 refine zb (zi (some 47) (zgC 5 4 _ hK17 (by first | omega | decide) (by first | omega | decide) (rfl) (zcE (zeN (zbg 1 7))) (by first | omega | decide) hK18 hK19 hK20 hK21) ?_)
 rintro _ w20 ⟨a4,rfl,hFz6_0,hEw20⟩
 have hzw20:=hEw20.size
 have hlea4:=hFz6_0.le
 rw [show mny 5 (zaa ([(mkR 1 7),Rec.zero,Rec.zero,Rec.zero,Rec.zero]) ([1,0,0])) 4=1 from zfE (zbg 1 7)] at hFz6_0
 rw [show mny 5 (zaa ([(mkR 1 7),Rec.zero,Rec.zero,Rec.zero,Rec.zero]) ([1,0,0])) 4=1 from zfE (zbg 1 7)]
 refine zd 3 [(49,(vI 0)),(48,(vA [(vI 4),(.slice a4 1 1)])),(45,(.tuple #[(vA [(vI 4),(.slice a4 1 1)]),(vI 0)]))] (zb (zt (some 10) (Instr.alloc 26 true (.tuple #[])) (vP w20.heap.size 0) ([(vI 0),(.slice none 0 0)]) 26 ?_))
 intro w21 hBw21 hEw21
 have hzw21:=hEw21.size;have hlw21:=hBw21.lt
 refine zb (zz 26 w20.heap.size 0 26 (vA [(vI 4),(.slice a4 1 1)]) ([(vI 0),(.slice none 0 0)]) ([(vI 4),(.slice a4 1 1)]) hBw21 (by kernel_rfl) (by first | decide |(simp;done)|(simp;omega)) (by simp [Value.oneCell']) ?_)
 intro w22 hBw22 hCw22
 have hzw22:=hCw22.size
 rw [zm _ _ (by kernel_rfl)] at hBw22
 refine zd 1 [(11,(vI 0))] (zg (zc (zf (ze ?_))))
 have hK22:=(((((hK16.ext hEw20)).ext hEw21)).chg hCw22 (fun hs=>by have h:_=_:=hs;omega))
 refine zb (zj (some 51) (Instr.loadAt 50 (vP w14.heap.size 0)) (vA [(vI 5),(.slice a2 (tot 5) (tot 5))]) (zD (vs:= [(vI 5),(.slice a2 (tot 5) (tot 5))]) (hK22.all)) ?_)
 have hK23:=(((((hK17.ext hEw20)).ext hEw21)).chg hCw22 (fun k h1 h2 hs=>by have h:k=_:=hs;omega))
 have hK24:=(((((hK18.ext hEw20)).ext hEw21)).chg hCw22 (fun hs=>by have h:_=_:=hs;omega))
 have hK25:=(((((hK19.ext hEw20)).ext hEw21)).chg hCw22 (fun hs=>by have h:_=_:=hs;omega))
 have hK26:=(((((hK20.ext hEw20)).ext hEw21)).chg hCw22 (fun hs=>by have h:_=_:=hs;omega))
 have hK27:=(((((hK21.ext hEw20)).ext hEw21)).chg hCw22 (fun hs=>by have h:_=_:=hs;omega))
 refine zb (zi (some 52) (zeP 5 _ hK23 (by first | omega | decide) (by first | omega | decide) (rfl) (zcE (zeN (zbg 1 7))) hK24 hK25 hK26 hK27) ?_)
 rintro _ w23 ⟨rfl,hEw23⟩
 have hzw23:=hEw23.size
 rw [show zN (zM ((zaa ([(mkR 1 7),Rec.zero,Rec.zero,Rec.zero,Rec.zero]) ([1,0,0])).getD (num 5 (hgt 5)) Nod.zero))=(zan ([(mkR 1 7),Rec.zero,Rec.zero,Rec.zero,Rec.zero]) ([1,0,0])) from znJ _]
 refine zd 3 [(54,(vI 0)),(53,(vA (zw ((zan ([(mkR 1 7),Rec.zero,Rec.zero,Rec.zero,Rec.zero]) ([1,0,0])))))),(50,(.tuple #[(vA (zw ((zan ([(mkR 1 7),Rec.zero,Rec.zero,Rec.zero,Rec.zero]) ([1,0,0]))))),(vI 0)]))] (zb (zt (some 12) (Instr.alloc 23 true (.tuple #[])) (vP w23.heap.size 0) (zw Dig.zero) 23 ?_))
 intro w24 hBw24 hEw24
 have hzw24:=hEw24.size;have hlw24:=hBw24.lt
 refine zb (zz 23 w23.heap.size 0 23 (vA (zw ((zan ([(mkR 1 7),Rec.zero,Rec.zero,Rec.zero,Rec.zero]) ([1,0,0]))))) (zw Dig.zero) (zw ((zan ([(mkR 1 7),Rec.zero,Rec.zero,Rec.zero,Rec.zero]) ([1,0,0])))) hBw24 (by rw [zac];kernel_rfl) (by first |(simp;done)|(simp;omega)) (zaT _) ?_)
 intro w25 hBw25 hCw25
 have hzw25:=hCw25.size
 rw [zm _ _ (by simp)] at hBw25
 refine zd 1 [(13,(vI 0))] (zg (zc (zf (zf (zag (Ext w25.drew) 36 [(56,8,0),(57,32,0),(58,108086391056891904,3),(59,128,0),(60,432345564227567616,12),(61,512,0),(62,1729382256910270464,48),(63,2048,0),(64,6917529027641081856,192),(65,8192,0),(66,27670116110564327424,768),(67,36893488147419103232,1024),(68,73786976294838206464,2048),(69,147573952589676412944,4096),(70,147573952589676412928,4096),(71,737869762948382064640,20480),(72,1623313478486440542208,45056),(73,2508757194024499019776,69632),(74,4722366482869645213696,163840),(75,9444732965739290427456,262144),(76,28334198897217871282176,786432),(77,47223664828696452136960,1310720),(78,85002596691653613846528,2359296),(79,160560460417567937265664,4456448),(80,302231454903657293676544,8650752),(81,604462909807314587353344,16777216),(82,1813388729421943762059264,50331648),(83,3022314549036572936765440,83886080),(84,5440166188265831286177792,150994944),(85,10275869466724347985002496,285212672),(86,19342813113834066795298816,553648128),(87,38685626227668133590598656,1073741824),(88,116056878683004400771792896,3221225472),(89,193428131138340667952988160,5368709120),(90,348170636049013202315378688,9663676416),(91,657655645870358271040159744,18253611008)] (fun hT187=> ?_))))))
 have hEw26:Ext w25 w25.drew:=Ext.drew w25
 generalize w25.drew=w26 at hEw26⊢
 have hzw26:=hEw26.size
 refine zk hT187 [(0,55,(vI 0)),(1,56,(vI 0))] 2 3 (zh hT187 2 7 (some 57) (vI 0) (zq .i64 (IntKind.i64.wrap (((0:Nat):Int)+((0:Nat):Int))) (zG (by omega) (by omega) (by omega))) (zk hT187 [(3,58,(vI 0))] 1 15 (zh hT187 4 31 (some 59) (vI 0) (zq .i64 (IntKind.i64.wrap (((0:Nat):Int)+((0:Nat):Int))) (zG (by omega) (by omega) (by omega))) (zk hT187 [(5,60,(vI 0))] 1 63 (zh hT187 6 127 (some 61) (vI 0) (zq .i64 (IntKind.i64.wrap (((0:Nat):Int)+((0:Nat):Int))) (zG (by omega) (by omega) (by omega))) (zk hT187 [(7,62,(vI 0))] 1 255 (zh hT187 8 511 (some 63) (vI 0) (zq .i64 (IntKind.i64.wrap (((0:Nat):Int)+((0:Nat):Int))) (zG (by omega) (by omega) (by omega))) (zk hT187 [(9,64,(vI 0))] 1 1023 (zh hT187 10 2047 (some 65) (vI 0) (zq .i64 (IntKind.i64.wrap (((0:Nat):Int)+((0:Nat):Int))) (zG (by omega) (by omega) (by omega))) ?_)))))))))
 refine zk hT187 [(11,66,vF),(12,67,vF)] 2 8191 ?_
 have hK28:=(((((((((((((((((((((((((((((hBw11.ext hEw12)).ext hEw13)).ext hEw14)).ext hEw15)).chg hCw16 (fun hs=>by have h:_=_:=hs;omega))).ext hEw17)).ext hEw18)).chg hCw19 (fun hs=>by have h:_=_:=hs;omega))).ext hEw20)).ext hEw21)).chg hCw22 (fun hs=>by have h:_=_:=hs;omega))).ext hEw23)).ext hEw24)).chg hCw25 (fun hs=>by have h:_=_:=hs;omega))).ext hEw26)
 refine zh hT187 13 16383 (some 68) (vA (zw (zN (zM Nod.zero)))) (zl (Instr.loadAt 23 (vP w9.heap.size 0)) (fun w' hC=>zD (vs:=zw (zN (zM Nod.zero))) ((hK28.ext hC).all) (by rw [zac];kernel_rfl))) (zk hT187 [(14,69,(vA (zK Nod.zero)))] 1 32767 (zn 15 65535 (zi (some 70) (zhm Nod.zero _) ?_)))
 rintro _ w27 ⟨rfl,hEw27⟩
 have hzw27:=hEw27.size
 refine ⟨.inr hEw27, ?_⟩
 refine zh (hw:=hEw27) hT187 16 131071 (some 71) vF (zl (bo .neq 23 (.tmp 68) (.tmp 70) (vA (zw (zN (zM Nod.zero)))) (vA (zw (zN (zM Nod.zero))))) (fun w' hC=>zav (r:=true) (T:=23) ((zbj (dd:=9998) (t:=23) (e:=5) (zN (zM Nod.zero)) (zN (zM Nod.zero))).trans (congrArg (fun b=>Result.ok b _) (show ((zN (zM Nod.zero)).l==(zN (zM Nod.zero)).l)=true from beq_iff_eq.2 rfl))))) (zk (hw:=hEw27) hT187 [(17,72,vF),(18,73,vF),(19,74,(vP w14.heap.size 1))] 3 1048575 ?_)
 have hK29:=(((((((hK22.ext hEw23)).ext hEw24)).chg hCw25 (fun hs=>by have h:_=_:=hs;omega))).ext hEw26)
 refine zh (hw:=hEw27) hT187 20 2097151 (some 75) (.slice a2 (tot 5) (tot 5)) (zl (Instr.loadAt 24 (vP w14.heap.size 1)) (fun w' hC=>zo ((hK29.ext hC).cell rfl))) (zk (hw:=hEw27) hT187 [(21,76,(vI (tot 5)))] 1 4194303 (zh (hw:=hEw27) hT187 22 8388607 (some 77) vF (zaI (((tot 5:Nat):Int) !=((3:Nat):Int)) (zaL (by omega))) (zk (hw:=hEw27) hT187 [(23,78,vF),(24,79,vF),(25,80,(vP w17.heap.size 1))] 3 67108863 ?_)))
 have hK30:=(((((((((((((hBw19.ext hEw20)).ext hEw21)).chg hCw22 (fun hs=>by have h:_=_:=hs;omega))).ext hEw23)).ext hEw24)).chg hCw25 (fun hs=>by have h:_=_:=hs;omega))).ext hEw26)
 refine zh (hw:=hEw27) hT187 26 134217727 (some 81) (.slice a3 2 2) (zl (Instr.loadAt 24 (vP w17.heap.size 1)) (fun w' hC=>zo ((hK30.ext hC).cell rfl))) (zk (hw:=hEw27) hT187 [(27,82,(vI 2))] 1 268435455 (zh (hw:=hEw27) hT187 28 536870911 (some 83) vF (zaI (((2:Nat):Int) !=((2:Nat):Int)) (zaL (by omega))) (zk (hw:=hEw27) hT187 [(29,84,vF),(30,85,vF),(31,86,(vP w20.heap.size 1))] 3 4294967295 ?_)))
 have hK31:=(((((((hBw22.ext hEw23)).ext hEw24)).chg hCw25 (fun hs=>by have h:_=_:=hs;omega))).ext hEw26)
 refine zh (hw:=hEw27) hT187 32 8589934591 (some 87) (.slice a4 1 1) (zl (Instr.loadAt 24 (vP w20.heap.size 1)) (fun w' hC=>zo ((hK31.ext hC).cell rfl))) (zk (hw:=hEw27) hT187 [(33,88,(vI 1))] 1 17179869183 (zh (hw:=hEw27) hT187 34 34359738367 (some 89) vF (zaI (((1:Nat):Int) !=((1:Nat):Int)) (zaL (by omega))) (zk (hw:=hEw27) hT187 [(35,90,vF)] 1 68719476735 (zJ (zc (zr (zy (zc (zf ?_)))))))))
 refine zf (zag (Ext w27.drew) 12 [(92,64,0),(93,2475880078570760549798248448,1),(94,4951760157141521099596496896,2),(95,9903520314283042199192993792,4),(96,19807040628566084398385987584,8),(97,2,0),(98,79228162514264337593543950336,32),(99,158456325028528675187087900672,64),(100,316912650057057350374175801344,128),(101,633825300114114700748351602688,256),(102,1267650600228229401496703205376,512),(103,2574915281713590971790178385920,1040)] (fun hT233=> ?_))
 have hEw28:Ext w27 w27.drew:=Ext.drew w27
 generalize w27.drew=w28 at hEw28⊢
 have hzw28:=hEw28.size
 refine zk hT233 [(0,91,(vP w14.heap.size 1))] 1 1 (zh hT233 1 3 (some 92) (.slice a2 (tot 5) (tot 5)) (zl (Instr.loadAt 24 (vP w14.heap.size 1)) (fun w' hC=>zo (((((hK29.ext hEw27)).ext hEw28).ext hC).cell rfl))) ?_)
 obtain ⟨b1,o1,rfl⟩:=hK23.addr (by omega) (by decide)
 refine zh hT233 2 7 (some 93) (vP b1 (o1+2*274)) (zl (Instr.indexAt 24 (.slice (pA b1 o1) (tot 5) (tot 5)) (vI 2)) (fun w' hC=>zap (E:=47) (sz:=274) (by omega))) (zk hT233 [(3,94,(vP b1 (o1+2*274+142)))] 1 15 ?_)
 have hK32:=(((((((((((hK23.ext hEw23)).ext hEw24)).chg hCw25 (fun k h1 h2 hs=>by have h:k=_:=hs;omega))).ext hEw26)).ext hEw27)).ext hEw28)
 refine zh hT233 4 31 (some 95) (vA (e4C ((zaa ([(mkR 1 7),Rec.zero,Rec.zero,Rec.zero,Rec.zero]) ([1,0,0])).getD 2 Nod.zero).es)) (zl (Instr.loadAt 45 (vP b1 (o1+2*274+142))) (fun w' hC=>zD (vs:=e4C ((zaa ([(mkR 1 7),Rec.zero,Rec.zero,Rec.zero,Rec.zero]) ([1,0,0])).getD 2 Nod.zero).es) (((hK32.ext hC).at Nod.zero (by omega)).sub 142 (e4C ((zaa ([(mkR 1 7),Rec.zero,Rec.zero,Rec.zero,Rec.zero]) ([1,0,0])).getD 2 Nod.zero).es) (zeK _)) (by rw [zdg];kernel_rfl))) ?_
 have hK33:=(((((((((((((((((((((((((((((((((hK8.ext hEw12)).ext hEw13)).ext hEw14)).ext hEw15)).chg hCw16 (fun hs=>by have h:_=_:=hs;omega))).ext hEw17)).ext hEw18)).chg hCw19 (fun hs=>by have h:_=_:=hs;omega))).ext hEw20)).ext hEw21)).chg hCw22 (fun hs=>by have h:_=_:=hs;omega))).ext hEw23)).ext hEw24)).chg hCw25 (fun hs=>by have h:_=_:=hs;omega))).ext hEw26)).ext hEw27)).ext hEw28)
 refine zh hT233 5 63 (some 96) (vA (zE (mkR 1 7))) (zl (Instr.loadAt 33 (vP w1.heap.size 0)) (fun w' hC=>zD (vs:=zE (mkR 1 7)) ((hK33.ext hC).all) (by rw [zY];kernel_rfl))) (zh hT233 6 127 (some 97) (vA (r4C (R4.zero.set 0 (mkR 1 7)))) (zl (Instr.build 42 #[(0,(vA (zE (mkR 1 7))))]) (fun w' hC=>zjo (E:=33) (mkR 1 7))) (zh hT233 7 255 (some 98) (vA (zK (⟨0,0,(R4.zero.set 0 (mkR 1 7)),E4.zero,by decide,by decide⟩))) (zl (Instr.build 47 #[(2,(vA (r4C (R4.zero.set 0 (mkR 1 7)))))]) (fun w' hC=>zhR (R4.zero.set 0 (mkR 1 7)))) (zn 8 511 (zi (some 99) (zhm (⟨0,0,(R4.zero.set 0 (mkR 1 7)),E4.zero,by decide,by decide⟩) _) ?_))))
 rintro _ w29 ⟨rfl,hEw29⟩
 have hzw29:=hEw29.size
 refine ⟨.inr hEw29, ?_⟩
 refine zh (hw:=hEw29) hT233 9 1023 (some 100) (vA (zai (⟨2,(zN (zM (⟨0,0,(R4.zero.set 0 (mkR 1 7)),E4.zero,by decide,by decide⟩))),by omega⟩))) (zl (Instr.build 44 #[(0,(vB 2)),(1,(vA (zw (zN (zM (⟨0,0,(R4.zero.set 0 (mkR 1 7)),E4.zero,by decide,by decide⟩))))))]) (fun w' hC=>zfP 2 (zN (zM (⟨0,0,(R4.zero.set 0 (mkR 1 7)),E4.zero,by decide,by decide⟩))) (by omega))) (zh (hw:=hEw29) hT233 10 2047 (some 101) (vA (e4C (E4.zero.set 0 (⟨2,(zN (zM (⟨0,0,(R4.zero.set 0 (mkR 1 7)),E4.zero,by decide,by decide⟩))),by omega⟩)))) (zl (Instr.build 45 #[(0,(vA (zai (⟨2,(zN (zM (⟨0,0,(R4.zero.set 0 (mkR 1 7)),E4.zero,by decide,by decide⟩))),by omega⟩))))]) (fun w' hC=>zjh (E:=44) (⟨2,(zN (zM (⟨0,0,(R4.zero.set 0 (mkR 1 7)),E4.zero,by decide,by decide⟩))),by omega⟩))) ?_)
 refine zh (hw:=hEw29) hT233 11 4095 (some 102) vF (zl (bo .neq 45 (.tmp 95) (.tmp 101) (vA (e4C ((zaa ([(mkR 1 7),Rec.zero,Rec.zero,Rec.zero,Rec.zero]) ([1,0,0])).getD 2 Nod.zero).es)) (vA (e4C (E4.zero.set 0 (⟨2,(zN (zM (⟨0,0,(R4.zero.set 0 (mkR 1 7)),E4.zero,by decide,by decide⟩))),by omega⟩))))) (fun w' hC=>zav (r:=true) (T:=45) ((zeW (dd:=9996) (T:=45) (t:=44) (t8:=5) (td:=23) (e:=5) (((zaa ([(mkR 1 7),Rec.zero,Rec.zero,Rec.zero,Rec.zero]) ([1,0,0])).getD 2 Nod.zero).es) (E4.zero.set 0 (⟨2,(zN (zM (⟨0,0,(R4.zero.set 0 (mkR 1 7)),E4.zero,by decide,by decide⟩))),by omega⟩))).trans (congrArg (fun b=>Result.ok b _) (show ((((zaa ([(mkR 1 7),Rec.zero,Rec.zero,Rec.zero,Rec.zero]) ([1,0,0])).getD 2 Nod.zero).es).eqb (E4.zero.set 0 (⟨2,(zN (zM (⟨0,0,(R4.zero.set 0 (mkR 1 7)),E4.zero,by decide,by decide⟩))),by omega⟩)))=true from (E4.eqb_iff _ _).2 (zqo (show (mkR 1 7).st≠0 by decide))))))) (zJ (zc (zr (zy (zc (zf (ze ?_)))))))
 have hK34:=(((((((hBw25.ext hEw26)).ext hEw27)).ext hEw28)).ext hEw29)
 refine zb (zj (some 104) (Instr.loadAt 23 (vP w23.heap.size 0)) (vA (zw ((zan ([(mkR 1 7),Rec.zero,Rec.zero,Rec.zero,Rec.zero]) ([1,0,0]))))) (zD (vs:=zw ((zan ([(mkR 1 7),Rec.zero,Rec.zero,Rec.zero,Rec.zero]) ([1,0,0])))) (hK34.all) (by rw [zac];kernel_rfl)) ?_)
 have hK35:=(((((hK30.ext hEw27)).ext hEw28)).ext hEw29)
 refine zb (zj (some 105) (Instr.loadAt 26 (vP w17.heap.size 0)) (vA [(vI 0),(.slice a3 2 2)]) (zD (vs:= [(vI 0),(.slice a3 2 2)]) (hK35.all)) ?_)
 have hK36:=(((((((((((((((((((((((hFz5_0.ext hEw18)).chg hCw19 (fun k h1 h2 hs=>by have h:k=_:=hs;omega))).ext hEw20)).ext hEw21)).chg hCw22 (fun k h1 h2 hs=>by have h:k=_:=hs;omega))).ext hEw23)).ext hEw24)).chg hCw25 (fun k h1 h2 hs=>by have h:k=_:=hs;omega))).ext hEw26)).ext hEw27)).ext hEw28)).ext hEw29)
 have hK37:=(((((((((((((hK24.ext hEw23)).ext hEw24)).chg hCw25 (fun hs=>by have h:_=_:=hs;omega))).ext hEw26)).ext hEw27)).ext hEw28)).ext hEw29)
 have hK38:=(((((((((((((hK25.ext hEw23)).ext hEw24)).chg hCw25 (fun hs=>by have h:_=_:=hs;omega))).ext hEw26)).ext hEw27)).ext hEw28)).ext hEw29)
 have hK39:=(((((((((((((hK26.ext hEw23)).ext hEw24)).chg hCw25 (fun hs=>by have h:_=_:=hs;omega))).ext hEw26)).ext hEw27)).ext hEw28)).ext hEw29)
 have hK40:=(((((((((((((hK27.ext hEw23)).ext hEw24)).chg hCw25 (fun hs=>by have h:_=_:=hs;omega))).ext hEw26)).ext hEw27)).ext hEw28)).ext hEw29)
 refine zb (zi (some 106) (zcN ((5:Nat):Int) ((zan ([(mkR 1 7),Rec.zero,Rec.zero,Rec.zero,Rec.zero]) ([1,0,0]))) ((0:Nat):Int) _ hK36 hK37 hK38 hK39 hK40) ?_)
 rintro _ w30 ⟨rfl,hEw30⟩
 have hzw30:=hEw30.size
 rw [show zbu ((5:Nat):Int) ((zan ([(mkR 1 7),Rec.zero,Rec.zero,Rec.zero,Rec.zero]) ([1,0,0]))) ((0:Nat):Int) (zaR 5 (zaa ([(mkR 1 7),Rec.zero,Rec.zero,Rec.zero,Rec.zero]) ([1,0,0])) 0 2)=0 from by have hz:=(zgz (zbg 1 7) (b:=0) (by decide)).1;rw [zfD (zbg 1 7) (show (mkR 1 7).st≠0 by decide)] at hz;exact hz]
 rw [show zbs ((5:Nat):Int) ((zan ([(mkR 1 7),Rec.zero,Rec.zero,Rec.zero,Rec.zero]) ([1,0,0]))) ((0:Nat):Int) (zaR 5 (zaa ([(mkR 1 7),Rec.zero,Rec.zero,Rec.zero,Rec.zero]) ([1,0,0])) 0 2)=mkR 1 7 from by have hz:=(zgz (zbg 1 7) (b:=0) (by decide)).2;rw [zfD (zbg 1 7) (show (mkR 1 7).st≠0 by decide)] at hz;exact hz]
 refine zd 3 [(108,(vI 0)),(107,(vA (zE (mkR 1 7)))),(103,(.tuple #[(vA (zE (mkR 1 7))),(vI 0)]))] (zb (zt (some 14) (Instr.alloc 33 true (.tuple #[])) (vP w30.heap.size 0) (zE Rec.zero) 33 ?_))
 intro w31 hBw31 hEw31
 have hzw31:=hEw31.size;have hlw31:=hBw31.lt
 refine zb (zz 33 w30.heap.size 0 33 (vA (zE (mkR 1 7))) (zE Rec.zero) (zE (mkR 1 7)) hBw31 (by rw [zY];kernel_rfl) (by first |(simp;done)|(simp;omega)) (zaU _) ?_)
 intro w32 hBw32 hCw32
 have hzw32:=hCw32.size
 rw [zm _ _ (by simp)] at hBw32
 refine zd 1 [(3,(vI 0))] (zg (zc (zf (ze ?_))))
 have hK41:=(((((hK34.ext hEw30)).ext hEw31)).chg hCw32 (fun hs=>by have h:_=_:=hs;omega))
 refine zb (zj (some 110) (Instr.loadAt 23 (vP w23.heap.size 0)) (vA (zw ((zan ([(mkR 1 7),Rec.zero,Rec.zero,Rec.zero,Rec.zero]) ([1,0,0]))))) (zD (vs:=zw ((zan ([(mkR 1 7),Rec.zero,Rec.zero,Rec.zero,Rec.zero]) ([1,0,0])))) (hK41.all) (by rw [zac];kernel_rfl)) ?_)
 have hK42:=(((((((((((hK31.ext hEw27)).ext hEw28)).ext hEw29)).ext hEw30)).ext hEw31)).chg hCw32 (fun hs=>by have h:_=_:=hs;omega))
 refine zb (zj (some 111) (Instr.loadAt 26 (vP w20.heap.size 0)) (vA [(vI 4),(.slice a4 1 1)]) (zD (vs:= [(vI 4),(.slice a4 1 1)]) (hK42.all)) ?_)
 have hK43:=(((((((((((((((((((((((hFz6_0.ext hEw21)).chg hCw22 (fun k h1 h2 hs=>by have h:k=_:=hs;omega))).ext hEw23)).ext hEw24)).chg hCw25 (fun k h1 h2 hs=>by have h:k=_:=hs;omega))).ext hEw26)).ext hEw27)).ext hEw28)).ext hEw29)).ext hEw30)).ext hEw31)).chg hCw32 (fun k h1 h2 hs=>by have h:k=_:=hs;omega))
 have hK44:=(((((hK37.ext hEw30)).ext hEw31)).chg hCw32 (fun hs=>by have h:_=_:=hs;omega))
 have hK45:=(((((hK38.ext hEw30)).ext hEw31)).chg hCw32 (fun hs=>by have h:_=_:=hs;omega))
 have hK46:=(((((hK39.ext hEw30)).ext hEw31)).chg hCw32 (fun hs=>by have h:_=_:=hs;omega))
 have hK47:=(((((hK40.ext hEw30)).ext hEw31)).chg hCw32 (fun hs=>by have h:_=_:=hs;omega))
 refine zb (zi (some 112) (zcN ((5:Nat):Int) ((zan ([(mkR 1 7),Rec.zero,Rec.zero,Rec.zero,Rec.zero]) ([1,0,0]))) ((4:Nat):Int) _ hK43 hK44 hK45 hK46 hK47) ?_)
 rintro _ w33 ⟨rfl,hEw33⟩
 have hzw33:=hEw33.size
 rw [show zbu ((5:Nat):Int) ((zan ([(mkR 1 7),Rec.zero,Rec.zero,Rec.zero,Rec.zero]) ([1,0,0]))) ((4:Nat):Int) (zaR 5 (zaa ([(mkR 1 7),Rec.zero,Rec.zero,Rec.zero,Rec.zero]) ([1,0,0])) 4 1)=0 from by have hz:=(zgz (zbg 1 7) (b:=4) (by decide)).1;rw [zfE (zbg 1 7)] at hz;exact hz]
 rw [show zbs ((5:Nat):Int) ((zan ([(mkR 1 7),Rec.zero,Rec.zero,Rec.zero,Rec.zero]) ([1,0,0]))) ((4:Nat):Int) (zaR 5 (zaa ([(mkR 1 7),Rec.zero,Rec.zero,Rec.zero,Rec.zero]) ([1,0,0])) 4 1)=Rec.zero from by have hz:=(zgz (zbg 1 7) (b:=4) (by decide)).2;rw [zfE (zbg 1 7)] at hz;exact hz]
 refine zd 3 [(114,(vI 0)),(113,(vA (zE (Rec.zero)))),(109,(.tuple #[(vA (zE (Rec.zero))),(vI 0)]))] (zb (zt (some 15) (Instr.alloc 33 true (.tuple #[])) (vP w33.heap.size 0) (zE Rec.zero) 33 ?_))
 intro w34 hBw34 hEw34
 have hzw34:=hEw34.size;have hlw34:=hBw34.lt
 refine zb (zz 33 w33.heap.size 0 33 (vA (zE (Rec.zero))) (zE Rec.zero) (zE (Rec.zero)) hBw34 (by rw [zY];kernel_rfl) (by first |(simp;done)|(simp;omega)) (zaU _) ?_)
 intro w35 hBw35 hCw35
 have hzw35:=hCw35.size
 rw [zm _ _ (by simp)] at hBw35
 refine zd 1 [(5,(vI 0))] (zg (zc (zf (ze (zb (zcU (some 116) 39 33 35 56 4 4 .i64 .i64 (vA (zE Rec.zero)) (by omega) (by omega) (by omega) ?_))))))
 rw [zeX (f:=zE) (x:=Rec.zero) rfl (zY _) (by decide)]
 intro w36 hBw36 hEw36
 have hzw36:=hEw36.size;have hlw36:=hBw36.lt
 have hmw36:Ms zE 35 w35.heap.size (w35.heap.size+1) w36 (pA w35.heap.size 0) 4 4 (List.replicate 4 Rec.zero):=Ms.of_pre (r:= []) (by rw [List.append_nil];exact hBw36) zY (by simp) (Nat.le_refl _) (by simp only [maxLen];omega) (Nat.le_refl _) (Nat.lt_succ_self _)
 refine zb (zt (some 117) (Instr.buildSlice 40 3 #[(0,(vI 0)),(1,(vI 0)),(2,(vI 0))]) (.slice (pA w36.heap.size 0) 3 3) [(vI 0),(vI 0),(vI 0)] 3 ?_)
 intro w37 hBw37 hEw37
 have hzw37:=hEw37.size;have hlw37:=hBw37.lt
 have hSw37:Es (nv .i64) w36.heap.size (w36.heap.size+1) w37 (pA w36.heap.size 0) 3 3 ([0,0,0]):=Es.of_blk hBw37 rfl rfl (Nat.le_refl _) (by decide) (Nat.le_refl _) (Nat.lt_succ_self _)
 refine zb (zi (some 118) (zmW 5 (pA w35.heap.size 0) 4 4 (pA w36.heap.size 0) 3 3 _ (by first | omega | decide) (by first | omega | decide) (by first | omega | decide)) ?_)
 rintro _ w38 ⟨rfl,hEw38⟩
 have hzw38:=hEw38.size
 refine zd 4 [(7,(vI 1)),(120,(vI 1)),(119,(vA [(vI 0),(.slice none 0 0)])),(115,(.tuple #[(vA [(vI 0),(.slice none 0 0)]),(vI 1)]))] (zg (zc (zf (ze ?_))))
 have hK48:=(((((((((((hK41.ext hEw33)).ext hEw34)).chg hCw35 (fun hs=>by have h:_=_:=hs;omega))).ext hEw36)).ext hEw37)).ext hEw38)
 refine zb (zj (some 122) (Instr.loadAt 23 (vP w23.heap.size 0)) (vA (zw ((zan ([(mkR 1 7),Rec.zero,Rec.zero,Rec.zero,Rec.zero]) ([1,0,0]))))) (zD (vs:=zw ((zan ([(mkR 1 7),Rec.zero,Rec.zero,Rec.zero,Rec.zero]) ([1,0,0])))) (hK48.all) (by rw [zac];kernel_rfl)) ?_)
 refine zd 1 [(123,(vA [(vI 0),(.slice none 0 0)]))] ?_
 have hK49:=(((((((((((hK44.ext hEw33)).ext hEw34)).chg hCw35 (fun hs=>by have h:_=_:=hs;omega))).ext hEw36)).ext hEw37)).ext hEw38)
 have hK50:=(((((((((((hK45.ext hEw33)).ext hEw34)).chg hCw35 (fun hs=>by have h:_=_:=hs;omega))).ext hEw36)).ext hEw37)).ext hEw38)
 have hK51:=(((((((((((hK46.ext hEw33)).ext hEw34)).chg hCw35 (fun hs=>by have h:_=_:=hs;omega))).ext hEw36)).ext hEw37)).ext hEw38)
 have hK52:=(((((((((((hK47.ext hEw33)).ext hEw34)).chg hCw35 (fun hs=>by have h:_=_:=hs;omega))).ext hEw36)).ext hEw37)).ext hEw38)
 refine zb (zi (some 124) (zcN ((5:Nat):Int) ((zan ([(mkR 1 7),Rec.zero,Rec.zero,Rec.zero,Rec.zero]) ([1,0,0]))) ((0:Nat):Int) _ (Ms.nil zK 0 0 _ (by simp)) hK49 hK50 hK51 hK52) ?_)
 rintro _ w39 ⟨rfl,hEw39⟩
 have hzw39:=hEw39.size
 rw [show zbu ((5:Nat):Int) ((zan ([(mkR 1 7),Rec.zero,Rec.zero,Rec.zero,Rec.zero]) ([1,0,0]))) ((0:Nat):Int) ([])=1 from zeF (fun h=>absurd h.2.2.2.2.1 (by decide))]
 refine zd 4 [(9,(vI 1)),(126,(vI 1)),(125,(vA (zE (zbs ((5:Nat):Int) ((zan ([(mkR 1 7),Rec.zero,Rec.zero,Rec.zero,Rec.zero]) ([1,0,0]))) ((0:Nat):Int) ([]))))),(121,(.tuple #[(vA (zE (zbs ((5:Nat):Int) ((zan ([(mkR 1 7),Rec.zero,Rec.zero,Rec.zero,Rec.zero]) ([1,0,0]))) ((0:Nat):Int) ([])))),(vI 1)]))] (zg (zc (zf (ze (zd 2 [(128,(vI 0)),(127,(vI 0))] (zb (zv (some 129) .i64 (IntKind.i64.wrap (((0:Nat):Int)+((0:Nat):Int))) 0 (zG (by omega) (by omega) (by omega)) ?_)))))))
 refine zd 2 [(131,vT),(130,vT)] ?_
 have hK53:=(((((((((((((hBw32.ext hEw33)).ext hEw34)).chg hCw35 (fun hs=>by have h:_=_:=hs;omega))).ext hEw36)).ext hEw37)).ext hEw38)).ext hEw39)
 refine zb (zj (some 132) (Instr.loadAt 33 (vP w30.heap.size 0)) (vA (zE (mkR 1 7))) (zD (vs:=zE (mkR 1 7)) (hK53.all) (by rw [zY];kernel_rfl)) ?_)
 have hK54:=(((((((((((((((((((((hK33.ext hEw29)).ext hEw30)).ext hEw31)).chg hCw32 (fun hs=>by have h:_=_:=hs;omega))).ext hEw33)).ext hEw34)).chg hCw35 (fun hs=>by have h:_=_:=hs;omega))).ext hEw36)).ext hEw37)).ext hEw38)).ext hEw39)
 refine zb (zj (some 133) (Instr.loadAt 33 (vP w1.heap.size 0)) (vA (zE (mkR 1 7))) (zD (vs:=zE (mkR 1 7)) (hK54.all) (by rw [zY];kernel_rfl)) ?_)
 refine zb (zj (some 134) (bo .eql 33 (.tmp 132) (.tmp 133) (vA (zE (mkR 1 7))) (vA (zE (mkR 1 7)))) vT (zhE (r:=true) (T:=33) ((zb8 (dd:=9997) (t:=33) (t8:=5) (tn:=31) (td:=23) (e:=5) (t32:=28) (t64:=29) (mkR 1 7) (mkR 1 7)).trans (congrArg (fun b=>Result.ok b _) (show ((mkR 1 7).eqb (mkR 1 7))=true from (Rec.eqb_iff _ _).2 rfl)))) ?_)
 refine zd 2 [(136,vT),(135,vT)] ?_
 have hK55:=(((((((hBw35.ext hEw36)).ext hEw37)).ext hEw38)).ext hEw39)
 refine zb (zj (some 137) (Instr.loadAt 33 (vP w33.heap.size 0)) (vA (zE (Rec.zero))) (zD (vs:=zE (Rec.zero)) (hK55.all) (by rw [zY];kernel_rfl)) ?_)
 refine zd 1 [(138,(vA (zE Rec.zero)))] (zb (zj (some 139) (bo .eql 33 (.tmp 137) (.tmp 138) (vA (zE (Rec.zero))) (vA (zE Rec.zero))) vT (zhE (r:=true) (T:=33) ((zb8 (dd:=9997) (t:=33) (t8:=5) (tn:=31) (td:=23) (e:=5) (t32:=28) (t64:=29) (Rec.zero) Rec.zero).trans (congrArg (fun b=>Result.ok b _) (show ((Rec.zero).eqb Rec.zero)=true from (Rec.eqb_iff _ _).2 rfl)))) ?_))
 refine zd 10 [(0,vT),(148,vT),(147,vT),(146,(vI 1)),(145,vT),(144,vT),(143,vT),(142,(vI 1)),(141,vT),(140,vT)] (zg (zc (zx (zB vT ?_))))
 have hX1:Ext w w39:=(((((Ext.own (((Ext.own (((((((Ext.own (((Ext.own (((Ext.own (((Ext.own (((((Ext.own (((Ext.own (((((Ext.own (hEw1.trans hEw2) hCw3 (by omega)).trans hEw4).trans hEw5).trans hEw6).trans hEw7) hCw8 (by omega)).trans hEw9).trans hEw10) hCw11 (by omega)).trans hEw12).trans hEw13).trans hEw14).trans hEw15) hCw16 (by omega)).trans hEw17).trans hEw18) hCw19 (by omega)).trans hEw20).trans hEw21) hCw22 (by omega)).trans hEw23).trans hEw24) hCw25 (by omega)).trans hEw26).trans hEw27).trans hEw28).trans hEw29).trans hEw30).trans hEw31) hCw32 (by omega)).trans hEw33).trans hEw34) hCw35 (by omega)).trans hEw36).trans hEw37).trans hEw38).trans hEw39)
 exact ⟨rfl,hX1⟩
end Go.Proofs.YtgdpdnokcnhgnaaGreatDoor
namespace Go.Proofs.YtgdpdnokcnhgnaaGreatDoor
open Go Go.RowKit Go.Cs
set_option maxRecDepth 100000
theorem zqL {bb lo hi n c:Nat} {a:Option Addr} {l:List Nat} (B lp:Nat) (U:Nat→Prop) (J Jx:Nat→World→Prop) (w:World) (hB1:Blk w bb [.slice a n c] 40) (hc:Es (nv .i64) lo hi w a n c l) (hU:∀b,(B≤b∨U b)→b≠bb∧¬(lo≤b∧b<hi)) (hJ:∀k W W',J k W→Ext W W'→J k W') (hY:∀k W,k<n→J k W→Yat Tryz.prog lp [vI (n-1-k),vI (gt l (n-1-k))] W (fun v W'=>(v= .bool true∧J (k+1) W'∧Chg (fun b=>B≤b∨U b) W W')∨(v= .bool false∧Chg (fun b=>B≤b∨U b) W W'∧Jx k W'))) (h0:J 0 w):
  Calls Tryz.prog 91 #[(.func (.yield lp) #[] #[]),(vP bb 0)] w (Ret fun r w'=>J n w'∨∃k,k<n∧Jx k w'):=by
 refine zL (n:=19) (σ:= [(0,(.func (.yield lp) #[] #[])),(1,(vP bb 0))]) Tryz.func91 rfl ?_
 have hlen:=hc.len_eq;have hle0:=hc.le
 refine zf (ze (zb (zj (some 4) (Instr.loadAt 40 (vP bb 0)) (.slice a n c) (zo (hB1.cell rfl)) ?_)))
 refine zd 1 [(5,(vI n))] (zb (zet (some 6) .i64 (IntKind.i64.wrap (((n:Nat):Int)-((1:Nat):Int))) ((n:Int)-1-((0:Nat):Int)) (zG (by omega) (by omega) (by omega)) ?_))
 refine zd 1 [(3,(.int .i64 ((n:Int)-1-((0:Nat):Int))))] (zg (zc (zI (zah (X:=Nat) (fun k=> [(3,(.int .i64 ((n:Int)-1-(k:Int))))]) [7,8,9,10,11,12,13,14,15,16,17,18] (fun k w1=>k≤n∧J k w1∧Blk w1 bb [.slice a n c] 40∧Es (nv .i64) lo hi w1 a n c l) (fun k=>n-k) 0 (by kernel_rfl) ⟨Nat.zero_le _,h0,hB1,hc⟩ ?_))))
 rintro k dw1 w1 ⟨hk,hJk,hBa,hEc⟩
 have hBlt:=hBa.lt
 have hle:=hEc.le
 refine zf (zf (ze (zd 1 [(7,(.int .i64 ((n:Int)-1-(k:Int))))] (zb (zO (some 8) (decide (((n:Int)-1-(k:Int))≥((0:Nat):Int))) (fun hc8=> ?_) (fun hc8=> ?_))))))
 ·replace hc8:((n:Int)-1-(k:Int))≥((0:Nat):Int):=by have:=zak hc8;omega
  rw [show (n:Int)-1-(k:Int)=((n-1-k:Nat):Int) from by omega]
  refine zg (zc (zF (zy (zc (zf (zI (zf (ze (zd 2 [(12,(vI (n-1-k))),(11,(.func (.yield lp) #[] #[]))] ?_)))))))))
  refine zb (zj (some 13) (Instr.loadAt 40 (vP bb 0)) (.slice a n c) (zo (hBa.cell rfl)) ?_)
  refine zd 1 [(14,(vI (n-1-k)))] ?_
  obtain ⟨b1,o1,rfl⟩:=hEc.addr (by omega)
  refine zb (zj (some 15) (Instr.indexAt 40 (.slice (pA b1 o1) n c) (vI (n-1-k))) (vP b1 (o1+(n-1-k)*1)) (zap (E:=3) (sz:=1) (by omega)) ?_)
  refine zb (zj (some 16) (Instr.loadAt 3 (vP b1 (o1+(n-1-k)*1))) (vI (gt l (n-1-k))) (zo (hEc.celln (by omega))) ?_)
  refine zb (zjR (some 17) lp [(vI (n-1-k)),(vI (gt l (n-1-k)))] (hY k _ (by omega) hJk) ?_)
  rintro _ w2 (⟨rfl,hJw2,hCw2⟩|⟨rfl,hCw2,hXw2⟩)
  ·have hzw2:=hCw2.size
   refine zd 1 [(18,vF)] (zg (zc (zr (zy (zp (zc (ze (zd 1 [(9,(vI (n-1-k)))] (zb (zet (some 10) .i64 (IntKind.i64.wrap (((n-1-k:Nat):Int)-((1:Nat):Int))) ((n:Int)-1-((k+1:Nat):Int)) (zG (by omega) (by omega) (by omega)) ?_))))))))))
   refine zd 1 [(3,(.int .i64 ((n:Int)-1-((k+1:Nat):Int))))] (zg (zC (zS (k+1) ?_ ?_)))
   ·exact ⟨by omega,hJw2,((hBa).chg hCw2 (fun hs=>by have hu:=hU _ hs;omega)),((hEc).chg hCw2 (fun k h1 h2 hs=>by have hu:=hU _ hs;omega))⟩
   ·first | omega |(dsimp only;omega)
  ·have hzw2:=hCw2.size
   refine zd 1 [(18,vT)] (zg (zc (zF (zx (zA (zu (zu (zA (zB (.tuple #[]) ?_)))))))))
   exact .inr ⟨k,by omega,hXw2⟩
 ·replace hc8:¬(((n:Int)-1-(k:Int))≥((0:Nat):Int)):=by have:=zal hc8;omega
  obtain rfl:n=k:=by omega
  exact zg (zc (zr (zaf (zH (zH (zT (zgP (.inl hJk))))))))
theorem zq1 {lo_l hi_l:Nat} {a_l:Option Addr} {n_l c_l:Nat} {l:List Nat} (w:World) (h_l:Es (nv .i64) lo_l hi_l w a_l n_l c_l l):
  Calls Tryz.prog 63 #[(.slice a_l n_l c_l)] w (Ret fun r w'=>∃a0,r=(.func (.func 91) #[] #[(vP a0 0)])∧w.heap.size≤a0∧Blk w' a0 [(.slice a_l n_l c_l)] 40∧Ext w w'):=by
 refine zL (n:=4) (σ:= [(0,(.slice a_l n_l c_l))]) Tryz.func63 rfl ?_
 replace h_l:=h_l.now;have hle_l:=h_l.le
 refine zf (ze (zb (zt (some 1) (Instr.box 40 (.slice a_l n_l c_l)) (vP w.heap.size 0) ([(.slice a_l n_l c_l)]) 40 ?_)))
 intro w1 hBw1 hEw1
 have hzw1:=hEw1.size;have hlw1:=hBw1.lt
 refine zd 1 [(2, .nilFunc)] (zg (zc (zf (ze (zd 2 [(2,(.func (.func 91) #[] #[(vP w.heap.size 0)])),(3,(.func (.func 91) #[] #[(vP w.heap.size 0)]))] (zg (zc (zx (zB (.func (.func 91) #[] #[(vP w.heap.size 0)]) ?_)))))))))
 exact ⟨_,rfl,by omega,hBw1,hEw1⟩
end Go.Proofs.YtgdpdnokcnhgnaaGreatDoor
namespace Go.Proofs.YtgdpdnokcnhgnaaGreatDoor
open Go Go.RowKit Go.Cs
set_option maxRecDepth 100000
set_option maxHeartbeats 8000000 in
theorem zw0 (n:Nat) {lo_t hi_t:Nat} {a_t:Option Addr} {n_t c_t:Nat} {t:List Nod} (m:Nat) {lo_u hi_u:Nat} {a_u:Option Addr} {n_u c_u:Nat} {u:List Nod} (w:World) (h_t:Ms zK 274 lo_t hi_t w a_t n_t c_t t) (h_u:Ms zK 274 lo_u hi_u w a_u n_u c_u u) (hp0:1≤n) (hp1:n≤4096) (hp2:n_t=tot n) (hp3:zbJ n t=0) (hp4:1≤m) (hp5:m≤4096) (hp6:n_u=tot m) (hp7:zbJ m u=0) (hp8:n≠m) (hg0:Gl 0 [vI 45,vI 33] w) (hg1:Gl 2 (w8C za2) w) (hg2:Gl 3 (zR kA) w) (hg3:Gl 1 [.iface 199 (.agg #[.pointer (some ⟨4,99,none⟩)])] w):
  Calls Tryz.prog 36 #[(vA [(vI n),(.slice a_t n_t c_t)]),(vA [(vI m),(.slice a_u n_u c_u)])] w (Ret fun r w'=>r=(.tuple #[(.slice none 0 0),(.slice none 0 0),(vI 1)])∧Ext w w'):=by
 refine zfS (n:=94) (σ:= [(0,(vA [(vI n),(.slice a_t n_t c_t)])),(1,(vA [(vI m),(.slice a_u n_u c_u)]))]) Tryz.func36 rfl ?_
 replace h_t:=h_t.now;have hle_t:=h_t.le
 replace h_u:=h_u.now;have hle_u:=h_u.le
 have hgl0:=hg0.lt
 have hgl1:=hg1.lt
 have hgl2:=hg2.lt
 have hgl3:=hg3.lt
 have h5:=zaz n
 have hlt:=h_t.len_eq
 have hlu:=h_u.len_eq
 have hts:=zbN hp1
 have hts2:=zbN hp5
 have hle:=h_t.le
 have hle2:=h_u.le
 have hce:zd2 ((n:Nat):Int) t=0:=by rw [zeV hp0 hp1 (by omega)];exact hp3
 have hcf:zd2 ((m:Nat):Int) u=0:=by rw [zeV hp4 hp5 (by omega)];exact hp7
 refine zf (ze (zb (zt (some 2) (Instr.box 50 (vA [(vI n),(.slice a_t n_t c_t)])) (vP w.heap.size 0) ([(vI n),(.slice a_t n_t c_t)]) 50 ?_)))
 intro w1 hBw1 hEw1
 have hzw1:=hEw1.size;have hlw1:=hBw1.lt
 refine zb (zt (some 3) (Instr.box 50 (vA [(vI m),(.slice a_u n_u c_u)])) (vP w1.heap.size 0) ([(vI m),(.slice a_u n_u c_u)]) 50 ?_)
 intro w2 hBw2 hEw2
 have hzw2:=hEw2.size;have hlw2:=hBw2.lt
 refine zb (zt (some 4) (Instr.alloc 57 true (.tuple #[])) (vP w2.heap.size 0) ([(.slice none 0 0)]) 57 ?_)
 intro w3 hBw3 hEw3
 have hzw3:=hEw3.size;have hlw3:=hBw3.lt
 refine zb (zt (some 5) (Instr.alloc 57 true (.tuple #[])) (vP w3.heap.size 0) ([(.slice none 0 0)]) 57 ?_)
 intro w4 hBw4 hEw4
 have hzw4:=hEw4.size;have hlw4:=hBw4.lt
 refine zb (zt (some 6) (Instr.alloc 34 true (.tuple #[])) (vP w4.heap.size 0) ([(vI 0)]) 34 ?_)
 intro w5 hBw5 hEw5
 have hzw5:=hEw5.size;have hlw5:=hBw5.lt
 refine zg (zc (zf (ze ?_)))
 have hK1:=(((((((hBw1.ext hEw2)).ext hEw3)).ext hEw4)).ext hEw5)
 refine zb (zj (some 18) (Instr.loadAt 50 (vP w.heap.size 0)) (vA [(vI n),(.slice a_t n_t c_t)]) (zD (vs:= [(vI n),(.slice a_t n_t c_t)]) (hK1.all)) ?_)
 have hK2:=(((((((((h_t.ext hEw1)).ext hEw2)).ext hEw3)).ext hEw4)).ext hEw5)
 have hK3:=(((((((((hg0.ext hEw1)).ext hEw2)).ext hEw3)).ext hEw4)).ext hEw5)
 have hK4:=(((((((((hg1.ext hEw1)).ext hEw2)).ext hEw3)).ext hEw4)).ext hEw5)
 have hK5:=(((((((((hg2.ext hEw1)).ext hEw2)).ext hEw3)).ext hEw4)).ext hEw5)
 have hK6:=(((((((((hg3.ext hEw1)).ext hEw2)).ext hEw3)).ext hEw4)).ext hEw5)
 refine zb (zi (some 19) (zhS n _ hK2 (by omega) (by omega) (by omega) hK3 hK4 hK5 hK6) ?_)
 rintro _ w6 ⟨a1,ca1,a2,ca2,rfl,hFz1_0,hFz1_1,hEw6⟩
 have hzw6:=hEw6.size
 have hlea1:=hFz1_0.le
 have hlea2:=hFz1_1.le
 rw [show zbJ n t=0 from hp3]
 refine zd 3 [(21,(vI 0)),(20,(vA [(vI n),(.slice a1 (hgt n+1) ca1),(.slice a2 (hgt n+1) ca2)])),(17,(.tuple #[(vA [(vI n),(.slice a1 (hgt n+1) ca1),(.slice a2 (hgt n+1) ca2)]),(vI 0)]))] (zb (zt (some 7) (Instr.alloc 106 true (.tuple #[])) (vP w6.heap.size 0) ([(vI 0),(.slice none 0 0),(.slice none 0 0)]) 106 ?_))
 intro w7 hBw7 hEw7
 have hzw7:=hEw7.size;have hlw7:=hBw7.lt
 refine zb (zz 106 w6.heap.size 0 106 (vA [(vI n),(.slice a1 (hgt n+1) ca1),(.slice a2 (hgt n+1) ca2)]) ([(vI 0),(.slice none 0 0),(.slice none 0 0)]) ([(vI n),(.slice a1 (hgt n+1) ca1),(.slice a2 (hgt n+1) ca2)]) hBw7 (by kernel_rfl) (by first | decide |(simp;done)|(simp;omega)) (by simp [Value.oneCell']) ?_)
 intro w8 hBw8 hCw8
 have hzw8:=hCw8.size
 rw [zm _ _ (by kernel_rfl)] at hBw8
 have hK7:=(((((hBw5.ext hEw6)).ext hEw7)).chg hCw8 (fun hs=>by have h:_=_:=hs;omega))
 refine zb (zV 34 w4.heap.size 0 34 (vI 0) ([(vI 0)]) hK7 (by first | decide |(simp;done)|(simp;omega)) ?_)
 have hK8:=(((((hBw5.ext hEw6)).ext hEw7)).chg hCw8 (fun hs=>by have h:_=_:=hs;omega))
 intro w9 hBw9 hCw9
 have hzw9:=hCw9.size
 replace hBw9:=hBw9.set1
 refine zg (zc (zf (zf (ze (zb (zj (some 22) (Instr.loadAt 34 (vP w4.heap.size 0)) (vI 0) (zo (hBw9.cell rfl)) ?_))))))
 refine zd 1 [(23,vF)] (zg (zc (zr (zy (zc (zf (zf (ze ?_))))))))
 have hK9:=(((((((((((((hBw2.ext hEw3)).ext hEw4)).ext hEw5)).ext hEw6)).ext hEw7)).chg hCw8 (fun hs=>by have h:_=_:=hs;omega))).chg hCw9 (fun hs=>by have h:_=_:=hs;omega))
 refine zb (zj (some 25) (Instr.loadAt 50 (vP w1.heap.size 0)) (vA [(vI m),(.slice a_u n_u c_u)]) (zD (vs:= [(vI m),(.slice a_u n_u c_u)]) (hK9.all)) ?_)
 have hK10:=(((((((((((((((((h_u.ext hEw1)).ext hEw2)).ext hEw3)).ext hEw4)).ext hEw5)).ext hEw6)).ext hEw7)).chg hCw8 (fun k h1 h2 hs=>by have h:k=_:=hs;omega))).chg hCw9 (fun k h1 h2 hs=>by have h:k=_:=hs;omega))
 have hK11:=(((((((hK3.ext hEw6)).ext hEw7)).chg hCw8 (fun hs=>by have h:_=_:=hs;omega))).chg hCw9 (fun hs=>by have h:_=_:=hs;omega))
 have hK12:=(((((((hK4.ext hEw6)).ext hEw7)).chg hCw8 (fun hs=>by have h:_=_:=hs;omega))).chg hCw9 (fun hs=>by have h:_=_:=hs;omega))
 have hK13:=(((((((hK5.ext hEw6)).ext hEw7)).chg hCw8 (fun hs=>by have h:_=_:=hs;omega))).chg hCw9 (fun hs=>by have h:_=_:=hs;omega))
 have hK14:=(((((((hK6.ext hEw6)).ext hEw7)).chg hCw8 (fun hs=>by have h:_=_:=hs;omega))).chg hCw9 (fun hs=>by have h:_=_:=hs;omega))
 refine zb (zi (some 26) (zlZ ((m:Nat):Int) _ hK10 hK11 hK12 hK13 hK14) ?_)
 rintro _ w10 ⟨rfl,hEw10⟩
 have hzw10:=hEw10.size
 rw [show zd2 ((m:Nat):Int) u=0 from hcf]
 refine zd 1 [(8,(vI 0))] (zg (zc (zf (ze (zd 1 [(27,(vI 0))] (zb (zat (some 28) (((0:Nat):Int) !=((0:Nat):Int)) false (zaL (by omega)) ?_)))))))
 refine zg (zc (zr (zy (zc (zf (zf (ze (zd 1 [(30,(vP w.heap.size 0))] ?_))))))))
 have hK15:=(((((((((hK1.ext hEw6)).ext hEw7)).chg hCw8 (fun hs=>by have h:_=_:=hs;omega))).chg hCw9 (fun hs=>by have h:_=_:=hs;omega))).ext hEw10)
 refine zb (zj (some 31) (Instr.loadAt 3 (vP w.heap.size 0)) (vI n) (zo (hK15.cell rfl)) ?_)
 refine zd 1 [(32,(vP w1.heap.size 0))] (zb (zj (some 33) (Instr.loadAt 3 (vP w1.heap.size 0)) (vI m) (zo ((hK9.ext hEw10).cell rfl)) ?_))
 refine zb (zat (some 34) (((n:Nat):Int) !=((m:Nat):Int)) true (zcq (by omega)) ?_)
 refine zg (zc (zF (zf (ze ?_))))
 have hK16:=(((((((((((((hBw3.ext hEw4)).ext hEw5)).ext hEw6)).ext hEw7)).chg hCw8 (fun hs=>by have h:_=_:=hs;omega))).chg hCw9 (fun hs=>by have h:_=_:=hs;omega))).ext hEw10)
 refine zb (zV 57 w2.heap.size 0 57 (.slice none 0 0) ([(.slice none 0 0)]) hK16 (by first | decide |(simp;done)|(simp;omega)) ?_)
 have hK17:=(((((((((((((hBw3.ext hEw4)).ext hEw5)).ext hEw6)).ext hEw7)).chg hCw8 (fun hs=>by have h:_=_:=hs;omega))).chg hCw9 (fun hs=>by have h:_=_:=hs;omega))).ext hEw10)
 intro w11 hBw11 hCw11
 have hzw11:=hCw11.size
 replace hBw11:=hBw11.set1
 have hK18:=(((((((((((((hBw4.ext hEw5)).ext hEw6)).ext hEw7)).chg hCw8 (fun hs=>by have h:_=_:=hs;omega))).chg hCw9 (fun hs=>by have h:_=_:=hs;omega))).ext hEw10)).chg hCw11 (fun hs=>by have h:_=_:=hs;omega))
 refine zb (zV 57 w3.heap.size 0 57 (.slice none 0 0) ([(.slice none 0 0)]) hK18 (by first | decide |(simp;done)|(simp;omega)) ?_)
 have hK19:=(((((((((((((hBw4.ext hEw5)).ext hEw6)).ext hEw7)).chg hCw8 (fun hs=>by have h:_=_:=hs;omega))).chg hCw9 (fun hs=>by have h:_=_:=hs;omega))).ext hEw10)).chg hCw11 (fun hs=>by have h:_=_:=hs;omega))
 intro w12 hBw12 hCw12
 have hzw12:=hCw12.size
 replace hBw12:=hBw12.set1
 have hK20:=(((((hBw9.ext hEw10)).chg hCw11 (fun hs=>by have h:_=_:=hs;omega))).chg hCw12 (fun hs=>by have h:_=_:=hs;omega))
 refine zb (zV 34 w4.heap.size 0 34 (vI 1) ([(vI 0)]) hK20 (by first | decide |(simp;done)|(simp;omega)) ?_)
 have hK21:=(((((hBw9.ext hEw10)).chg hCw11 (fun hs=>by have h:_=_:=hs;omega))).chg hCw12 (fun hs=>by have h:_=_:=hs;omega))
 intro w13 hBw13 hCw13
 have hzw13:=hCw13.size
 replace hBw13:=hBw13.set1
 refine zg (zc (zx (zu (zrH (zgO (by kernel_rfl) (show zab Tryz.prog 94 _ _ (.cell 4 57) (.slice none 0 0) from ⟨⟨w2.heap.size,0,none⟩,(by kernel_rfl),zdt (T:=57) ((((((hBw11).chg hCw12 (fun hs=>by have h:_=_:=hs;omega))).chg hCw13 (fun hs=>by have h:_=_:=hs;omega))).cell rfl)⟩) (show zab Tryz.prog 94 _ _ (.cell 5 57) (.slice none 0 0) from ⟨⟨w3.heap.size,0,none⟩,(by kernel_rfl),zdt (T:=57) ((((hBw12).chg hCw13 (fun hs=>by have h:_=_:=hs;omega))).cell rfl)⟩) (show zab Tryz.prog 94 _ _ (.cell 6 34) (vI 1) from ⟨⟨w4.heap.size,0,none⟩,(by kernel_rfl),zdt (T:=34) ((hBw13).cell rfl)⟩)) ?_))))
 have hX1:Ext w w13:=(Ext.own (Ext.own (Ext.own ((Ext.own (Ext.own ((((((hEw1.trans hEw2).trans hEw3).trans hEw4).trans hEw5).trans hEw6).trans hEw7) hCw8 (by omega)) hCw9 (by omega)).trans hEw10) hCw11 (by omega)) hCw12 (by omega)) hCw13 (by omega))
 exact ⟨rfl,hX1⟩
set_option maxHeartbeats 8000000 in
theorem zw1 (n:Nat) {lo_t hi_t:Nat} {a_t:Option Addr} {n_t c_t:Nat} {t:List Nod} (m:Nat) {lo_u hi_u:Nat} {a_u:Option Addr} {n_u c_u:Nat} {u:List Nod} (w:World) (h_t:Ms zK 274 lo_t hi_t w a_t n_t c_t t) (h_u:Ms zK 274 lo_u hi_u w a_u n_u c_u u) (hp0:1≤n) (hp1:n≤4096) (hp2:n_t=tot n) (hp3:zbJ n t=0) (hp4:1≤m) (hp5:m≤4096) (hp6:n_u=tot m) (hp7:zbJ m u=0) (hp8:n=m) (hp9:¬(zN (zM (t.getD (num n (hgt n)) Nod.zero))).l=(zN (zM (u.getD (num m (hgt m)) Nod.zero))).l) (hg0:Gl 0 [vI 45,vI 33] w) (hg1:Gl 2 (w8C za2) w) (hg2:Gl 3 (zR kA) w) (hg3:Gl 1 [.iface 199 (.agg #[.pointer (some ⟨4,99,none⟩)])] w):
  Calls Tryz.prog 36 #[(vA [(vI n),(.slice a_t n_t c_t)]),(vA [(vI m),(.slice a_u n_u c_u)])] w (Ret fun r w'=>r=(.tuple #[(.slice none 0 0),(.slice none 0 0),(vI 11)])∧Ext w w'):=by
 refine zfS (n:=94) (σ:= [(0,(vA [(vI n),(.slice a_t n_t c_t)])),(1,(vA [(vI m),(.slice a_u n_u c_u)]))]) Tryz.func36 rfl ?_
 replace h_t:=h_t.now;have hle_t:=h_t.le
 replace h_u:=h_u.now;have hle_u:=h_u.le
 have hgl0:=hg0.lt
 have hgl1:=hg1.lt
 have hgl2:=hg2.lt
 have hgl3:=hg3.lt
 have h5:=zaz n
 have hlt:=h_t.len_eq
 have hlu:=h_u.len_eq
 have hts:=zbN hp1
 have hts2:=zbN hp5
 have hle:=h_t.le
 have hle2:=h_u.le
 have hce:zd2 ((n:Nat):Int) t=0:=by rw [zeV hp0 hp1 (by omega)];exact hp3
 have hcf:zd2 ((m:Nat):Int) u=0:=by rw [zeV hp4 hp5 (by omega)];exact hp7
 refine zf (ze (zb (zt (some 2) (Instr.box 50 (vA [(vI n),(.slice a_t n_t c_t)])) (vP w.heap.size 0) ([(vI n),(.slice a_t n_t c_t)]) 50 ?_)))
 intro w1 hBw1 hEw1
 have hzw1:=hEw1.size;have hlw1:=hBw1.lt
 refine zb (zt (some 3) (Instr.box 50 (vA [(vI m),(.slice a_u n_u c_u)])) (vP w1.heap.size 0) ([(vI m),(.slice a_u n_u c_u)]) 50 ?_)
 intro w2 hBw2 hEw2
 have hzw2:=hEw2.size;have hlw2:=hBw2.lt
 refine zb (zt (some 4) (Instr.alloc 57 true (.tuple #[])) (vP w2.heap.size 0) ([(.slice none 0 0)]) 57 ?_)
 intro w3 hBw3 hEw3
 have hzw3:=hEw3.size;have hlw3:=hBw3.lt
 refine zb (zt (some 5) (Instr.alloc 57 true (.tuple #[])) (vP w3.heap.size 0) ([(.slice none 0 0)]) 57 ?_)
 intro w4 hBw4 hEw4
 have hzw4:=hEw4.size;have hlw4:=hBw4.lt
 refine zb (zt (some 6) (Instr.alloc 34 true (.tuple #[])) (vP w4.heap.size 0) ([(vI 0)]) 34 ?_)
 intro w5 hBw5 hEw5
 have hzw5:=hEw5.size;have hlw5:=hBw5.lt
 refine zg (zc (zf (ze ?_)))
 have hK1:=(((((((hBw1.ext hEw2)).ext hEw3)).ext hEw4)).ext hEw5)
 refine zb (zj (some 18) (Instr.loadAt 50 (vP w.heap.size 0)) (vA [(vI n),(.slice a_t n_t c_t)]) (zD (vs:= [(vI n),(.slice a_t n_t c_t)]) (hK1.all)) ?_)
 have hK2:=(((((((((h_t.ext hEw1)).ext hEw2)).ext hEw3)).ext hEw4)).ext hEw5)
 have hK3:=(((((((((hg0.ext hEw1)).ext hEw2)).ext hEw3)).ext hEw4)).ext hEw5)
 have hK4:=(((((((((hg1.ext hEw1)).ext hEw2)).ext hEw3)).ext hEw4)).ext hEw5)
 have hK5:=(((((((((hg2.ext hEw1)).ext hEw2)).ext hEw3)).ext hEw4)).ext hEw5)
 have hK6:=(((((((((hg3.ext hEw1)).ext hEw2)).ext hEw3)).ext hEw4)).ext hEw5)
 refine zb (zi (some 19) (zhS n _ hK2 (by omega) (by omega) (by omega) hK3 hK4 hK5 hK6) ?_)
 rintro _ w6 ⟨a1,ca1,a2,ca2,rfl,hFz1_0,hFz1_1,hEw6⟩
 have hzw6:=hEw6.size
 have hlea1:=hFz1_0.le
 have hlea2:=hFz1_1.le
 rw [show zbJ n t=0 from hp3]
 refine zd 3 [(21,(vI 0)),(20,(vA [(vI n),(.slice a1 (hgt n+1) ca1),(.slice a2 (hgt n+1) ca2)])),(17,(.tuple #[(vA [(vI n),(.slice a1 (hgt n+1) ca1),(.slice a2 (hgt n+1) ca2)]),(vI 0)]))] (zb (zt (some 7) (Instr.alloc 106 true (.tuple #[])) (vP w6.heap.size 0) ([(vI 0),(.slice none 0 0),(.slice none 0 0)]) 106 ?_))
 intro w7 hBw7 hEw7
 have hzw7:=hEw7.size;have hlw7:=hBw7.lt
 refine zb (zz 106 w6.heap.size 0 106 (vA [(vI n),(.slice a1 (hgt n+1) ca1),(.slice a2 (hgt n+1) ca2)]) ([(vI 0),(.slice none 0 0),(.slice none 0 0)]) ([(vI n),(.slice a1 (hgt n+1) ca1),(.slice a2 (hgt n+1) ca2)]) hBw7 (by kernel_rfl) (by first | decide |(simp;done)|(simp;omega)) (by simp [Value.oneCell']) ?_)
 intro w8 hBw8 hCw8
 have hzw8:=hCw8.size
 rw [zm _ _ (by kernel_rfl)] at hBw8
 have hK7:=(((((hBw5.ext hEw6)).ext hEw7)).chg hCw8 (fun hs=>by have h:_=_:=hs;omega))
 refine zb (zV 34 w4.heap.size 0 34 (vI 0) ([(vI 0)]) hK7 (by first | decide |(simp;done)|(simp;omega)) ?_)
 have hK8:=(((((hBw5.ext hEw6)).ext hEw7)).chg hCw8 (fun hs=>by have h:_=_:=hs;omega))
 intro w9 hBw9 hCw9
 have hzw9:=hCw9.size
 replace hBw9:=hBw9.set1
 refine zg (zc (zf (zf (ze (zb (zj (some 22) (Instr.loadAt 34 (vP w4.heap.size 0)) (vI 0) (zo (hBw9.cell rfl)) ?_))))))
 refine zd 1 [(23,vF)] (zg (zc (zr (zy (zc (zf (zf (ze ?_))))))))
 have hK9:=(((((((((((((hBw2.ext hEw3)).ext hEw4)).ext hEw5)).ext hEw6)).ext hEw7)).chg hCw8 (fun hs=>by have h:_=_:=hs;omega))).chg hCw9 (fun hs=>by have h:_=_:=hs;omega))
 refine zb (zj (some 25) (Instr.loadAt 50 (vP w1.heap.size 0)) (vA [(vI m),(.slice a_u n_u c_u)]) (zD (vs:= [(vI m),(.slice a_u n_u c_u)]) (hK9.all)) ?_)
 have hK10:=(((((((((((((((((h_u.ext hEw1)).ext hEw2)).ext hEw3)).ext hEw4)).ext hEw5)).ext hEw6)).ext hEw7)).chg hCw8 (fun k h1 h2 hs=>by have h:k=_:=hs;omega))).chg hCw9 (fun k h1 h2 hs=>by have h:k=_:=hs;omega))
 have hK11:=(((((((hK3.ext hEw6)).ext hEw7)).chg hCw8 (fun hs=>by have h:_=_:=hs;omega))).chg hCw9 (fun hs=>by have h:_=_:=hs;omega))
 have hK12:=(((((((hK4.ext hEw6)).ext hEw7)).chg hCw8 (fun hs=>by have h:_=_:=hs;omega))).chg hCw9 (fun hs=>by have h:_=_:=hs;omega))
 have hK13:=(((((((hK5.ext hEw6)).ext hEw7)).chg hCw8 (fun hs=>by have h:_=_:=hs;omega))).chg hCw9 (fun hs=>by have h:_=_:=hs;omega))
 have hK14:=(((((((hK6.ext hEw6)).ext hEw7)).chg hCw8 (fun hs=>by have h:_=_:=hs;omega))).chg hCw9 (fun hs=>by have h:_=_:=hs;omega))
 refine zb (zi (some 26) (zlZ ((m:Nat):Int) _ hK10 hK11 hK12 hK13 hK14) ?_)
 rintro _ w10 ⟨rfl,hEw10⟩
 have hzw10:=hEw10.size
 rw [show zd2 ((m:Nat):Int) u=0 from hcf]
 refine zd 1 [(8,(vI 0))] (zg (zc (zf (ze (zd 1 [(27,(vI 0))] (zb (zat (some 28) (((0:Nat):Int) !=((0:Nat):Int)) false (zaL (by omega)) ?_)))))))
 refine zg (zc (zr (zy (zc (zf (zf (ze (zd 1 [(30,(vP w.heap.size 0))] ?_))))))))
 have hK15:=(((((((((hK1.ext hEw6)).ext hEw7)).chg hCw8 (fun hs=>by have h:_=_:=hs;omega))).chg hCw9 (fun hs=>by have h:_=_:=hs;omega))).ext hEw10)
 refine zb (zj (some 31) (Instr.loadAt 3 (vP w.heap.size 0)) (vI n) (zo (hK15.cell rfl)) ?_)
 refine zd 1 [(32,(vP w1.heap.size 0))] (zb (zj (some 33) (Instr.loadAt 3 (vP w1.heap.size 0)) (vI m) (zo ((hK9.ext hEw10).cell rfl)) ?_))
 refine zb (zat (some 34) (((n:Nat):Int) !=((m:Nat):Int)) false (zaL (by omega)) ?_)
 refine zg (zc (zr (zy (zc (zf (ze (zb (zj (some 36) (Instr.loadAt 50 (vP w.heap.size 0)) (vA [(vI n),(.slice a_t n_t c_t)]) (zD (vs:= [(vI n),(.slice a_t n_t c_t)]) (hK15.all)) ?_))))))))
 have hK16:=(((((((((hK2.ext hEw6)).ext hEw7)).chg hCw8 (fun k h1 h2 hs=>by have h:k=_:=hs;omega))).chg hCw9 (fun k h1 h2 hs=>by have h:k=_:=hs;omega))).ext hEw10)
 refine zb (zi (some 37) (zeP n _ hK16 (by omega) (by omega) (by omega) (by assumption) (hK11.ext hEw10) (hK12.ext hEw10) (hK13.ext hEw10) (hK14.ext hEw10)) ?_)
 rintro _ w11 ⟨rfl,hEw11⟩
 have hzw11:=hEw11.size
 refine zd 3 [(39,(vI 0)),(38,(vA (zw (zN (zM (t.getD (num n (hgt n)) Nod.zero)))))),(35,(.tuple #[(vA (zw (zN (zM (t.getD (num n (hgt n)) Nod.zero))))),(vI 0)]))] (zb (zt (some 9) (Instr.alloc 23 true (.tuple #[])) (vP w11.heap.size 0) (zw Dig.zero) 23 ?_))
 intro w12 hBw12 hEw12
 have hzw12:=hEw12.size;have hlw12:=hBw12.lt
 refine zb (zz 23 w11.heap.size 0 23 (vA (zw (zN (zM (t.getD (num n (hgt n)) Nod.zero))))) (zw Dig.zero) (zw (zN (zM (t.getD (num n (hgt n)) Nod.zero)))) hBw12 (by rw [zac];kernel_rfl) (by first |(simp;done)|(simp;omega)) (zaT _) ?_)
 intro w13 hBw13 hCw13
 have hzw13:=hCw13.size
 rw [zm _ _ (by simp)] at hBw13
 refine zd 1 [(10,(vI 0))] (zg (zc (zf (ze ?_))))
 have hK17:=(((((((hK9.ext hEw10)).ext hEw11)).ext hEw12)).chg hCw13 (fun hs=>by have h:_=_:=hs;omega))
 refine zb (zj (some 41) (Instr.loadAt 50 (vP w1.heap.size 0)) (vA [(vI m),(.slice a_u n_u c_u)]) (zD (vs:= [(vI m),(.slice a_u n_u c_u)]) (hK17.all)) ?_)
 have hK18:=(((((((hK10.ext hEw10)).ext hEw11)).ext hEw12)).chg hCw13 (fun k h1 h2 hs=>by have h:k=_:=hs;omega))
 have hK19:=(((((((hK11.ext hEw10)).ext hEw11)).ext hEw12)).chg hCw13 (fun hs=>by have h:_=_:=hs;omega))
 have hK20:=(((((((hK12.ext hEw10)).ext hEw11)).ext hEw12)).chg hCw13 (fun hs=>by have h:_=_:=hs;omega))
 have hK21:=(((((((hK13.ext hEw10)).ext hEw11)).ext hEw12)).chg hCw13 (fun hs=>by have h:_=_:=hs;omega))
 have hK22:=(((((((hK14.ext hEw10)).ext hEw11)).ext hEw12)).chg hCw13 (fun hs=>by have h:_=_:=hs;omega))
 refine zb (zi (some 42) (zeP m _ hK18 (by omega) (by omega) (by omega) (by assumption) hK19 hK20 hK21 hK22) ?_)
 rintro _ w14 ⟨rfl,hEw14⟩
 have hzw14:=hEw14.size
 refine zd 3 [(44,(vI 0)),(43,(vA (zw (zN (zM (u.getD (num m (hgt m)) Nod.zero)))))),(40,(.tuple #[(vA (zw (zN (zM (u.getD (num m (hgt m)) Nod.zero))))),(vI 0)]))] (zb (zt (some 11) (Instr.alloc 23 true (.tuple #[])) (vP w14.heap.size 0) (zw Dig.zero) 23 ?_))
 intro w15 hBw15 hEw15
 have hzw15:=hEw15.size;have hlw15:=hBw15.lt
 refine zb (zz 23 w14.heap.size 0 23 (vA (zw (zN (zM (u.getD (num m (hgt m)) Nod.zero))))) (zw Dig.zero) (zw (zN (zM (u.getD (num m (hgt m)) Nod.zero)))) hBw15 (by rw [zac];kernel_rfl) (by first |(simp;done)|(simp;omega)) (zaT _) ?_)
 intro w16 hBw16 hCw16
 have hzw16:=hCw16.size
 rw [zm _ _ (by simp)] at hBw16
 refine zd 1 [(12,(vI 0))] (zg (zc (zf (zf (ze ?_)))))
 have hK23:=(((((hBw13.ext hEw14)).ext hEw15)).chg hCw16 (fun hs=>by have h:_=_:=hs;omega))
 refine zb (zj (some 45) (Instr.loadAt 23 (vP w11.heap.size 0)) (vA (zw (zN (zM (t.getD (num n (hgt n)) Nod.zero))))) (zD (vs:=zw (zN (zM (t.getD (num n (hgt n)) Nod.zero)))) (hK23.all) (by rw [zac];kernel_rfl)) ?_)
 refine zb (zj (some 46) (Instr.loadAt 23 (vP w14.heap.size 0)) (vA (zw (zN (zM (u.getD (num m (hgt m)) Nod.zero))))) (zD (vs:=zw (zN (zM (u.getD (num m (hgt m)) Nod.zero)))) (hBw16.all) (by rw [zac];kernel_rfl)) ?_)
 refine zb (zj (some 47) (bo .neq 23 (.tmp 45) (.tmp 46) (vA (zw (zN (zM (t.getD (num n (hgt n)) Nod.zero))))) (vA (zw (zN (zM (u.getD (num m (hgt m)) Nod.zero)))))) vT (zav (r:=false) (T:=23) ((zbj (dd:=9998) (t:=23) (e:=5) (zN (zM (t.getD (num n (hgt n)) Nod.zero))) (zN (zM (u.getD (num m (hgt m)) Nod.zero)))).trans (congrArg (fun b=>Result.ok b _) (show ((zN (zM (t.getD (num n (hgt n)) Nod.zero))).l==(zN (zM (u.getD (num m (hgt m)) Nod.zero))).l)=false from Bool.eq_false_iff.2 (fun hh=>hp9 (beq_iff_eq.1 hh)))))) ?_)
 refine zg (zc (zF (zf (ze ?_))))
 have hK24:=(((((((((((((((((((((((((hBw3.ext hEw4)).ext hEw5)).ext hEw6)).ext hEw7)).chg hCw8 (fun hs=>by have h:_=_:=hs;omega))).chg hCw9 (fun hs=>by have h:_=_:=hs;omega))).ext hEw10)).ext hEw11)).ext hEw12)).chg hCw13 (fun hs=>by have h:_=_:=hs;omega))).ext hEw14)).ext hEw15)).chg hCw16 (fun hs=>by have h:_=_:=hs;omega))
 refine zb (zV 57 w2.heap.size 0 57 (.slice none 0 0) ([(.slice none 0 0)]) hK24 (by first | decide |(simp;done)|(simp;omega)) ?_)
 have hK25:=(((((((((((((((((((((((((hBw3.ext hEw4)).ext hEw5)).ext hEw6)).ext hEw7)).chg hCw8 (fun hs=>by have h:_=_:=hs;omega))).chg hCw9 (fun hs=>by have h:_=_:=hs;omega))).ext hEw10)).ext hEw11)).ext hEw12)).chg hCw13 (fun hs=>by have h:_=_:=hs;omega))).ext hEw14)).ext hEw15)).chg hCw16 (fun hs=>by have h:_=_:=hs;omega))
 intro w17 hBw17 hCw17
 have hzw17:=hCw17.size
 replace hBw17:=hBw17.set1
 have hK26:=(((((((((((((((((((((((((hBw4.ext hEw5)).ext hEw6)).ext hEw7)).chg hCw8 (fun hs=>by have h:_=_:=hs;omega))).chg hCw9 (fun hs=>by have h:_=_:=hs;omega))).ext hEw10)).ext hEw11)).ext hEw12)).chg hCw13 (fun hs=>by have h:_=_:=hs;omega))).ext hEw14)).ext hEw15)).chg hCw16 (fun hs=>by have h:_=_:=hs;omega))).chg hCw17 (fun hs=>by have h:_=_:=hs;omega))
 refine zb (zV 57 w3.heap.size 0 57 (.slice none 0 0) ([(.slice none 0 0)]) hK26 (by first | decide |(simp;done)|(simp;omega)) ?_)
 have hK27:=(((((((((((((((((((((((((hBw4.ext hEw5)).ext hEw6)).ext hEw7)).chg hCw8 (fun hs=>by have h:_=_:=hs;omega))).chg hCw9 (fun hs=>by have h:_=_:=hs;omega))).ext hEw10)).ext hEw11)).ext hEw12)).chg hCw13 (fun hs=>by have h:_=_:=hs;omega))).ext hEw14)).ext hEw15)).chg hCw16 (fun hs=>by have h:_=_:=hs;omega))).chg hCw17 (fun hs=>by have h:_=_:=hs;omega))
 intro w18 hBw18 hCw18
 have hzw18:=hCw18.size
 replace hBw18:=hBw18.set1
 have hK28:=(((((((((((((((((hBw9.ext hEw10)).ext hEw11)).ext hEw12)).chg hCw13 (fun hs=>by have h:_=_:=hs;omega))).ext hEw14)).ext hEw15)).chg hCw16 (fun hs=>by have h:_=_:=hs;omega))).chg hCw17 (fun hs=>by have h:_=_:=hs;omega))).chg hCw18 (fun hs=>by have h:_=_:=hs;omega))
 refine zb (zV 34 w4.heap.size 0 34 (vI 11) ([(vI 0)]) hK28 (by first | decide |(simp;done)|(simp;omega)) ?_)
 have hK29:=(((((((((((((((((hBw9.ext hEw10)).ext hEw11)).ext hEw12)).chg hCw13 (fun hs=>by have h:_=_:=hs;omega))).ext hEw14)).ext hEw15)).chg hCw16 (fun hs=>by have h:_=_:=hs;omega))).chg hCw17 (fun hs=>by have h:_=_:=hs;omega))).chg hCw18 (fun hs=>by have h:_=_:=hs;omega))
 intro w19 hBw19 hCw19
 have hzw19:=hCw19.size
 replace hBw19:=hBw19.set1
 refine zg (zc (zx (zu (zrH (zgO (by kernel_rfl) (show zab Tryz.prog 94 _ _ (.cell 4 57) (.slice none 0 0) from ⟨⟨w2.heap.size,0,none⟩,(by kernel_rfl),zdt (T:=57) ((((((hBw17).chg hCw18 (fun hs=>by have h:_=_:=hs;omega))).chg hCw19 (fun hs=>by have h:_=_:=hs;omega))).cell rfl)⟩) (show zab Tryz.prog 94 _ _ (.cell 5 57) (.slice none 0 0) from ⟨⟨w3.heap.size,0,none⟩,(by kernel_rfl),zdt (T:=57) ((((hBw18).chg hCw19 (fun hs=>by have h:_=_:=hs;omega))).cell rfl)⟩) (show zab Tryz.prog 94 _ _ (.cell 6 34) (vI 11) from ⟨⟨w4.heap.size,0,none⟩,(by kernel_rfl),zdt (T:=34) ((hBw19).cell rfl)⟩)) ?_))))
 have hX1:Ext w w19:=(Ext.own (Ext.own (Ext.own (Ext.own (((Ext.own ((((Ext.own (Ext.own ((((((hEw1.trans hEw2).trans hEw3).trans hEw4).trans hEw5).trans hEw6).trans hEw7) hCw8 (by omega)) hCw9 (by omega)).trans hEw10).trans hEw11).trans hEw12) hCw13 (by omega)).trans hEw14).trans hEw15) hCw16 (by omega)) hCw17 (by omega)) hCw18 (by omega)) hCw19 (by omega))
 exact ⟨rfl,hX1⟩
set_option maxHeartbeats 8000000 in
theorem zqz (n:Nat) {lo_t hi_t:Nat} {a_t:Option Addr} {n_t c_t:Nat} {t:List Nod} (m:Nat) {lo_u hi_u:Nat} {a_u:Option Addr} {n_u c_u:Nat} {u:List Nod} (w:World) (h_t:Ms zK 274 lo_t hi_t w a_t n_t c_t t) (h_u:Ms zK 274 lo_u hi_u w a_u n_u c_u u) (hp0:1≤n) (hp1:n≤4096) (hp2:n_t=tot n) (hp3:zbJ n t=0) (hp4:1≤m) (hp5:m≤4096) (hp6:n_u=tot m) (hp7:zbJ m u=0) (hp8:n=m) (hp9:t=u) (hg0:Gl 0 [vI 45,vI 33] w) (hg1:Gl 2 (w8C za2) w) (hg2:Gl 3 (zR kA) w) (hg3:Gl 1 [.iface 199 (.agg #[.pointer (some ⟨4,99,none⟩)])] w):
  Calls Tryz.prog 36 #[(vA [(vI n),(.slice a_t n_t c_t)]),(vA [(vI m),(.slice a_u n_u c_u)])] w (Ret fun r w'=>r=(.tuple #[(.slice none 0 0),(.slice none 0 0),(vI 11)])∧Ext w w'):=by
 refine zfS (n:=94) (σ:= [(0,(vA [(vI n),(.slice a_t n_t c_t)])),(1,(vA [(vI m),(.slice a_u n_u c_u)]))]) Tryz.func36 rfl ?_
 replace h_t:=h_t.now;have hle_t:=h_t.le
 replace h_u:=h_u.now;have hle_u:=h_u.le
 have hgl0:=hg0.lt
 have hgl1:=hg1.lt
 have hgl2:=hg2.lt
 have hgl3:=hg3.lt
 have h5:=zaz n
 have hlt:=h_t.len_eq
 have hlu:=h_u.len_eq
 have hts:=zbN hp1
 have hts2:=zbN hp5
 have hle:=h_t.le
 have hle2:=h_u.le
 have hce:zd2 ((n:Nat):Int) t=0:=by rw [zeV hp0 hp1 (by omega)];exact hp3
 have hcf:zd2 ((m:Nat):Int) u=0:=by rw [zeV hp4 hp5 (by omega)];exact hp7
 have htm:tot m=tot n:=by rw [hp8]
 refine zf (ze (zb (zt (some 2) (Instr.box 50 (vA [(vI n),(.slice a_t n_t c_t)])) (vP w.heap.size 0) ([(vI n),(.slice a_t n_t c_t)]) 50 ?_)))
 intro w1 hBw1 hEw1
 have hzw1:=hEw1.size;have hlw1:=hBw1.lt
 refine zb (zt (some 3) (Instr.box 50 (vA [(vI m),(.slice a_u n_u c_u)])) (vP w1.heap.size 0) ([(vI m),(.slice a_u n_u c_u)]) 50 ?_)
 intro w2 hBw2 hEw2
 have hzw2:=hEw2.size;have hlw2:=hBw2.lt
 refine zb (zt (some 4) (Instr.alloc 57 true (.tuple #[])) (vP w2.heap.size 0) ([(.slice none 0 0)]) 57 ?_)
 intro w3 hBw3 hEw3
 have hzw3:=hEw3.size;have hlw3:=hBw3.lt
 refine zb (zt (some 5) (Instr.alloc 57 true (.tuple #[])) (vP w3.heap.size 0) ([(.slice none 0 0)]) 57 ?_)
 intro w4 hBw4 hEw4
 have hzw4:=hEw4.size;have hlw4:=hBw4.lt
 refine zb (zt (some 6) (Instr.alloc 34 true (.tuple #[])) (vP w4.heap.size 0) ([(vI 0)]) 34 ?_)
 intro w5 hBw5 hEw5
 have hzw5:=hEw5.size;have hlw5:=hBw5.lt
 refine zg (zc (zf (ze ?_)))
 have hK1:=(((((((hBw1.ext hEw2)).ext hEw3)).ext hEw4)).ext hEw5)
 refine zb (zj (some 18) (Instr.loadAt 50 (vP w.heap.size 0)) (vA [(vI n),(.slice a_t n_t c_t)]) (zD (vs:= [(vI n),(.slice a_t n_t c_t)]) (hK1.all)) ?_)
 have hK2:=(((((((((h_t.ext hEw1)).ext hEw2)).ext hEw3)).ext hEw4)).ext hEw5)
 have hK3:=(((((((((hg0.ext hEw1)).ext hEw2)).ext hEw3)).ext hEw4)).ext hEw5)
 have hK4:=(((((((((hg1.ext hEw1)).ext hEw2)).ext hEw3)).ext hEw4)).ext hEw5)
 have hK5:=(((((((((hg2.ext hEw1)).ext hEw2)).ext hEw3)).ext hEw4)).ext hEw5)
 have hK6:=(((((((((hg3.ext hEw1)).ext hEw2)).ext hEw3)).ext hEw4)).ext hEw5)
 refine zb (zi (some 19) (zhS n _ hK2 (by omega) (by omega) (by omega) hK3 hK4 hK5 hK6) ?_)
 rintro _ w6 ⟨a1,ca1,a2,ca2,rfl,hFz1_0,hFz1_1,hEw6⟩
 have hzw6:=hEw6.size
 have hlea1:=hFz1_0.le
 have hlea2:=hFz1_1.le
 rw [show zbJ n t=0 from hp3]
 refine zd 3 [(21,(vI 0)),(20,(vA [(vI n),(.slice a1 (hgt n+1) ca1),(.slice a2 (hgt n+1) ca2)])),(17,(.tuple #[(vA [(vI n),(.slice a1 (hgt n+1) ca1),(.slice a2 (hgt n+1) ca2)]),(vI 0)]))] (zb (zt (some 7) (Instr.alloc 106 true (.tuple #[])) (vP w6.heap.size 0) ([(vI 0),(.slice none 0 0),(.slice none 0 0)]) 106 ?_))
 intro w7 hBw7 hEw7
 have hzw7:=hEw7.size;have hlw7:=hBw7.lt
 refine zb (zz 106 w6.heap.size 0 106 (vA [(vI n),(.slice a1 (hgt n+1) ca1),(.slice a2 (hgt n+1) ca2)]) ([(vI 0),(.slice none 0 0),(.slice none 0 0)]) ([(vI n),(.slice a1 (hgt n+1) ca1),(.slice a2 (hgt n+1) ca2)]) hBw7 (by kernel_rfl) (by first | decide |(simp;done)|(simp;omega)) (by simp [Value.oneCell']) ?_)
 intro w8 hBw8 hCw8
 have hzw8:=hCw8.size
 rw [zm _ _ (by kernel_rfl)] at hBw8
 have hK7:=(((((hBw5.ext hEw6)).ext hEw7)).chg hCw8 (fun hs=>by have h:_=_:=hs;omega))
 refine zb (zV 34 w4.heap.size 0 34 (vI 0) ([(vI 0)]) hK7 (by first | decide |(simp;done)|(simp;omega)) ?_)
 have hK8:=(((((hBw5.ext hEw6)).ext hEw7)).chg hCw8 (fun hs=>by have h:_=_:=hs;omega))
 intro w9 hBw9 hCw9
 have hzw9:=hCw9.size
 replace hBw9:=hBw9.set1
 refine zg (zc (zf (zf (ze (zb (zj (some 22) (Instr.loadAt 34 (vP w4.heap.size 0)) (vI 0) (zo (hBw9.cell rfl)) ?_))))))
 refine zd 1 [(23,vF)] (zg (zc (zr (zy (zc (zf (zf (ze ?_))))))))
 have hK9:=(((((((((((((hBw2.ext hEw3)).ext hEw4)).ext hEw5)).ext hEw6)).ext hEw7)).chg hCw8 (fun hs=>by have h:_=_:=hs;omega))).chg hCw9 (fun hs=>by have h:_=_:=hs;omega))
 refine zb (zj (some 25) (Instr.loadAt 50 (vP w1.heap.size 0)) (vA [(vI m),(.slice a_u n_u c_u)]) (zD (vs:= [(vI m),(.slice a_u n_u c_u)]) (hK9.all)) ?_)
 have hK10:=(((((((((((((((((h_u.ext hEw1)).ext hEw2)).ext hEw3)).ext hEw4)).ext hEw5)).ext hEw6)).ext hEw7)).chg hCw8 (fun k h1 h2 hs=>by have h:k=_:=hs;omega))).chg hCw9 (fun k h1 h2 hs=>by have h:k=_:=hs;omega))
 have hK11:=(((((((hK3.ext hEw6)).ext hEw7)).chg hCw8 (fun hs=>by have h:_=_:=hs;omega))).chg hCw9 (fun hs=>by have h:_=_:=hs;omega))
 have hK12:=(((((((hK4.ext hEw6)).ext hEw7)).chg hCw8 (fun hs=>by have h:_=_:=hs;omega))).chg hCw9 (fun hs=>by have h:_=_:=hs;omega))
 have hK13:=(((((((hK5.ext hEw6)).ext hEw7)).chg hCw8 (fun hs=>by have h:_=_:=hs;omega))).chg hCw9 (fun hs=>by have h:_=_:=hs;omega))
 have hK14:=(((((((hK6.ext hEw6)).ext hEw7)).chg hCw8 (fun hs=>by have h:_=_:=hs;omega))).chg hCw9 (fun hs=>by have h:_=_:=hs;omega))
 refine zb (zi (some 26) (zlZ ((m:Nat):Int) _ hK10 hK11 hK12 hK13 hK14) ?_)
 rintro _ w10 ⟨rfl,hEw10⟩
 have hzw10:=hEw10.size
 rw [show zd2 ((m:Nat):Int) u=0 from hcf]
 refine zd 1 [(8,(vI 0))] (zg (zc (zf (ze (zd 1 [(27,(vI 0))] (zb (zat (some 28) (((0:Nat):Int) !=((0:Nat):Int)) false (zaL (by omega)) ?_)))))))
 refine zg (zc (zr (zy (zc (zf (zf (ze (zd 1 [(30,(vP w.heap.size 0))] ?_))))))))
 have hK15:=(((((((((hK1.ext hEw6)).ext hEw7)).chg hCw8 (fun hs=>by have h:_=_:=hs;omega))).chg hCw9 (fun hs=>by have h:_=_:=hs;omega))).ext hEw10)
 refine zb (zj (some 31) (Instr.loadAt 3 (vP w.heap.size 0)) (vI n) (zo (hK15.cell rfl)) ?_)
 refine zd 1 [(32,(vP w1.heap.size 0))] (zb (zj (some 33) (Instr.loadAt 3 (vP w1.heap.size 0)) (vI m) (zo ((hK9.ext hEw10).cell rfl)) ?_))
 refine zb (zat (some 34) (((n:Nat):Int) !=((m:Nat):Int)) false (zaL (by omega)) ?_)
 refine zg (zc (zr (zy (zc (zf (ze (zb (zj (some 36) (Instr.loadAt 50 (vP w.heap.size 0)) (vA [(vI n),(.slice a_t n_t c_t)]) (zD (vs:= [(vI n),(.slice a_t n_t c_t)]) (hK15.all)) ?_))))))))
 have hK16:=(((((((((hK2.ext hEw6)).ext hEw7)).chg hCw8 (fun k h1 h2 hs=>by have h:k=_:=hs;omega))).chg hCw9 (fun k h1 h2 hs=>by have h:k=_:=hs;omega))).ext hEw10)
 refine zb (zi (some 37) (zeP n _ hK16 (by omega) (by omega) (by omega) (by assumption) (hK11.ext hEw10) (hK12.ext hEw10) (hK13.ext hEw10) (hK14.ext hEw10)) ?_)
 rintro _ w11 ⟨rfl,hEw11⟩
 have hzw11:=hEw11.size
 refine zd 3 [(39,(vI 0)),(38,(vA (zw (zN (zM (t.getD (num n (hgt n)) Nod.zero)))))),(35,(.tuple #[(vA (zw (zN (zM (t.getD (num n (hgt n)) Nod.zero))))),(vI 0)]))] (zb (zt (some 9) (Instr.alloc 23 true (.tuple #[])) (vP w11.heap.size 0) (zw Dig.zero) 23 ?_))
 intro w12 hBw12 hEw12
 have hzw12:=hEw12.size;have hlw12:=hBw12.lt
 refine zb (zz 23 w11.heap.size 0 23 (vA (zw (zN (zM (t.getD (num n (hgt n)) Nod.zero))))) (zw Dig.zero) (zw (zN (zM (t.getD (num n (hgt n)) Nod.zero)))) hBw12 (by rw [zac];kernel_rfl) (by first |(simp;done)|(simp;omega)) (zaT _) ?_)
 intro w13 hBw13 hCw13
 have hzw13:=hCw13.size
 rw [zm _ _ (by simp)] at hBw13
 refine zd 1 [(10,(vI 0))] (zg (zc (zf (ze ?_))))
 have hK17:=(((((((hK9.ext hEw10)).ext hEw11)).ext hEw12)).chg hCw13 (fun hs=>by have h:_=_:=hs;omega))
 refine zb (zj (some 41) (Instr.loadAt 50 (vP w1.heap.size 0)) (vA [(vI m),(.slice a_u n_u c_u)]) (zD (vs:= [(vI m),(.slice a_u n_u c_u)]) (hK17.all)) ?_)
 have hK18:=(((((((hK10.ext hEw10)).ext hEw11)).ext hEw12)).chg hCw13 (fun k h1 h2 hs=>by have h:k=_:=hs;omega))
 have hK19:=(((((((hK11.ext hEw10)).ext hEw11)).ext hEw12)).chg hCw13 (fun hs=>by have h:_=_:=hs;omega))
 have hK20:=(((((((hK12.ext hEw10)).ext hEw11)).ext hEw12)).chg hCw13 (fun hs=>by have h:_=_:=hs;omega))
 have hK21:=(((((((hK13.ext hEw10)).ext hEw11)).ext hEw12)).chg hCw13 (fun hs=>by have h:_=_:=hs;omega))
 have hK22:=(((((((hK14.ext hEw10)).ext hEw11)).ext hEw12)).chg hCw13 (fun hs=>by have h:_=_:=hs;omega))
 refine zb (zi (some 42) (zeP m _ hK18 (by omega) (by omega) (by omega) (by assumption) hK19 hK20 hK21 hK22) ?_)
 rintro _ w14 ⟨rfl,hEw14⟩
 have hzw14:=hEw14.size
 refine zd 3 [(44,(vI 0)),(43,(vA (zw (zN (zM (u.getD (num m (hgt m)) Nod.zero)))))),(40,(.tuple #[(vA (zw (zN (zM (u.getD (num m (hgt m)) Nod.zero))))),(vI 0)]))] (zb (zt (some 11) (Instr.alloc 23 true (.tuple #[])) (vP w14.heap.size 0) (zw Dig.zero) 23 ?_))
 intro w15 hBw15 hEw15
 have hzw15:=hEw15.size;have hlw15:=hBw15.lt
 refine zb (zz 23 w14.heap.size 0 23 (vA (zw (zN (zM (u.getD (num m (hgt m)) Nod.zero))))) (zw Dig.zero) (zw (zN (zM (u.getD (num m (hgt m)) Nod.zero)))) hBw15 (by rw [zac];kernel_rfl) (by first |(simp;done)|(simp;omega)) (zaT _) ?_)
 intro w16 hBw16 hCw16
 have hzw16:=hCw16.size
 rw [zm _ _ (by simp)] at hBw16
 refine zd 1 [(12,(vI 0))] (zg (zc (zf (zf (ze ?_)))))
 have hK23:=(((((hBw13.ext hEw14)).ext hEw15)).chg hCw16 (fun hs=>by have h:_=_:=hs;omega))
 refine zb (zj (some 45) (Instr.loadAt 23 (vP w11.heap.size 0)) (vA (zw (zN (zM (t.getD (num n (hgt n)) Nod.zero))))) (zD (vs:=zw (zN (zM (t.getD (num n (hgt n)) Nod.zero)))) (hK23.all) (by rw [zac];kernel_rfl)) ?_)
 refine zb (zj (some 46) (Instr.loadAt 23 (vP w14.heap.size 0)) (vA (zw (zN (zM (u.getD (num m (hgt m)) Nod.zero))))) (zD (vs:=zw (zN (zM (u.getD (num m (hgt m)) Nod.zero)))) (hBw16.all) (by rw [zac];kernel_rfl)) ?_)
 refine zb (zj (some 47) (bo .neq 23 (.tmp 45) (.tmp 46) (vA (zw (zN (zM (t.getD (num n (hgt n)) Nod.zero))))) (vA (zw (zN (zM (u.getD (num m (hgt m)) Nod.zero)))))) vF (zav (r:=true) (T:=23) ((zbj (dd:=9998) (t:=23) (e:=5) (zN (zM (t.getD (num n (hgt n)) Nod.zero))) (zN (zM (u.getD (num m (hgt m)) Nod.zero)))).trans (congrArg (fun b=>Result.ok b _) (show ((zN (zM (t.getD (num n (hgt n)) Nod.zero))).l==(zN (zM (u.getD (num m (hgt m)) Nod.zero))).l)=true from beq_iff_eq.2 (by rw [hp8,hp9]))))) ?_)
 refine zg (zc (zr (zy (zc (zf (zf (ze (zd 1 [(48,(vP w6.heap.size 1))] ?_))))))))
 have hK24:=((((((((((((((((hBw8).chg hCw9 (fun hs=>by have h:_=_:=hs;omega))).ext hEw10)).ext hEw11)).ext hEw12)).chg hCw13 (fun hs=>by have h:_=_:=hs;omega))).ext hEw14)).ext hEw15)).chg hCw16 (fun hs=>by have h:_=_:=hs;omega))
 refine zb (zj (some 49) (Instr.loadAt 40 (vP w6.heap.size 1)) (.slice a1 (hgt n+1) ca1) (zo (hK24.cell rfl)) ?_)
 have hK25:=(((((((((((((((((((hFz1_0.ext hEw7)).chg hCw8 (fun k h1 h2 hs=>by have h:k=_:=hs;omega))).chg hCw9 (fun k h1 h2 hs=>by have h:k=_:=hs;omega))).ext hEw10)).ext hEw11)).ext hEw12)).chg hCw13 (fun k h1 h2 hs=>by have h:k=_:=hs;omega))).ext hEw14)).ext hEw15)).chg hCw16 (fun k h1 h2 hs=>by have h:k=_:=hs;omega))
 refine zb (zi (some 50) (zq1 _ hK25) ?_)
 rintro _ w17 ⟨a3,rfl,hFz5_0,hFz5_1,hEw17⟩
 have hzw17:=hEw17.size
 have hla3:=hFz5_1.lt
 refine zg (zc (zI ?_))
 have hK26:=(((((((((((((hK15.ext hEw11)).ext hEw12)).chg hCw13 (fun hs=>by have h:_=_:=hs;omega))).ext hEw14)).ext hEw15)).chg hCw16 (fun hs=>by have h:_=_:=hs;omega))).ext hEw17)
 have hK27:=(((((((hK17.ext hEw14)).ext hEw15)).chg hCw16 (fun hs=>by have h:_=_:=hs;omega))).ext hEw17)
 have hK28:=(((((((((((((((((((((((((((hBw3.ext hEw4)).ext hEw5)).ext hEw6)).ext hEw7)).chg hCw8 (fun hs=>by have h:_=_:=hs;omega))).chg hCw9 (fun hs=>by have h:_=_:=hs;omega))).ext hEw10)).ext hEw11)).ext hEw12)).chg hCw13 (fun hs=>by have h:_=_:=hs;omega))).ext hEw14)).ext hEw15)).chg hCw16 (fun hs=>by have h:_=_:=hs;omega))).ext hEw17)
 have hK29:=(((((((((((((((((((((((((hBw4.ext hEw5)).ext hEw6)).ext hEw7)).chg hCw8 (fun hs=>by have h:_=_:=hs;omega))).chg hCw9 (fun hs=>by have h:_=_:=hs;omega))).ext hEw10)).ext hEw11)).ext hEw12)).chg hCw13 (fun hs=>by have h:_=_:=hs;omega))).ext hEw14)).ext hEw15)).chg hCw16 (fun hs=>by have h:_=_:=hs;omega))).ext hEw17)
 have hK30:=(((((((((((((((hBw9.ext hEw10)).ext hEw11)).ext hEw12)).chg hCw13 (fun hs=>by have h:_=_:=hs;omega))).ext hEw14)).ext hEw15)).chg hCw16 (fun hs=>by have h:_=_:=hs;omega))).ext hEw17)
 have hK31:=(((((((((((((((((((((hFz1_1.ext hEw7)).chg hCw8 (fun k h1 h2 hs=>by have h:k=_:=hs;omega))).chg hCw9 (fun k h1 h2 hs=>by have h:k=_:=hs;omega))).ext hEw10)).ext hEw11)).ext hEw12)).chg hCw13 (fun k h1 h2 hs=>by have h:k=_:=hs;omega))).ext hEw14)).ext hEw15)).chg hCw16 (fun k h1 h2 hs=>by have h:k=_:=hs;omega))).ext hEw17)
 have hX1:Ext w w17:=((Ext.own (((Ext.own ((((Ext.own (Ext.own ((((((hEw1.trans hEw2).trans hEw3).trans hEw4).trans hEw5).trans hEw6).trans hEw7) hCw8 (by omega)) hCw9 (by omega)).trans hEw10).trans hEw11).trans hEw12) hCw13 (by omega)).trans hEw14).trans hEw15) hCw16 (by omega)).trans hEw17)
 refine zit [51,52] 91 [(vP a3 0)] (hgt n+1) (fun k=> [(vI (hgt n-k)),(vI (cnt n (hgt n-k)))]) (fun b=>b=w2.heap.size∨b=w3.heap.size∨b=w4.heap.size) (fun b=>False) (fun k w'=>Blk w' w.heap.size ([(vI n),(.slice a_t n_t c_t)]) 50∧Blk w' w1.heap.size ([(vI m),(.slice a_u n_u c_u)]) 50∧Blk w' w6.heap.size ([(vI n),(.slice a1 (hgt n+1) ca1),(.slice a2 (hgt n+1) ca2)]) 106∧Blk w' w2.heap.size ([(.slice none 0 0)]) 57∧Blk w' w3.heap.size ([(.slice none 0 0)]) 57∧Blk w' w4.heap.size ([(vI 0)]) 34∧Es (nv .i64) w5.heap.size w6.heap.size w' a1 (hgt n+1) ca1 (za7 n (hgt n+1))∧Es (nv .i64) w5.heap.size w6.heap.size w' a2 (hgt n+1) ca2 (zcy n (hgt n+1))∧Ext w w') (fun cc k w'=>False) (fun b hb=>hb.elim) (fun _=>rfl) (fun k W W' ⟨h1,h2,h3,h4,h5,h6,hs1,hs2,h8⟩ hb=>⟨h1.book hb,h2.book hb,h3.book hb,h4.book hb,h5.book hb,h6.book hb,hs1.book hb,hs2.book hb,h8.book hb (by omega)⟩) (fun _ _ _ _ h _=>h) (fun k W W' ⟨h1,h2,h3,h4,h5,h6,hs1,hs2,h8⟩ hc=>⟨h1.ext hc,h2.ext hc,h3.ext hc,h4.ext hc,h5.ext hc,h6.ext hc,hs1.ext hc,hs2.ext hc,h8.trans hc⟩) (⟨hK26,hK27,(hK24.ext hEw17),hK28,hK29,hK30,(hK25.ext hEw17),hK31,hX1⟩) (fun lp J Jx wj hE1 hJ hY h0=>zqL (l:=za7 n (hgt n+1)) w17.heap.size lp (fun b=>b=w2.heap.size∨b=w3.heap.size∨b=w4.heap.size) J Jx wj (hFz5_1.ext hE1) ((hK25.ext hEw17).ext hE1) (fun b hb=>by omega) hJ (fun k W hk hj=>by rw [show hgt n+1-1-k=hgt n-k from by omega,show gt (za7 n (hgt n+1)) (hgt n-k)=cnt n (hgt n-k) from zeC (by omega)];exact hY k W hk hj) h0) ?_ ?_ ?_
 ·rintro lR k w18 hl ⟨hK2,hK3,hK7,hK4,hK5,hK6,hs1,hs2,hEw⟩ hk
  have hK2l:=hK2.lt
  have hK3l:=hK3.lt
  have hK7l:=hK7.lt
  have hK4l:=hK4.lt
  have hK5l:=hK5.lt
  have hK6l:=hK6.lt
  have hzr:=hEw.size
  refine zf (ze (zd 1 [(13,(vI (hgt n-k)))] (zg (zc (ze (zd 1 [(14,(vI (cnt n (hgt n-k))))] (zg (zmA (Kpt.refl _) (Chg.refl _ _) (fun w19 hBkw19=> ?_)))))))))
  have hzw19:=hBkw19.size
  refine zI (zf (ze (zd 2 [(54,(vI 0)),(53,(vI (cnt n (hgt n-k))))] (zg (zc (zI (zah (X:=Nat) (fun j=> [(54,(vI j))]) [15,16,55,56,57,58,59,60,61,62,63,64,65,66,67,68,69,70,71,72,73,74,75,76,77,78,79,80,81,82,83,84,85,86,87,88,89,90,91,92,93] (fun j w20=>j≤cnt n (hgt n-k)∧Ext w19 w20) (fun j=>cnt n (hgt n-k)-j) 0 (by kernel_rfl) ⟨Nat.zero_le _,Ext.refl _⟩ ?_)))))))
  rintro j dw20 w20 ⟨hj,hEj⟩
  have hzj:=hEj.size
  refine zf (ze (zb (zO (some 55) (decide (((j:Nat):Int)<((cnt n (hgt n-k):Nat):Int))) (fun hc55=> ?_) (fun hc55=> ?_))))
  ·replace hc55:j<cnt n (hgt n-k):=by have:=zak hc55;omega
   have hjc:j<cnt n (hgt n-k):=by omega
   have hpl:=zbe (n:=n) (l:=hgt n-k) (j:=j) (by omega) hjc
   refine zg (zc (zf (zF (zy (zc (zf (zI (zf (ze ?_)))))))))
   refine zd 2 [(15,(vI j)),(56,(vI j))] (zg (zc (zf (ze (zb (zj (some 57) (Instr.loadAt 106 (vP w6.heap.size 0)) (vA [(vI n),(.slice a1 (hgt n+1) ca1),(.slice a2 (hgt n+1) ca2)]) (zD (vs:= [(vI n),(.slice a1 (hgt n+1) ca1),(.slice a2 (hgt n+1) ca2)]) (((((hK7).book hBkw19)).ext hEj).all)) ?_))))))
   refine zd 2 [(59,(vI j)),(58,(vI (hgt n-k)))] (zb (zi (some 60) (zcs n (hgt n-k) j _ ((((hs1).book hBkw19)).ext hEj) ((((hs2).book hBkw19)).ext hEj) (by first | rfl | assumption) (by first | rfl | assumption) (by omega) (by omega) (by omega) (by omega)) ?_))
   rintro _ w21 ⟨rfl,hEw21⟩
   have hzw21:=hEw21.size
   refine zd 1 [(16,(vI (num n (hgt n-k)+j)))] (zg (zc (zf (zag (Ext w21.drew) 11 [(62,4,0),(63,2305843009213693952,1),(64,65536,0),(65,13835058055282163712,6),(66,18446744073709551616,8),(67,8,0),(68,73786976294838206464,32),(69,65536,0),(70,442721857769029238784,192),(71,590295810358705651712,256),(72,1217485108864830406656,528)] (fun hT494=> ?_)))))
   have hEw22:Ext w21 w21.drew:=Ext.drew w21
   generalize w21.drew=w22 at hEw22⊢
   have hzw22:=hEw22.size
   refine zk hT494 [(0,61,(vP w.heap.size 1))] 1 1 ?_
   have hK32:=((((((((hK2).book hBkw19)).ext hEj)).ext hEw21)).ext hEw22)
   refine zh hT494 1 3 (some 62) (.slice a_t n_t c_t) (zl (Instr.loadAt 24 (vP w.heap.size 1)) (fun w' hC=>zo ((hK32.ext hC).cell rfl))) (zk hT494 [(2,63,(vI (num n (hgt n-k)+j)))] 1 7 ?_)
   obtain ⟨b1,o1,rfl⟩:=h_t.addr (by omega) (by decide)
   refine zh hT494 3 15 (some 64) (vP b1 (o1+(num n (hgt n-k)+j)*274)) (zl (Instr.indexAt 24 (.slice (pA b1 o1) n_t c_t) (vI (num n (hgt n-k)+j))) (fun w' hC=>zap (E:=47) (sz:=274) (by omega))) ?_
   have hK33:=(((((((((h_t.ext hEw)).book hBkw19)).ext hEj)).ext hEw21)).ext hEw22)
   refine zh hT494 4 31 (some 65) (vA (zK (t.getD (num n (hgt n-k)+j) Nod.zero))) (zl (Instr.loadAt 47 (vP b1 (o1+(num n (hgt n-k)+j)*274))) (fun w' hC=>zD (vs:=zK (t.getD (num n (hgt n-k)+j) Nod.zero)) ((hK33.ext hC).at Nod.zero (by omega)) (by rw [zW];kernel_rfl))) (zk hT494 [(5,66,(vP w1.heap.size 1))] 1 63 ?_)
   have hK34:=((((((((hK3).book hBkw19)).ext hEj)).ext hEw21)).ext hEw22)
   refine zh hT494 6 127 (some 67) (.slice a_u n_u c_u) (zl (Instr.loadAt 24 (vP w1.heap.size 1)) (fun w' hC=>zo ((hK34.ext hC).cell rfl))) (zk hT494 [(7,68,(vI (num n (hgt n-k)+j)))] 1 255 ?_)
   obtain ⟨b2,o2,rfl⟩:=h_u.addr (by omega) (by decide)
   refine zh hT494 8 511 (some 69) (vP b2 (o2+(num n (hgt n-k)+j)*274)) (zl (Instr.indexAt 24 (.slice (pA b2 o2) n_u c_u) (vI (num n (hgt n-k)+j))) (fun w' hC=>zap (E:=47) (sz:=274) (by omega))) ?_
   have hK35:=(((((((((h_u.ext hEw)).book hBkw19)).ext hEj)).ext hEw21)).ext hEw22)
   refine zh hT494 9 1023 (some 70) (vA (zK (u.getD (num n (hgt n-k)+j) Nod.zero))) (zl (Instr.loadAt 47 (vP b2 (o2+(num n (hgt n-k)+j)*274))) (fun w' hC=>zD (vs:=zK (u.getD (num n (hgt n-k)+j) Nod.zero)) ((hK35.ext hC).at Nod.zero (by omega)) (by rw [zW];kernel_rfl))) (zh hT494 10 2047 (some 71) vF (zl (bo .neq 47 (.tmp 65) (.tmp 70) (vA (zK (t.getD (num n (hgt n-k)+j) Nod.zero))) (vA (zK (u.getD (num n (hgt n-k)+j) Nod.zero)))) (fun w' hC=>zav (r:=true) (T:=47) ((zhl (dd:=9995) (N:=47) (R:=42) (E:=45) (r:=33) (en:=44) (t8:=5) (td:=23) (e:=5) (tn:=31) (t32:=28) (t64:=29) (t.getD (num n (hgt n-k)+j) Nod.zero) (u.getD (num n (hgt n-k)+j) Nod.zero)).trans (congrArg (fun b=>Result.ok b _) (show ((t.getD (num n (hgt n-k)+j) Nod.zero).eqb (u.getD (num n (hgt n-k)+j) Nod.zero))=true from (Nod.eqb_iff _ _).2 (by rw [hp9])))))) (zJ (zc (zr (zy (zp (zc (ze (zb (zv (some 93) .i64 (IntKind.i64.wrap (((j:Nat):Int)+((1:Nat):Int))) (j+1) (zG (by omega) (by omega) (by omega)) ?_))))))))))
   refine zd 1 [(54,(vI (j+1)))] (zg (zC (zS (j+1) ?_ ?_)))
   ·exact ⟨by omega,((hEj.trans hEw21).trans hEw22)⟩
   ·first | omega |(dsimp only;omega)
  ·replace hc55:¬(j<cnt n (hgt n-k)):=by have:=zal hc55;omega
   exact zg (zc (zf (zr (zaf (zH (zH (zT (zp (zfY ((Kpt.refl _).ext hEj) ((Chg.refl _ _).trans hEj.chg) (⟨((((hK2).book hBkw19)).ext hEj),((((hK3).book hBkw19)).ext hEj),((((hK7).book hBkw19)).ext hEj),((((hK4).book hBkw19)).ext hEj),((((hK5).book hBkw19)).ext hEj),((((hK6).book hBkw19)).ext hEj),((((hs1).book hBkw19)).ext hEj),((((hs2).book hBkw19)).ext hEj),((hEw.book hBkw19 (by omega)).trans hEj)⟩))))))))))
 ·rintro D w23 hD ⟨hK2,hK3,hK7,hK4,hK5,hK6,hs1,hs2,hEw⟩ hM
  have hK2l:=hK2.lt
  have hK3l:=hK3.lt
  have hK7l:=hK7.lt
  have hK4l:=hK4.lt
  have hK5l:=hK5.lt
  have hK6l:=hK6.lt
  have hzr:=hEw.size
  have hMl:=hM.lt
  refine zp (zc (zf (ze (zb (zV 57 w2.heap.size 0 57 (.slice none 0 0) ([(.slice none 0 0)]) hK4 (by first | decide |(simp;done)|(simp;omega)) ?_)))))
  intro w24 hBw24 hCw24
  have hzw24:=hCw24.size
  replace hBw24:=hBw24.set1
  refine zb (zV 57 w3.heap.size 0 57 (.slice none 0 0) ([(.slice none 0 0)]) ((hK5).chg hCw24 (fun hs=>by have h:_=_:=hs;omega)) (by first | decide |(simp;done)|(simp;omega)) ?_)
  intro w25 hBw25 hCw25
  have hzw25:=hCw25.size
  replace hBw25:=hBw25.set1
  refine zb (zV 34 w4.heap.size 0 34 (vI 11) ([(vI 0)]) ((((hK6).chg hCw24 (fun hs=>by have h:_=_:=hs;omega))).chg hCw25 (fun hs=>by have h:_=_:=hs;omega)) (by first | decide |(simp;done)|(simp;omega)) ?_)
  intro w26 hBw26 hCw26
  have hzw26:=hCw26.size
  replace hBw26:=hBw26.set1
  refine zg (zc (zx ?_))
  have hK36:=((((((hM).chg hCw24 (fun hs=>by have h:_=_:=hs;omega))).chg hCw25 (fun hs=>by have h:_=_:=hs;omega))).chg hCw26 (fun hs=>by have h:_=_:=hs;omega))
  obtain ⟨w27,hTw27,hCw27,hBkw27⟩:=ziE (P:=Tryz.prog) hK36
  have hzw27:=hCw27.size
  have hK37:=((((((hBw24).chg hCw25 (fun hs=>by have h:_=_:=hs;omega))).chg hCw26 (fun hs=>by have h:_=_:=hs;omega))).book hBkw27)
  refine zqU hTw27 (zgO (by kernel_rfl) (show zab Tryz.prog 94 _ _ (.cell 4 57) (.slice none 0 0) from ⟨⟨w2.heap.size,0,none⟩,(by kernel_rfl),zdt (T:=57) ((hK37).cell rfl)⟩) (show zab Tryz.prog 94 _ _ (.cell 5 57) (.slice none 0 0) from ⟨⟨w3.heap.size,0,none⟩,(by kernel_rfl),zdt (T:=57) ((((((hBw25).chg hCw26 (fun hs=>by have h:_=_:=hs;omega))).book hBkw27)).cell rfl)⟩) (show zab Tryz.prog 94 _ _ (.cell 6 34) (vI 11) from ⟨⟨w4.heap.size,0,none⟩,(by kernel_rfl),zdt (T:=34) ((((hBw26).book hBkw27)).cell rfl)⟩)) ?_
  have hX2:Ext w w27:=((Ext.own (Ext.own (Ext.own hEw hCw24 (by omega)) hCw25 (by omega)) hCw26 (by omega)).book hBkw27 (by omega))
  exact ⟨rfl,hX2⟩
 ·intro D cc k w28 hD hk hx;exact hx.elim
set_option maxHeartbeats 8000000 in
theorem zw2 (n:Nat) {lo_t hi_t:Nat} {a_t:Option Addr} {n_t c_t:Nat} {t:List Nod} (m:Nat) {lo_u hi_u:Nat} {a_u:Option Addr} {n_u c_u:Nat} {u:List Nod} (l0 j0:Nat) (w:World) (h_t:Ms zK 274 lo_t hi_t w a_t n_t c_t t) (h_u:Ms zK 274 lo_u hi_u w a_u n_u c_u u) (hp0:1≤n) (hp1:n≤4096) (hp2:n_t=tot n) (hp3:zbJ n t=0) (hp4:1≤m) (hp5:m≤4096) (hp6:n_u=tot m) (hp7:zbJ m u=0) (hp8:n=m) (hp9:(zN (zM (t.getD (num n (hgt n)) Nod.zero))).l=(zN (zM (u.getD (num m (hgt m)) Nod.zero))).l) (hp10:l0≤hgt n) (hp11:j0<cnt n l0) (hp12:(t.getD (num n l0+j0) Nod.zero)≠(u.getD (num n l0+j0) Nod.zero)) (hp13:∀a,l0<a→a≤hgt n→∀b,b<cnt n a→ndA n t a b=ndA n u a b) (hp14:∀b,b<j0→ndA n t l0 b=ndA n u l0 b) (hp15:zar (t.getD (num n l0+j0) Nod.zero)=0) (hp16:zar (u.getD (num n l0+j0) Nod.zero)=0) (hg0:Gl 0 [vI 45,vI 33] w) (hg1:Gl 2 (w8C za2) w) (hg2:Gl 3 (zR kA) w) (hg3:Gl 1 [.iface 199 (.agg #[.pointer (some ⟨4,99,none⟩)])] w):
  Calls Tryz.prog 36 #[(vA [(vI n),(.slice a_t n_t c_t)]),(vA [(vI m),(.slice a_u n_u c_u)])] w (Ret fun r w'=>∃a0 a1,r=(.tuple #[(.slice (pA a0 0) (zbx (t.getD (num n l0+j0) Nod.zero)) (zbx (t.getD (num n l0+j0) Nod.zero))),(.slice (pA a1 0) (zbx (u.getD (num n l0+j0) Nod.zero)) (zbx (u.getD (num n l0+j0) Nod.zero))),(vI 0)])∧w.heap.size≤a0∧Blk w' a0 (u8s (zM (t.getD (num n l0+j0) Nod.zero))) 5∧zbx (t.getD (num n l0+j0) Nod.zero)=(zM (t.getD (num n l0+j0) Nod.zero)).length∧zbx (t.getD (num n l0+j0) Nod.zero)≤1099511627776∧w.heap.size≤a1∧Blk w' a1 (u8s (zM (u.getD (num n l0+j0) Nod.zero))) 5∧zbx (u.getD (num n l0+j0) Nod.zero)=(zM (u.getD (num n l0+j0) Nod.zero)).length∧zbx (u.getD (num n l0+j0) Nod.zero)≤1099511627776∧Ext w w'):=by
 refine zfS (n:=94) (σ:= [(0,(vA [(vI n),(.slice a_t n_t c_t)])),(1,(vA [(vI m),(.slice a_u n_u c_u)]))]) Tryz.func36 rfl ?_
 replace h_t:=h_t.now;have hle_t:=h_t.le
 replace h_u:=h_u.now;have hle_u:=h_u.le
 have hgl0:=hg0.lt
 have hgl1:=hg1.lt
 have hgl2:=hg2.lt
 have hgl3:=hg3.lt
 have h5:=zaz n
 have hlt:=h_t.len_eq
 have hlu:=h_u.len_eq
 have hts:=zbN hp1
 have hts2:=zbN hp5
 have hle:=h_t.le
 have hle2:=h_u.le
 have hce:zd2 ((n:Nat):Int) t=0:=by rw [zeV hp0 hp1 (by omega)];exact hp3
 have hcf:zd2 ((m:Nat):Int) u=0:=by rw [zeV hp4 hp5 (by omega)];exact hp7
 have htm:tot m=tot n:=by rw [hp8]
 refine zf (ze (zb (zt (some 2) (Instr.box 50 (vA [(vI n),(.slice a_t n_t c_t)])) (vP w.heap.size 0) ([(vI n),(.slice a_t n_t c_t)]) 50 ?_)))
 intro w1 hBw1 hEw1
 have hzw1:=hEw1.size;have hlw1:=hBw1.lt
 refine zb (zt (some 3) (Instr.box 50 (vA [(vI m),(.slice a_u n_u c_u)])) (vP w1.heap.size 0) ([(vI m),(.slice a_u n_u c_u)]) 50 ?_)
 intro w2 hBw2 hEw2
 have hzw2:=hEw2.size;have hlw2:=hBw2.lt
 refine zb (zt (some 4) (Instr.alloc 57 true (.tuple #[])) (vP w2.heap.size 0) ([(.slice none 0 0)]) 57 ?_)
 intro w3 hBw3 hEw3
 have hzw3:=hEw3.size;have hlw3:=hBw3.lt
 refine zb (zt (some 5) (Instr.alloc 57 true (.tuple #[])) (vP w3.heap.size 0) ([(.slice none 0 0)]) 57 ?_)
 intro w4 hBw4 hEw4
 have hzw4:=hEw4.size;have hlw4:=hBw4.lt
 refine zb (zt (some 6) (Instr.alloc 34 true (.tuple #[])) (vP w4.heap.size 0) ([(vI 0)]) 34 ?_)
 intro w5 hBw5 hEw5
 have hzw5:=hEw5.size;have hlw5:=hBw5.lt
 refine zg (zc (zf (ze ?_)))
 have hK1:=(((((((hBw1.ext hEw2)).ext hEw3)).ext hEw4)).ext hEw5)
 refine zb (zj (some 18) (Instr.loadAt 50 (vP w.heap.size 0)) (vA [(vI n),(.slice a_t n_t c_t)]) (zD (vs:= [(vI n),(.slice a_t n_t c_t)]) (hK1.all)) ?_)
 have hK2:=(((((((((h_t.ext hEw1)).ext hEw2)).ext hEw3)).ext hEw4)).ext hEw5)
 have hK3:=(((((((((hg0.ext hEw1)).ext hEw2)).ext hEw3)).ext hEw4)).ext hEw5)
 have hK4:=(((((((((hg1.ext hEw1)).ext hEw2)).ext hEw3)).ext hEw4)).ext hEw5)
 have hK5:=(((((((((hg2.ext hEw1)).ext hEw2)).ext hEw3)).ext hEw4)).ext hEw5)
 have hK6:=(((((((((hg3.ext hEw1)).ext hEw2)).ext hEw3)).ext hEw4)).ext hEw5)
 refine zb (zi (some 19) (zhS n _ hK2 (by omega) (by omega) (by omega) hK3 hK4 hK5 hK6) ?_)
 rintro _ w6 ⟨a1,ca1,a2,ca2,rfl,hFz1_0,hFz1_1,hEw6⟩
 have hzw6:=hEw6.size
 have hlea1:=hFz1_0.le
 have hlea2:=hFz1_1.le
 rw [show zbJ n t=0 from hp3]
 refine zd 3 [(21,(vI 0)),(20,(vA [(vI n),(.slice a1 (hgt n+1) ca1),(.slice a2 (hgt n+1) ca2)])),(17,(.tuple #[(vA [(vI n),(.slice a1 (hgt n+1) ca1),(.slice a2 (hgt n+1) ca2)]),(vI 0)]))] (zb (zt (some 7) (Instr.alloc 106 true (.tuple #[])) (vP w6.heap.size 0) ([(vI 0),(.slice none 0 0),(.slice none 0 0)]) 106 ?_))
 intro w7 hBw7 hEw7
 have hzw7:=hEw7.size;have hlw7:=hBw7.lt
 refine zb (zz 106 w6.heap.size 0 106 (vA [(vI n),(.slice a1 (hgt n+1) ca1),(.slice a2 (hgt n+1) ca2)]) ([(vI 0),(.slice none 0 0),(.slice none 0 0)]) ([(vI n),(.slice a1 (hgt n+1) ca1),(.slice a2 (hgt n+1) ca2)]) hBw7 (by kernel_rfl) (by first | decide |(simp;done)|(simp;omega)) (by simp [Value.oneCell']) ?_)
 intro w8 hBw8 hCw8
 have hzw8:=hCw8.size
 rw [zm _ _ (by kernel_rfl)] at hBw8
 have hK7:=(((((hBw5.ext hEw6)).ext hEw7)).chg hCw8 (fun hs=>by have h:_=_:=hs;omega))
 refine zb (zV 34 w4.heap.size 0 34 (vI 0) ([(vI 0)]) hK7 (by first | decide |(simp;done)|(simp;omega)) ?_)
 have hK8:=(((((hBw5.ext hEw6)).ext hEw7)).chg hCw8 (fun hs=>by have h:_=_:=hs;omega))
 intro w9 hBw9 hCw9
 have hzw9:=hCw9.size
 replace hBw9:=hBw9.set1
 refine zg (zc (zf (zf (ze (zb (zj (some 22) (Instr.loadAt 34 (vP w4.heap.size 0)) (vI 0) (zo (hBw9.cell rfl)) ?_))))))
 refine zd 1 [(23,vF)] (zg (zc (zr (zy (zc (zf (zf (ze ?_))))))))
 have hK9:=(((((((((((((hBw2.ext hEw3)).ext hEw4)).ext hEw5)).ext hEw6)).ext hEw7)).chg hCw8 (fun hs=>by have h:_=_:=hs;omega))).chg hCw9 (fun hs=>by have h:_=_:=hs;omega))
 refine zb (zj (some 25) (Instr.loadAt 50 (vP w1.heap.size 0)) (vA [(vI m),(.slice a_u n_u c_u)]) (zD (vs:= [(vI m),(.slice a_u n_u c_u)]) (hK9.all)) ?_)
 have hK10:=(((((((((((((((((h_u.ext hEw1)).ext hEw2)).ext hEw3)).ext hEw4)).ext hEw5)).ext hEw6)).ext hEw7)).chg hCw8 (fun k h1 h2 hs=>by have h:k=_:=hs;omega))).chg hCw9 (fun k h1 h2 hs=>by have h:k=_:=hs;omega))
 have hK11:=(((((((hK3.ext hEw6)).ext hEw7)).chg hCw8 (fun hs=>by have h:_=_:=hs;omega))).chg hCw9 (fun hs=>by have h:_=_:=hs;omega))
 have hK12:=(((((((hK4.ext hEw6)).ext hEw7)).chg hCw8 (fun hs=>by have h:_=_:=hs;omega))).chg hCw9 (fun hs=>by have h:_=_:=hs;omega))
 have hK13:=(((((((hK5.ext hEw6)).ext hEw7)).chg hCw8 (fun hs=>by have h:_=_:=hs;omega))).chg hCw9 (fun hs=>by have h:_=_:=hs;omega))
 have hK14:=(((((((hK6.ext hEw6)).ext hEw7)).chg hCw8 (fun hs=>by have h:_=_:=hs;omega))).chg hCw9 (fun hs=>by have h:_=_:=hs;omega))
 refine zb (zi (some 26) (zlZ ((m:Nat):Int) _ hK10 hK11 hK12 hK13 hK14) ?_)
 rintro _ w10 ⟨rfl,hEw10⟩
 have hzw10:=hEw10.size
 rw [show zd2 ((m:Nat):Int) u=0 from hcf]
 refine zd 1 [(8,(vI 0))] (zg (zc (zf (ze (zd 1 [(27,(vI 0))] (zb (zat (some 28) (((0:Nat):Int) !=((0:Nat):Int)) false (zaL (by omega)) ?_)))))))
 refine zg (zc (zr (zy (zc (zf (zf (ze (zd 1 [(30,(vP w.heap.size 0))] ?_))))))))
 have hK15:=(((((((((hK1.ext hEw6)).ext hEw7)).chg hCw8 (fun hs=>by have h:_=_:=hs;omega))).chg hCw9 (fun hs=>by have h:_=_:=hs;omega))).ext hEw10)
 refine zb (zj (some 31) (Instr.loadAt 3 (vP w.heap.size 0)) (vI n) (zo (hK15.cell rfl)) ?_)
 refine zd 1 [(32,(vP w1.heap.size 0))] (zb (zj (some 33) (Instr.loadAt 3 (vP w1.heap.size 0)) (vI m) (zo ((hK9.ext hEw10).cell rfl)) ?_))
 refine zb (zat (some 34) (((n:Nat):Int) !=((m:Nat):Int)) false (zaL (by omega)) ?_)
 refine zg (zc (zr (zy (zc (zf (ze (zb (zj (some 36) (Instr.loadAt 50 (vP w.heap.size 0)) (vA [(vI n),(.slice a_t n_t c_t)]) (zD (vs:= [(vI n),(.slice a_t n_t c_t)]) (hK15.all)) ?_))))))))
 have hK16:=(((((((((hK2.ext hEw6)).ext hEw7)).chg hCw8 (fun k h1 h2 hs=>by have h:k=_:=hs;omega))).chg hCw9 (fun k h1 h2 hs=>by have h:k=_:=hs;omega))).ext hEw10)
 refine zb (zi (some 37) (zeP n _ hK16 (by omega) (by omega) (by omega) (by assumption) (hK11.ext hEw10) (hK12.ext hEw10) (hK13.ext hEw10) (hK14.ext hEw10)) ?_)
 rintro _ w11 ⟨rfl,hEw11⟩
 have hzw11:=hEw11.size
 refine zd 3 [(39,(vI 0)),(38,(vA (zw (zN (zM (t.getD (num n (hgt n)) Nod.zero)))))),(35,(.tuple #[(vA (zw (zN (zM (t.getD (num n (hgt n)) Nod.zero))))),(vI 0)]))] (zb (zt (some 9) (Instr.alloc 23 true (.tuple #[])) (vP w11.heap.size 0) (zw Dig.zero) 23 ?_))
 intro w12 hBw12 hEw12
 have hzw12:=hEw12.size;have hlw12:=hBw12.lt
 refine zb (zz 23 w11.heap.size 0 23 (vA (zw (zN (zM (t.getD (num n (hgt n)) Nod.zero))))) (zw Dig.zero) (zw (zN (zM (t.getD (num n (hgt n)) Nod.zero)))) hBw12 (by rw [zac];kernel_rfl) (by first |(simp;done)|(simp;omega)) (zaT _) ?_)
 intro w13 hBw13 hCw13
 have hzw13:=hCw13.size
 rw [zm _ _ (by simp)] at hBw13
 refine zd 1 [(10,(vI 0))] (zg (zc (zf (ze ?_))))
 have hK17:=(((((((hK9.ext hEw10)).ext hEw11)).ext hEw12)).chg hCw13 (fun hs=>by have h:_=_:=hs;omega))
 refine zb (zj (some 41) (Instr.loadAt 50 (vP w1.heap.size 0)) (vA [(vI m),(.slice a_u n_u c_u)]) (zD (vs:= [(vI m),(.slice a_u n_u c_u)]) (hK17.all)) ?_)
 have hK18:=(((((((hK10.ext hEw10)).ext hEw11)).ext hEw12)).chg hCw13 (fun k h1 h2 hs=>by have h:k=_:=hs;omega))
 have hK19:=(((((((hK11.ext hEw10)).ext hEw11)).ext hEw12)).chg hCw13 (fun hs=>by have h:_=_:=hs;omega))
 have hK20:=(((((((hK12.ext hEw10)).ext hEw11)).ext hEw12)).chg hCw13 (fun hs=>by have h:_=_:=hs;omega))
 have hK21:=(((((((hK13.ext hEw10)).ext hEw11)).ext hEw12)).chg hCw13 (fun hs=>by have h:_=_:=hs;omega))
 have hK22:=(((((((hK14.ext hEw10)).ext hEw11)).ext hEw12)).chg hCw13 (fun hs=>by have h:_=_:=hs;omega))
 refine zb (zi (some 42) (zeP m _ hK18 (by omega) (by omega) (by omega) (by assumption) hK19 hK20 hK21 hK22) ?_)
 rintro _ w14 ⟨rfl,hEw14⟩
 have hzw14:=hEw14.size
 refine zd 3 [(44,(vI 0)),(43,(vA (zw (zN (zM (u.getD (num m (hgt m)) Nod.zero)))))),(40,(.tuple #[(vA (zw (zN (zM (u.getD (num m (hgt m)) Nod.zero))))),(vI 0)]))] (zb (zt (some 11) (Instr.alloc 23 true (.tuple #[])) (vP w14.heap.size 0) (zw Dig.zero) 23 ?_))
 intro w15 hBw15 hEw15
 have hzw15:=hEw15.size;have hlw15:=hBw15.lt
 refine zb (zz 23 w14.heap.size 0 23 (vA (zw (zN (zM (u.getD (num m (hgt m)) Nod.zero))))) (zw Dig.zero) (zw (zN (zM (u.getD (num m (hgt m)) Nod.zero)))) hBw15 (by rw [zac];kernel_rfl) (by first |(simp;done)|(simp;omega)) (zaT _) ?_)
 intro w16 hBw16 hCw16
 have hzw16:=hCw16.size
 rw [zm _ _ (by simp)] at hBw16
 refine zd 1 [(12,(vI 0))] (zg (zc (zf (zf (ze ?_)))))
 have hK23:=(((((hBw13.ext hEw14)).ext hEw15)).chg hCw16 (fun hs=>by have h:_=_:=hs;omega))
 refine zb (zj (some 45) (Instr.loadAt 23 (vP w11.heap.size 0)) (vA (zw (zN (zM (t.getD (num n (hgt n)) Nod.zero))))) (zD (vs:=zw (zN (zM (t.getD (num n (hgt n)) Nod.zero)))) (hK23.all) (by rw [zac];kernel_rfl)) ?_)
 refine zb (zj (some 46) (Instr.loadAt 23 (vP w14.heap.size 0)) (vA (zw (zN (zM (u.getD (num m (hgt m)) Nod.zero))))) (zD (vs:=zw (zN (zM (u.getD (num m (hgt m)) Nod.zero)))) (hBw16.all) (by rw [zac];kernel_rfl)) ?_)
 refine zb (zj (some 47) (bo .neq 23 (.tmp 45) (.tmp 46) (vA (zw (zN (zM (t.getD (num n (hgt n)) Nod.zero))))) (vA (zw (zN (zM (u.getD (num m (hgt m)) Nod.zero)))))) vF (zav (r:=true) (T:=23) ((zbj (dd:=9998) (t:=23) (e:=5) (zN (zM (t.getD (num n (hgt n)) Nod.zero))) (zN (zM (u.getD (num m (hgt m)) Nod.zero)))).trans (congrArg (fun b=>Result.ok b _) (show ((zN (zM (t.getD (num n (hgt n)) Nod.zero))).l==(zN (zM (u.getD (num m (hgt m)) Nod.zero))).l)=true from beq_iff_eq.2 hp9)))) ?_)
 refine zg (zc (zr (zy (zc (zf (zf (ze (zd 1 [(48,(vP w6.heap.size 1))] ?_))))))))
 have hK24:=((((((((((((((((hBw8).chg hCw9 (fun hs=>by have h:_=_:=hs;omega))).ext hEw10)).ext hEw11)).ext hEw12)).chg hCw13 (fun hs=>by have h:_=_:=hs;omega))).ext hEw14)).ext hEw15)).chg hCw16 (fun hs=>by have h:_=_:=hs;omega))
 refine zb (zj (some 49) (Instr.loadAt 40 (vP w6.heap.size 1)) (.slice a1 (hgt n+1) ca1) (zo (hK24.cell rfl)) ?_)
 have hK25:=(((((((((((((((((((hFz1_0.ext hEw7)).chg hCw8 (fun k h1 h2 hs=>by have h:k=_:=hs;omega))).chg hCw9 (fun k h1 h2 hs=>by have h:k=_:=hs;omega))).ext hEw10)).ext hEw11)).ext hEw12)).chg hCw13 (fun k h1 h2 hs=>by have h:k=_:=hs;omega))).ext hEw14)).ext hEw15)).chg hCw16 (fun k h1 h2 hs=>by have h:k=_:=hs;omega))
 refine zb (zi (some 50) (zq1 _ hK25) ?_)
 rintro _ w17 ⟨a3,rfl,hFz5_0,hFz5_1,hEw17⟩
 have hzw17:=hEw17.size
 have hla3:=hFz5_1.lt
 refine zg (zc (zI ?_))
 have hK26:=(((((((((((((hK15.ext hEw11)).ext hEw12)).chg hCw13 (fun hs=>by have h:_=_:=hs;omega))).ext hEw14)).ext hEw15)).chg hCw16 (fun hs=>by have h:_=_:=hs;omega))).ext hEw17)
 have hK27:=(((((((hK17.ext hEw14)).ext hEw15)).chg hCw16 (fun hs=>by have h:_=_:=hs;omega))).ext hEw17)
 have hK28:=(((((((((((((((((((((((((((hBw3.ext hEw4)).ext hEw5)).ext hEw6)).ext hEw7)).chg hCw8 (fun hs=>by have h:_=_:=hs;omega))).chg hCw9 (fun hs=>by have h:_=_:=hs;omega))).ext hEw10)).ext hEw11)).ext hEw12)).chg hCw13 (fun hs=>by have h:_=_:=hs;omega))).ext hEw14)).ext hEw15)).chg hCw16 (fun hs=>by have h:_=_:=hs;omega))).ext hEw17)
 have hK29:=(((((((((((((((((((((((((hBw4.ext hEw5)).ext hEw6)).ext hEw7)).chg hCw8 (fun hs=>by have h:_=_:=hs;omega))).chg hCw9 (fun hs=>by have h:_=_:=hs;omega))).ext hEw10)).ext hEw11)).ext hEw12)).chg hCw13 (fun hs=>by have h:_=_:=hs;omega))).ext hEw14)).ext hEw15)).chg hCw16 (fun hs=>by have h:_=_:=hs;omega))).ext hEw17)
 have hK30:=(((((((((((((((hBw9.ext hEw10)).ext hEw11)).ext hEw12)).chg hCw13 (fun hs=>by have h:_=_:=hs;omega))).ext hEw14)).ext hEw15)).chg hCw16 (fun hs=>by have h:_=_:=hs;omega))).ext hEw17)
 have hK31:=(((((((((((((((((((((hFz1_1.ext hEw7)).chg hCw8 (fun k h1 h2 hs=>by have h:k=_:=hs;omega))).chg hCw9 (fun k h1 h2 hs=>by have h:k=_:=hs;omega))).ext hEw10)).ext hEw11)).ext hEw12)).chg hCw13 (fun k h1 h2 hs=>by have h:k=_:=hs;omega))).ext hEw14)).ext hEw15)).chg hCw16 (fun k h1 h2 hs=>by have h:k=_:=hs;omega))).ext hEw17)
 have hX1:Ext w w17:=((Ext.own (((Ext.own ((((Ext.own (Ext.own ((((((hEw1.trans hEw2).trans hEw3).trans hEw4).trans hEw5).trans hEw6).trans hEw7) hCw8 (by omega)) hCw9 (by omega)).trans hEw10).trans hEw11).trans hEw12) hCw13 (by omega)).trans hEw14).trans hEw15) hCw16 (by omega)).trans hEw17)
 refine zit [51,52] 91 [(vP a3 0)] (hgt n+1) (fun k=> [(vI (hgt n-k)),(vI (cnt n (hgt n-k)))]) (fun b=>b=w2.heap.size∨b=w3.heap.size∨b=w4.heap.size) (fun b=>False) (fun k w'=>(k≤hgt n-l0)∧Blk w' w.heap.size ([(vI n),(.slice a_t n_t c_t)]) 50∧Blk w' w1.heap.size ([(vI m),(.slice a_u n_u c_u)]) 50∧Blk w' w6.heap.size ([(vI n),(.slice a1 (hgt n+1) ca1),(.slice a2 (hgt n+1) ca2)]) 106∧Blk w' w2.heap.size ([(.slice none 0 0)]) 57∧Blk w' w3.heap.size ([(.slice none 0 0)]) 57∧Blk w' w4.heap.size ([(vI 0)]) 34∧Es (nv .i64) w5.heap.size w6.heap.size w' a1 (hgt n+1) ca1 (za7 n (hgt n+1))∧Es (nv .i64) w5.heap.size w6.heap.size w' a2 (hgt n+1) ca2 (zcy n (hgt n+1))∧Ext w w') (fun cc k w'=>cc= .ret∧∃x y,w.heap.size≤x∧w.heap.size≤y∧Blk w' w2.heap.size [(.slice (pA x 0) (zbx (t.getD (num n l0+j0) Nod.zero)) (zbx (t.getD (num n l0+j0) Nod.zero)))] 57∧Blk w' w3.heap.size [(.slice (pA y 0) (zbx (u.getD (num n l0+j0) Nod.zero)) (zbx (u.getD (num n l0+j0) Nod.zero)))] 57∧Blk w' w4.heap.size [vI 0] 34∧Blk w' x (u8s (zM (t.getD (num n l0+j0) Nod.zero))) 5∧Blk w' y (u8s (zM (u.getD (num n l0+j0) Nod.zero))) 5∧Ext w w') (fun b hb=>hb.elim) (fun _=>rfl) (fun k W W' ⟨h0,h1,h2,h3,h4,h5,h6,hs1,hs2,h8⟩ hb=>⟨h0,h1.book hb,h2.book hb,h3.book hb,h4.book hb,h5.book hb,h6.book hb,hs1.book hb,hs2.book hb,h8.book hb (by omega)⟩) (fun _ k W W' ⟨hc,x,y,h1,h2,h3,h4,h5,h6,h7,h8⟩ hb=>⟨hc,x,y,h1,h2,h3.book hb,h4.book hb,h5.book hb,h6.book hb,h7.book hb,h8.book hb (by omega)⟩) (fun k W W' ⟨h0,h1,h2,h3,h4,h5,h6,hs1,hs2,h8⟩ hc=>⟨h0,h1.ext hc,h2.ext hc,h3.ext hc,h4.ext hc,h5.ext hc,h6.ext hc,hs1.ext hc,hs2.ext hc,h8.trans hc⟩) (⟨Nat.zero_le _,hK26,hK27,(hK24.ext hEw17),hK28,hK29,hK30,(hK25.ext hEw17),hK31,hX1⟩) (fun lp J Jx wj hE1 hJ hY h0=>zqL (l:=za7 n (hgt n+1)) w17.heap.size lp (fun b=>b=w2.heap.size∨b=w3.heap.size∨b=w4.heap.size) J Jx wj (hFz5_1.ext hE1) ((hK25.ext hEw17).ext hE1) (fun b hb=>by omega) hJ (fun k W hk hj=>by rw [show hgt n+1-1-k=hgt n-k from by omega,show gt (za7 n (hgt n+1)) (hgt n-k)=cnt n (hgt n-k) from zeC (by omega)];exact hY k W hk hj) h0) ?_ ?_ ?_
 ·rintro lR k w18 hl ⟨hkk,hK2,hK3,hK7,hK4,hK5,hK6,hs1,hs2,hEw⟩ hk
  have hK2l:=hK2.lt
  have hK3l:=hK3.lt
  have hK7l:=hK7.lt
  have hK4l:=hK4.lt
  have hK5l:=hK5.lt
  have hK6l:=hK6.lt
  have hzr:=hEw.size
  refine zf (ze (zd 1 [(13,(vI (hgt n-k)))] (zg (zc (ze (zd 1 [(14,(vI (cnt n (hgt n-k))))] (zg (zmA (Kpt.refl _) (Chg.refl _ _) (fun w19 hBkw19=> ?_)))))))))
  have hzw19:=hBkw19.size
  refine zI (zf (ze (zd 2 [(54,(vI 0)),(53,(vI (cnt n (hgt n-k))))] (zg (zc (zI (zah (X:=Nat) (fun j=> [(54,(vI j))]) [15,16,55,56,57,58,59,60,61,62,63,64,65,66,67,68,69,70,71,72,73,74,75,76,77,78,79,80,81,82,83,84,85,86,87,88,89,90,91,92,93] (fun j w20=>j≤cnt n (hgt n-k)∧(hgt n-k=l0→j≤j0)∧Ext w19 w20) (fun j=>cnt n (hgt n-k)-j) 0 (by kernel_rfl) ⟨Nat.zero_le _,fun _=>Nat.zero_le _,Ext.refl _⟩ ?_)))))))
  rintro j dw20 w20 ⟨hj,hjj,hEj⟩
  have hzj:=hEj.size
  refine zf (ze (zb (zO (some 55) (decide (((j:Nat):Int)<((cnt n (hgt n-k):Nat):Int))) (fun hc55=> ?_) (fun hc55=> ?_))))
  ·replace hc55:j<cnt n (hgt n-k):=by have:=zak hc55;omega
   have hjc:j<cnt n (hgt n-k):=by omega
   have hpl:=zbe (n:=n) (l:=hgt n-k) (j:=j) (by omega) hjc
   refine zg (zc (zf (zF (zy (zc (zf (zI (zf (ze ?_)))))))))
   refine zd 2 [(15,(vI j)),(56,(vI j))] (zg (zc (zf (ze (zb (zj (some 57) (Instr.loadAt 106 (vP w6.heap.size 0)) (vA [(vI n),(.slice a1 (hgt n+1) ca1),(.slice a2 (hgt n+1) ca2)]) (zD (vs:= [(vI n),(.slice a1 (hgt n+1) ca1),(.slice a2 (hgt n+1) ca2)]) (((((hK7).book hBkw19)).ext hEj).all)) ?_))))))
   refine zd 2 [(59,(vI j)),(58,(vI (hgt n-k)))] (zb (zi (some 60) (zcs n (hgt n-k) j _ ((((hs1).book hBkw19)).ext hEj) ((((hs2).book hBkw19)).ext hEj) (by first | rfl | assumption) (by first | rfl | assumption) (by omega) (by omega) (by omega) (by omega)) ?_))
   rintro _ w21 ⟨rfl,hEw21⟩
   have hzw21:=hEw21.size
   refine zd 1 [(16,(vI (num n (hgt n-k)+j)))] (zg (zc (zf (zag (Ext w21.drew) 11 [(62,4,0),(63,2305843009213693952,1),(64,65536,0),(65,13835058055282163712,6),(66,18446744073709551616,8),(67,8,0),(68,73786976294838206464,32),(69,65536,0),(70,442721857769029238784,192),(71,590295810358705651712,256),(72,1217485108864830406656,528)] (fun hT702=> ?_)))))
   have hEw22:Ext w21 w21.drew:=Ext.drew w21
   generalize w21.drew=w22 at hEw22⊢
   have hzw22:=hEw22.size
   refine zk hT702 [(0,61,(vP w.heap.size 1))] 1 1 ?_
   have hK32:=((((((((hK2).book hBkw19)).ext hEj)).ext hEw21)).ext hEw22)
   refine zh hT702 1 3 (some 62) (.slice a_t n_t c_t) (zl (Instr.loadAt 24 (vP w.heap.size 1)) (fun w' hC=>zo ((hK32.ext hC).cell rfl))) (zk hT702 [(2,63,(vI (num n (hgt n-k)+j)))] 1 7 ?_)
   obtain ⟨b1,o1,rfl⟩:=h_t.addr (by omega) (by decide)
   refine zh hT702 3 15 (some 64) (vP b1 (o1+(num n (hgt n-k)+j)*274)) (zl (Instr.indexAt 24 (.slice (pA b1 o1) n_t c_t) (vI (num n (hgt n-k)+j))) (fun w' hC=>zap (E:=47) (sz:=274) (by omega))) ?_
   have hK33:=(((((((((h_t.ext hEw)).book hBkw19)).ext hEj)).ext hEw21)).ext hEw22)
   refine zh hT702 4 31 (some 65) (vA (zK (t.getD (num n (hgt n-k)+j) Nod.zero))) (zl (Instr.loadAt 47 (vP b1 (o1+(num n (hgt n-k)+j)*274))) (fun w' hC=>zD (vs:=zK (t.getD (num n (hgt n-k)+j) Nod.zero)) ((hK33.ext hC).at Nod.zero (by omega)) (by rw [zW];kernel_rfl))) (zk hT702 [(5,66,(vP w1.heap.size 1))] 1 63 ?_)
   have hK34:=((((((((hK3).book hBkw19)).ext hEj)).ext hEw21)).ext hEw22)
   refine zh hT702 6 127 (some 67) (.slice a_u n_u c_u) (zl (Instr.loadAt 24 (vP w1.heap.size 1)) (fun w' hC=>zo ((hK34.ext hC).cell rfl))) (zk hT702 [(7,68,(vI (num n (hgt n-k)+j)))] 1 255 ?_)
   obtain ⟨b2,o2,rfl⟩:=h_u.addr (by omega) (by decide)
   refine zh hT702 8 511 (some 69) (vP b2 (o2+(num n (hgt n-k)+j)*274)) (zl (Instr.indexAt 24 (.slice (pA b2 o2) n_u c_u) (vI (num n (hgt n-k)+j))) (fun w' hC=>zap (E:=47) (sz:=274) (by omega))) ?_
   have hK35:=(((((((((h_u.ext hEw)).book hBkw19)).ext hEj)).ext hEw21)).ext hEw22)
   refine zh hT702 9 1023 (some 70) (vA (zK (u.getD (num n (hgt n-k)+j) Nod.zero))) (zl (Instr.loadAt 47 (vP b2 (o2+(num n (hgt n-k)+j)*274))) (fun w' hC=>zD (vs:=zK (u.getD (num n (hgt n-k)+j) Nod.zero)) ((hK35.ext hC).at Nod.zero (by omega)) (by rw [zW];kernel_rfl))) ?_
   rcases Classical.em (hgt n-k=l0∧j=j0) with ⟨hl0,hj0⟩| hlj
   ·subst hj0
    subst hl0
    refine zh hT702 10 2047 (some 71) vT (zl (bo .neq 47 (.tmp 65) (.tmp 70) (vA (zK (t.getD (num n (hgt n-k)+j) Nod.zero))) (vA (zK (u.getD (num n (hgt n-k)+j) Nod.zero)))) (fun w' hC=>zav (r:=false) (T:=47) ((zhl (dd:=9995) (N:=47) (R:=42) (E:=45) (r:=33) (en:=44) (t8:=5) (td:=23) (e:=5) (tn:=31) (t32:=28) (t64:=29) (t.getD (num n (hgt n-k)+j) Nod.zero) (u.getD (num n (hgt n-k)+j) Nod.zero)).trans (congrArg (fun b=>Result.ok b _) (show ((t.getD (num n (hgt n-k)+j) Nod.zero).eqb (u.getD (num n (hgt n-k)+j) Nod.zero))=false from Bool.eq_false_iff.2 (fun hh=>hp12 ((Nod.eqb_iff _ _).1 hh))))))) (zJ (zc (zF (zf (ze (zd 1 [(73,(vP w.heap.size 1))] (zb (zj (some 74) (Instr.loadAt 24 (vP w.heap.size 1)) (.slice (pA b1 o1) n_t c_t) (zo (hK32.cell rfl)) ?_))))))))
    refine zd 1 [(75,(vI (num n (hgt n-k)+j)))] (zb (zj (some 76) (Instr.indexAt 24 (.slice (pA b1 o1) n_t c_t) (vI (num n (hgt n-k)+j))) (vP b1 (o1+(num n (hgt n-k)+j)*274)) (zap (E:=47) (sz:=274) (by omega)) ?_))
    refine zb (zj (some 77) (Instr.loadAt 47 (vP b1 (o1+(num n (hgt n-k)+j)*274))) (vA (zK (t.getD (num n (hgt n-k)+j) Nod.zero))) (zD (vs:=zK (t.getD (num n (hgt n-k)+j) Nod.zero)) (hK33.at Nod.zero (by omega)) (by rw [zW];kernel_rfl)) ?_)
    have hK36:=(((((((((hg0.ext hEw)).book hBkw19)).ext hEj)).ext hEw21)).ext hEw22)
    refine zb (zi (some 78) (zra (t.getD (num n (hgt n-k)+j) Nod.zero) _ (hp15) hK36) ?_)
    rintro _ w23 ⟨a4,rfl,hFz7_0,hFz7_1,hFz7_2,hFz7_3,hEw23⟩
    have hzw23:=hEw23.size
    have hla4:=hFz7_1.lt;have hna4:=hFz7_3
    have hSa4:Bs a4 (a4+1) w23 (pA a4 0) (zbx (t.getD (num n (hgt n-k)+j) Nod.zero)) (zbx (t.getD (num n (hgt n-k)+j) Nod.zero)) (zM (t.getD (num n (hgt n-k)+j) Nod.zero)):=Bs.of_blk hFz7_1 rfl hFz7_2 (Nat.le_refl _) (zbV hna4) (Nat.le_refl _) (Nat.lt_succ_self _)
    refine zd 3 [(80,(vI 0)),(79,(.slice (pA a4 0) (zbx (t.getD (num n (hgt n-k)+j) Nod.zero)) (zbx (t.getD (num n (hgt n-k)+j) Nod.zero)))),(72,(.tuple #[(.slice (pA a4 0) (zbx (t.getD (num n (hgt n-k)+j) Nod.zero)) (zbx (t.getD (num n (hgt n-k)+j) Nod.zero))),(vI 0)]))] ?_
    have hK37:=((((((((((hK4).book hBkw19)).ext hEj)).ext hEw21)).ext hEw22)).ext hEw23)
    refine zb (zV 57 w2.heap.size 0 57 (.slice (pA a4 0) (zbx (t.getD (num n (hgt n-k)+j) Nod.zero)) (zbx (t.getD (num n (hgt n-k)+j) Nod.zero))) ([(.slice none 0 0)]) hK37 (by first | decide |(simp;done)|(simp;omega)) ?_)
    have hK38:=((((((((((hK4).book hBkw19)).ext hEj)).ext hEw21)).ext hEw22)).ext hEw23)
    intro w24 hBw24 hCw24
    have hzw24:=hCw24.size
    replace hBw24:=hBw24.set1
    refine zg (zc (zf (ze (zd 1 [(82,(vP w1.heap.size 1))] (zb (zj (some 83) (Instr.loadAt 24 (vP w1.heap.size 1)) (.slice (pA b2 o2) n_u c_u) (zo ((((hK34.ext hEw23)).chg hCw24 (fun hs=>by have h:_=_:=hs;omega)).cell rfl)) ?_))))))
    refine zd 1 [(84,(vI (num n (hgt n-k)+j)))] (zb (zj (some 85) (Instr.indexAt 24 (.slice (pA b2 o2) n_u c_u) (vI (num n (hgt n-k)+j))) (vP b2 (o2+(num n (hgt n-k)+j)*274)) (zap (E:=47) (sz:=274) (by omega)) ?_))
    refine zb (zj (some 86) (Instr.loadAt 47 (vP b2 (o2+(num n (hgt n-k)+j)*274))) (vA (zK (u.getD (num n (hgt n-k)+j) Nod.zero))) (zD (vs:=zK (u.getD (num n (hgt n-k)+j) Nod.zero)) ((((hK35.ext hEw23)).chg hCw24 (fun k h1 h2 hs=>by have h:k=_:=hs;omega)).at Nod.zero (by omega)) (by rw [zW];kernel_rfl)) ?_)
    refine zb (zi (some 87) (zra (u.getD (num n (hgt n-k)+j) Nod.zero) _ (hp16) (((hK36.ext hEw23)).chg hCw24 (fun hs=>by have h:_=_:=hs;omega))) ?_)
    rintro _ w25 ⟨a5,rfl,hFz8_0,hFz8_1,hFz8_2,hFz8_3,hEw25⟩
    have hzw25:=hEw25.size
    have hla5:=hFz8_1.lt;have hna5:=hFz8_3
    have hSa5:Bs a5 (a5+1) w25 (pA a5 0) (zbx (u.getD (num n (hgt n-k)+j) Nod.zero)) (zbx (u.getD (num n (hgt n-k)+j) Nod.zero)) (zM (u.getD (num n (hgt n-k)+j) Nod.zero)):=Bs.of_blk hFz8_1 rfl hFz8_2 (Nat.le_refl _) (zbV hna5) (Nat.le_refl _) (Nat.lt_succ_self _)
    refine zd 3 [(89,(vI 0)),(88,(.slice (pA a5 0) (zbx (u.getD (num n (hgt n-k)+j) Nod.zero)) (zbx (u.getD (num n (hgt n-k)+j) Nod.zero)))),(81,(.tuple #[(.slice (pA a5 0) (zbx (u.getD (num n (hgt n-k)+j) Nod.zero)) (zbx (u.getD (num n (hgt n-k)+j) Nod.zero))),(vI 0)]))] ?_
    have hK39:=((((((((((((((hK5).book hBkw19)).ext hEj)).ext hEw21)).ext hEw22)).ext hEw23)).chg hCw24 (fun hs=>by have h:_=_:=hs;omega))).ext hEw25)
    refine zb (zV 57 w3.heap.size 0 57 (.slice (pA a5 0) (zbx (u.getD (num n (hgt n-k)+j) Nod.zero)) (zbx (u.getD (num n (hgt n-k)+j) Nod.zero))) ([(.slice none 0 0)]) hK39 (by first | decide |(simp;done)|(simp;omega)) ?_)
    have hK40:=((((((((((((((hK5).book hBkw19)).ext hEj)).ext hEw21)).ext hEw22)).ext hEw23)).chg hCw24 (fun hs=>by have h:_=_:=hs;omega))).ext hEw25)
    intro w26 hBw26 hCw26
    have hzw26:=hCw26.size
    replace hBw26:=hBw26.set1
    have hK41:=((((((((((((((((hK6).book hBkw19)).ext hEj)).ext hEw21)).ext hEw22)).ext hEw23)).chg hCw24 (fun hs=>by have h:_=_:=hs;omega))).ext hEw25)).chg hCw26 (fun hs=>by have h:_=_:=hs;omega))
    refine zb (zV 34 w4.heap.size 0 34 (vI 0) ([(vI 0)]) hK41 (by first | decide |(simp;done)|(simp;omega)) ?_)
    have hK42:=((((((((((((((((hK6).book hBkw19)).ext hEj)).ext hEw21)).ext hEw22)).ext hEw23)).chg hCw24 (fun hs=>by have h:_=_:=hs;omega))).ext hEw25)).chg hCw26 (fun hs=>by have h:_=_:=hs;omega))
    intro w27 hBw27 hCw27
    have hzw27:=hCw27.size
    replace hBw27:=hBw27.set1
    refine zg (zc (zf (zag (Chg (fun k=>k=w2.heap.size∨k=w3.heap.size) w27.drew) 6 [(91,16,0),(92,32,0),(93,64,0),(0,1237940039285380274899124240,1),(0,2475880078570760549798248480,11),(0,4951760157141521099596496960,31)] (fun hT779=> ?_))))
    have hEw28:Ext w27 w27.drew:=Ext.drew w27
    generalize w27.drew=w28 at hEw28⊢
    have hzw28:=hEw28.size
    have hX2:Chg (fun k=>k=w2.heap.size∨k=w3.heap.size) w28 w28:=(Chg.refl (fun k=>k=w2.heap.size∨k=w3.heap.size) w28)
    refine zh (hw:=hX2) hT779 2 4 (some 92) (vI 0) (zl (Instr.loadAt 34 (vP w4.heap.size 0)) (fun w' hC=>zo (((hBw27.ext hEw28).chg hC (fun hs=>by rcases hs with hs | hs<;>omega)).cell rfl))) (zay 0 1 5 6 ?_ ?_)
    ·have hK43:=(((((((hBw24.ext hEw25)).chg hCw26 (fun hs=>by have h:_=_:=hs;omega))).chg hCw27 (fun hs=>by have h:_=_:=hs;omega))).ext hEw28)
     refine zj (some 90) (Instr.loadAt 57 (vP w2.heap.size 0)) (.slice (pA a4 0) (zbx (t.getD (num n (hgt n-k)+j) Nod.zero)) (zbx (t.getD (num n (hgt n-k)+j) Nod.zero))) (zo (hK43.cell rfl)) (⟨.inr hX2, ?_⟩)
     refine zay 1 3 7 13 ?_ ?_
     ·refine zj (some 91) (Instr.loadAt 57 (vP w3.heap.size 0)) (.slice (pA a5 0) (zbx (u.getD (num n (hgt n-k)+j) Nod.zero)) (zbx (u.getD (num n (hgt n-k)+j) Nod.zero))) (zo (((((hBw26).chg hCw27 (fun hs=>by have h:_=_:=hs;omega))).ext hEw28).cell rfl)) (⟨.inr hX2, ?_⟩)
      refine zn 3 15 (zV 57 w2.heap.size 0 57 (.slice (pA a4 0) (zbx (t.getD (num n (hgt n-k)+j) Nod.zero)) (zbx (t.getD (num n (hgt n-k)+j) Nod.zero))) ([(.slice (pA a4 0) (zbx (t.getD (num n (hgt n-k)+j) Nod.zero)) (zbx (t.getD (num n (hgt n-k)+j) Nod.zero)))]) hK43 (by first | decide |(simp;done)|(simp;omega)) ?_)
      intro w29 hBw29 hCw29
      have hzw29:=hCw29.size
      replace hBw29:=hBw29.set1
      have hX3:Chg (fun k=>k=w2.heap.size∨k=w3.heap.size) w28 w29:=(Chg.then (Chg.refl (fun k=>k=w2.heap.size∨k=w3.heap.size) w28) hCw29 (fun k hk hs=>by have h:k=_:=hs;first | exact hs | exact .inl h | exact .inr h |(exfalso;omega)))
      refine ⟨.inr hX3, ?_⟩
      have hK44:=((((((hBw26).chg hCw27 (fun hs=>by have h:_=_:=hs;omega))).ext hEw28)).chg hCw29 (fun hs=>by have h:_=_:=hs;omega))
      refine zn 4 31 (zV 57 w3.heap.size 0 57 (.slice (pA a5 0) (zbx (u.getD (num n (hgt n-k)+j) Nod.zero)) (zbx (u.getD (num n (hgt n-k)+j) Nod.zero))) ([(.slice (pA a5 0) (zbx (u.getD (num n (hgt n-k)+j) Nod.zero)) (zbx (u.getD (num n (hgt n-k)+j) Nod.zero)))]) hK44 (by first | decide |(simp;done)|(simp;omega)) ?_)
      have hK45:=((((((hBw26).chg hCw27 (fun hs=>by have h:_=_:=hs;omega))).ext hEw28)).chg hCw29 (fun hs=>by have h:_=_:=hs;omega))
      intro w30 hBw30 hCw30
      have hzw30:=hCw30.size
      replace hBw30:=hBw30.set1
      have hX4:Chg (fun k=>k=w2.heap.size∨k=w3.heap.size) w28 w30:=(Chg.then (Chg.then (Chg.refl (fun k=>k=w2.heap.size∨k=w3.heap.size) w28) hCw29 (fun k hk hs=>by have h:k=_:=hs;first | exact hs | exact .inl h | exact .inr h |(exfalso;omega))) hCw30 (fun k hk hs=>by have h:k=_:=hs;first | exact hs | exact .inl h | exact .inr h |(exfalso;omega)))
      refine ⟨.inr hX4, ?_⟩
      have hK46:=(((((hBw27.ext hEw28)).chg hCw29 (fun hs=>by have h:_=_:=hs;omega))).chg hCw30 (fun hs=>by have h:_=_:=hs;omega))
      refine zn 5 63 (zV 34 w4.heap.size 0 34 (vI 0) ([(vI 0)]) hK46 (by first | decide |(simp;done)|(simp;omega)) ?_)
      have hK47:=(((((hBw27.ext hEw28)).chg hCw29 (fun hs=>by have h:_=_:=hs;omega))).chg hCw30 (fun hs=>by have h:_=_:=hs;omega))
      intro w31 hBw31 hCw31
      have hzw31:=hCw31.size
      replace hBw31:=hBw31.set1
      refine ⟨.inl (by kernel_rfl), ?_⟩
      refine zJ (zc (zx (zA (zu (zu (zA (zA ?_)))))))
      have hK48:=((((((((((((((((hFz7_1).chg hCw24 (fun hs=>by have h:_=_:=hs;omega))).ext hEw25)).chg hCw26 (fun hs=>by have h:_=_:=hs;omega))).chg hCw27 (fun hs=>by have h:_=_:=hs;omega))).ext hEw28)).chg hCw29 (fun hs=>by have h:_=_:=hs;omega))).chg hCw30 (fun hs=>by have h:_=_:=hs;omega))).chg hCw31 (fun hs=>by have h:_=_:=hs;omega))
      have hK49:=((((((((((((hFz8_1).chg hCw26 (fun hs=>by have h:_=_:=hs;omega))).chg hCw27 (fun hs=>by have h:_=_:=hs;omega))).ext hEw28)).chg hCw29 (fun hs=>by have h:_=_:=hs;omega))).chg hCw30 (fun hs=>by have h:_=_:=hs;omega))).chg hCw31 (fun hs=>by have h:_=_:=hs;omega))
      have hX5:Ext w w31:=(Ext.own (Ext.own (Ext.own ((Ext.own (Ext.own ((Ext.own (((((hEw.book hBkw19 (by omega)).trans hEj).trans hEw21).trans hEw22).trans hEw23) hCw24 (by omega)).trans hEw25) hCw26 (by omega)) hCw27 (by omega)).trans hEw28) hCw29 (by omega)) hCw30 (by omega)) hCw31 (by omega))
      exact zr8 (((((((((((((Kpt.refl _).ext hEj).ext hEw21).ext hEw22).ext hEw23).blk hK38 hCw24).ext hEw25).blk hK40 hCw26).blk hK42 hCw27).ext hEw28).blk hK43 hCw29).blk hK45 hCw30).blk hK47 hCw31) (Chg.then (Chg.then (Chg.then ((Chg.then (Chg.then ((Chg.then (((((Chg.refl _ _).trans hEj.chg).trans hEw21.chg).trans hEw22.chg).trans hEw23.chg) hCw24 (fun k hk hs=>by have h:k=_:=hs;first |(left;omega)|(exfalso;omega)|(right;simp [h];done))).trans hEw25.chg) hCw26 (fun k hk hs=>by have h:k=_:=hs;first |(left;omega)|(exfalso;omega)|(right;simp [h];done))) hCw27 (fun k hk hs=>by have h:k=_:=hs;first |(left;omega)|(exfalso;omega)|(right;simp [h];done))).trans hEw28.chg) hCw29 (fun k hk hs=>by have h:k=_:=hs;first |(left;omega)|(exfalso;omega)|(right;simp [h];done))) hCw30 (fun k hk hs=>by have h:k=_:=hs;first |(left;omega)|(exfalso;omega)|(right;simp [h];done))) hCw31 (fun k hk hs=>by have h:k=_:=hs;first |(left;omega)|(exfalso;omega)|(right;simp [h];done))) (⟨rfl,a4,a5,by omega,by omega,((((hBw29).chg hCw30 (fun hs=>by have h:_=_:=hs;omega))).chg hCw31 (fun hs=>by have h:_=_:=hs;omega)),((hBw30).chg hCw31 (fun hs=>by have h:_=_:=hs;omega)),hBw31,hK48,hK49,hX5⟩)
     ·refine zV 57 w2.heap.size 0 57 (.slice (pA a4 0) (zbx (t.getD (num n (hgt n-k)+j) Nod.zero)) (zbx (t.getD (num n (hgt n-k)+j) Nod.zero))) ([(.slice (pA a4 0) (zbx (t.getD (num n (hgt n-k)+j) Nod.zero)) (zbx (t.getD (num n (hgt n-k)+j) Nod.zero)))]) hK43 (by first | decide |(simp;done)|(simp;omega)) ?_
      intro w32 hBw32 hCw32
      have hzw32:=hCw32.size
      replace hBw32:=hBw32.set1
      have hX6:Chg (fun k=>k=w2.heap.size∨k=w3.heap.size) w28 w32:=(Chg.then (Chg.refl (fun k=>k=w2.heap.size∨k=w3.heap.size) w28) hCw32 (fun k hk hs=>by have h:k=_:=hs;first | exact hs | exact .inl h | exact .inr h |(exfalso;omega)))
      refine ⟨.inr hX6, ?_⟩
      have hK50:=((((((hBw26).chg hCw27 (fun hs=>by have h:_=_:=hs;omega))).ext hEw28)).chg hCw32 (fun hs=>by have h:_=_:=hs;omega))
      refine zn 1 15 (zj (some 91) (Instr.loadAt 57 (vP w3.heap.size 0)) (.slice (pA a5 0) (zbx (u.getD (num n (hgt n-k)+j) Nod.zero)) (zbx (u.getD (num n (hgt n-k)+j) Nod.zero))) (zo (hK50.cell rfl)) ?_)
      refine ⟨.inr hX6, ?_⟩
      refine zn 4 31 (zV 57 w3.heap.size 0 57 (.slice (pA a5 0) (zbx (u.getD (num n (hgt n-k)+j) Nod.zero)) (zbx (u.getD (num n (hgt n-k)+j) Nod.zero))) ([(.slice (pA a5 0) (zbx (u.getD (num n (hgt n-k)+j) Nod.zero)) (zbx (u.getD (num n (hgt n-k)+j) Nod.zero)))]) hK50 (by first | decide |(simp;done)|(simp;omega)) ?_)
      intro w33 hBw33 hCw33
      have hzw33:=hCw33.size
      replace hBw33:=hBw33.set1
      have hX7:Chg (fun k=>k=w2.heap.size∨k=w3.heap.size) w28 w33:=(Chg.then (Chg.then (Chg.refl (fun k=>k=w2.heap.size∨k=w3.heap.size) w28) hCw32 (fun k hk hs=>by have h:k=_:=hs;first | exact hs | exact .inl h | exact .inr h |(exfalso;omega))) hCw33 (fun k hk hs=>by have h:k=_:=hs;first | exact hs | exact .inl h | exact .inr h |(exfalso;omega)))
      refine ⟨.inr hX7, ?_⟩
      have hK51:=(((((hBw27.ext hEw28)).chg hCw32 (fun hs=>by have h:_=_:=hs;omega))).chg hCw33 (fun hs=>by have h:_=_:=hs;omega))
      refine zn 5 63 (zV 34 w4.heap.size 0 34 (vI 0) ([(vI 0)]) hK51 (by first | decide |(simp;done)|(simp;omega)) ?_)
      have hK52:=(((((hBw27.ext hEw28)).chg hCw32 (fun hs=>by have h:_=_:=hs;omega))).chg hCw33 (fun hs=>by have h:_=_:=hs;omega))
      intro w34 hBw34 hCw34
      have hzw34:=hCw34.size
      replace hBw34:=hBw34.set1
      refine ⟨.inl (by kernel_rfl), ?_⟩
      refine zJ (zc (zx (zA (zu (zu (zA (zA ?_)))))))
      have hK53:=((((((((((((((((hFz7_1).chg hCw24 (fun hs=>by have h:_=_:=hs;omega))).ext hEw25)).chg hCw26 (fun hs=>by have h:_=_:=hs;omega))).chg hCw27 (fun hs=>by have h:_=_:=hs;omega))).ext hEw28)).chg hCw32 (fun hs=>by have h:_=_:=hs;omega))).chg hCw33 (fun hs=>by have h:_=_:=hs;omega))).chg hCw34 (fun hs=>by have h:_=_:=hs;omega))
      have hK54:=((((((((((((hFz8_1).chg hCw26 (fun hs=>by have h:_=_:=hs;omega))).chg hCw27 (fun hs=>by have h:_=_:=hs;omega))).ext hEw28)).chg hCw32 (fun hs=>by have h:_=_:=hs;omega))).chg hCw33 (fun hs=>by have h:_=_:=hs;omega))).chg hCw34 (fun hs=>by have h:_=_:=hs;omega))
      have hX8:Ext w w34:=(Ext.own (Ext.own (Ext.own ((Ext.own (Ext.own ((Ext.own (((((hEw.book hBkw19 (by omega)).trans hEj).trans hEw21).trans hEw22).trans hEw23) hCw24 (by omega)).trans hEw25) hCw26 (by omega)) hCw27 (by omega)).trans hEw28) hCw32 (by omega)) hCw33 (by omega)) hCw34 (by omega))
      exact zr8 (((((((((((((Kpt.refl _).ext hEj).ext hEw21).ext hEw22).ext hEw23).blk hK38 hCw24).ext hEw25).blk hK40 hCw26).blk hK42 hCw27).ext hEw28).blk hK43 hCw32).blk hK50 hCw33).blk hK52 hCw34) (Chg.then (Chg.then (Chg.then ((Chg.then (Chg.then ((Chg.then (((((Chg.refl _ _).trans hEj.chg).trans hEw21.chg).trans hEw22.chg).trans hEw23.chg) hCw24 (fun k hk hs=>by have h:k=_:=hs;first |(left;omega)|(exfalso;omega)|(right;simp [h];done))).trans hEw25.chg) hCw26 (fun k hk hs=>by have h:k=_:=hs;first |(left;omega)|(exfalso;omega)|(right;simp [h];done))) hCw27 (fun k hk hs=>by have h:k=_:=hs;first |(left;omega)|(exfalso;omega)|(right;simp [h];done))).trans hEw28.chg) hCw32 (fun k hk hs=>by have h:k=_:=hs;first |(left;omega)|(exfalso;omega)|(right;simp [h];done))) hCw33 (fun k hk hs=>by have h:k=_:=hs;first |(left;omega)|(exfalso;omega)|(right;simp [h];done))) hCw34 (fun k hk hs=>by have h:k=_:=hs;first |(left;omega)|(exfalso;omega)|(right;simp [h];done))) (⟨rfl,a4,a5,by omega,by omega,((((hBw32).chg hCw33 (fun hs=>by have h:_=_:=hs;omega))).chg hCw34 (fun hs=>by have h:_=_:=hs;omega)),((hBw33).chg hCw34 (fun hs=>by have h:_=_:=hs;omega)),hBw34,hK53,hK54,hX8⟩)
    ·refine zj (some 91) (Instr.loadAt 57 (vP w3.heap.size 0)) (.slice (pA a5 0) (zbx (u.getD (num n (hgt n-k)+j) Nod.zero)) (zbx (u.getD (num n (hgt n-k)+j) Nod.zero))) (zo (((((hBw26).chg hCw27 (fun hs=>by have h:_=_:=hs;omega))).ext hEw28).cell rfl)) (⟨.inr hX2, ?_⟩)
     have hK55:=(((((((hBw24.ext hEw25)).chg hCw26 (fun hs=>by have h:_=_:=hs;omega))).chg hCw27 (fun hs=>by have h:_=_:=hs;omega))).ext hEw28)
     refine zn 0 7 (zj (some 90) (Instr.loadAt 57 (vP w2.heap.size 0)) (.slice (pA a4 0) (zbx (t.getD (num n (hgt n-k)+j) Nod.zero)) (zbx (t.getD (num n (hgt n-k)+j) Nod.zero))) (zo (hK55.cell rfl)) ?_)
     refine ⟨.inr hX2, ?_⟩
     refine zn 3 15 (zV 57 w2.heap.size 0 57 (.slice (pA a4 0) (zbx (t.getD (num n (hgt n-k)+j) Nod.zero)) (zbx (t.getD (num n (hgt n-k)+j) Nod.zero))) ([(.slice (pA a4 0) (zbx (t.getD (num n (hgt n-k)+j) Nod.zero)) (zbx (t.getD (num n (hgt n-k)+j) Nod.zero)))]) hK55 (by first | decide |(simp;done)|(simp;omega)) ?_)
     intro w35 hBw35 hCw35
     have hzw35:=hCw35.size
     replace hBw35:=hBw35.set1
     have hX9:Chg (fun k=>k=w2.heap.size∨k=w3.heap.size) w28 w35:=(Chg.then (Chg.refl (fun k=>k=w2.heap.size∨k=w3.heap.size) w28) hCw35 (fun k hk hs=>by have h:k=_:=hs;first | exact hs | exact .inl h | exact .inr h |(exfalso;omega)))
     refine ⟨.inr hX9, ?_⟩
     have hK56:=((((((hBw26).chg hCw27 (fun hs=>by have h:_=_:=hs;omega))).ext hEw28)).chg hCw35 (fun hs=>by have h:_=_:=hs;omega))
     refine zn 4 31 (zV 57 w3.heap.size 0 57 (.slice (pA a5 0) (zbx (u.getD (num n (hgt n-k)+j) Nod.zero)) (zbx (u.getD (num n (hgt n-k)+j) Nod.zero))) ([(.slice (pA a5 0) (zbx (u.getD (num n (hgt n-k)+j) Nod.zero)) (zbx (u.getD (num n (hgt n-k)+j) Nod.zero)))]) hK56 (by first | decide |(simp;done)|(simp;omega)) ?_)
     have hK57:=((((((hBw26).chg hCw27 (fun hs=>by have h:_=_:=hs;omega))).ext hEw28)).chg hCw35 (fun hs=>by have h:_=_:=hs;omega))
     intro w36 hBw36 hCw36
     have hzw36:=hCw36.size
     replace hBw36:=hBw36.set1
     have hX10:Chg (fun k=>k=w2.heap.size∨k=w3.heap.size) w28 w36:=(Chg.then (Chg.then (Chg.refl (fun k=>k=w2.heap.size∨k=w3.heap.size) w28) hCw35 (fun k hk hs=>by have h:k=_:=hs;first | exact hs | exact .inl h | exact .inr h |(exfalso;omega))) hCw36 (fun k hk hs=>by have h:k=_:=hs;first | exact hs | exact .inl h | exact .inr h |(exfalso;omega)))
     refine ⟨.inr hX10, ?_⟩
     have hK58:=(((((hBw27.ext hEw28)).chg hCw35 (fun hs=>by have h:_=_:=hs;omega))).chg hCw36 (fun hs=>by have h:_=_:=hs;omega))
     refine zn 5 63 (zV 34 w4.heap.size 0 34 (vI 0) ([(vI 0)]) hK58 (by first | decide |(simp;done)|(simp;omega)) ?_)
     have hK59:=(((((hBw27.ext hEw28)).chg hCw35 (fun hs=>by have h:_=_:=hs;omega))).chg hCw36 (fun hs=>by have h:_=_:=hs;omega))
     intro w37 hBw37 hCw37
     have hzw37:=hCw37.size
     replace hBw37:=hBw37.set1
     refine ⟨.inl (by kernel_rfl), ?_⟩
     refine zJ (zc (zx (zA (zu (zu (zA (zA ?_)))))))
     have hK60:=((((((((((((((((hFz7_1).chg hCw24 (fun hs=>by have h:_=_:=hs;omega))).ext hEw25)).chg hCw26 (fun hs=>by have h:_=_:=hs;omega))).chg hCw27 (fun hs=>by have h:_=_:=hs;omega))).ext hEw28)).chg hCw35 (fun hs=>by have h:_=_:=hs;omega))).chg hCw36 (fun hs=>by have h:_=_:=hs;omega))).chg hCw37 (fun hs=>by have h:_=_:=hs;omega))
     have hK61:=((((((((((((hFz8_1).chg hCw26 (fun hs=>by have h:_=_:=hs;omega))).chg hCw27 (fun hs=>by have h:_=_:=hs;omega))).ext hEw28)).chg hCw35 (fun hs=>by have h:_=_:=hs;omega))).chg hCw36 (fun hs=>by have h:_=_:=hs;omega))).chg hCw37 (fun hs=>by have h:_=_:=hs;omega))
     have hX11:Ext w w37:=(Ext.own (Ext.own (Ext.own ((Ext.own (Ext.own ((Ext.own (((((hEw.book hBkw19 (by omega)).trans hEj).trans hEw21).trans hEw22).trans hEw23) hCw24 (by omega)).trans hEw25) hCw26 (by omega)) hCw27 (by omega)).trans hEw28) hCw35 (by omega)) hCw36 (by omega)) hCw37 (by omega))
     exact zr8 (((((((((((((Kpt.refl _).ext hEj).ext hEw21).ext hEw22).ext hEw23).blk hK38 hCw24).ext hEw25).blk hK40 hCw26).blk hK42 hCw27).ext hEw28).blk hK55 hCw35).blk hK57 hCw36).blk hK59 hCw37) (Chg.then (Chg.then (Chg.then ((Chg.then (Chg.then ((Chg.then (((((Chg.refl _ _).trans hEj.chg).trans hEw21.chg).trans hEw22.chg).trans hEw23.chg) hCw24 (fun k hk hs=>by have h:k=_:=hs;first |(left;omega)|(exfalso;omega)|(right;simp [h];done))).trans hEw25.chg) hCw26 (fun k hk hs=>by have h:k=_:=hs;first |(left;omega)|(exfalso;omega)|(right;simp [h];done))) hCw27 (fun k hk hs=>by have h:k=_:=hs;first |(left;omega)|(exfalso;omega)|(right;simp [h];done))).trans hEw28.chg) hCw35 (fun k hk hs=>by have h:k=_:=hs;first |(left;omega)|(exfalso;omega)|(right;simp [h];done))) hCw36 (fun k hk hs=>by have h:k=_:=hs;first |(left;omega)|(exfalso;omega)|(right;simp [h];done))) hCw37 (fun k hk hs=>by have h:k=_:=hs;first |(left;omega)|(exfalso;omega)|(right;simp [h];done))) (⟨rfl,a4,a5,by omega,by omega,((((hBw35).chg hCw36 (fun hs=>by have h:_=_:=hs;omega))).chg hCw37 (fun hs=>by have h:_=_:=hs;omega)),((hBw36).chg hCw37 (fun hs=>by have h:_=_:=hs;omega)),hBw37,hK60,hK61,hX11⟩)
   ·have heq:t.getD (num n (hgt n-k)+j) Nod.zero=u.getD (num n (hgt n-k)+j) Nod.zero:=by
     rcases Nat.lt_trichotomy (hgt n-k) l0 with h1 | h1 | h1
     ·omega
     ·have h2:=hjj h1;have h3:=hp14 j (by omega);unfold ndA at h3;rw [h1];exact h3
     ·exact hp13 (hgt n-k) h1 (by omega) j hjc
    refine zh hT702 10 2047 (some 71) vF (zl (bo .neq 47 (.tmp 65) (.tmp 70) (vA (zK (t.getD (num n (hgt n-k)+j) Nod.zero))) (vA (zK (u.getD (num n (hgt n-k)+j) Nod.zero)))) (fun w' hC=>zav (r:=true) (T:=47) ((zhl (dd:=9995) (N:=47) (R:=42) (E:=45) (r:=33) (en:=44) (t8:=5) (td:=23) (e:=5) (tn:=31) (t32:=28) (t64:=29) (t.getD (num n (hgt n-k)+j) Nod.zero) (u.getD (num n (hgt n-k)+j) Nod.zero)).trans (congrArg (fun b=>Result.ok b _) (show ((t.getD (num n (hgt n-k)+j) Nod.zero).eqb (u.getD (num n (hgt n-k)+j) Nod.zero))=true from (Nod.eqb_iff _ _).2 heq))))) (zJ (zc (zr (zy (zp (zc (ze (zb (zv (some 93) .i64 (IntKind.i64.wrap (((j:Nat):Int)+((1:Nat):Int))) (j+1) (zG (by omega) (by omega) (by omega)) ?_)))))))))
    refine zd 1 [(54,(vI (j+1)))] (zg (zC (zS (j+1) ?_ ?_)))
    ·exact ⟨by omega,by omega,((hEj.trans hEw21).trans hEw22)⟩
    ·first | omega |(dsimp only;omega)
  ·replace hc55:¬(j<cnt n (hgt n-k)):=by have:=zal hc55;omega
   have hkd:hgt n-k=l0→cnt n (hgt n-k)≤j0:=fun hh=>by have:=hjj hh;omega
   have hkn:hgt n-k≠l0:=fun hh=>by have h8:=hkd hh;rw [hh] at h8;omega
   have hkl:k<hgt n-l0:=by omega
   exact zg (zc (zf (zr (zaf (zH (zH (zT (zp (zfY ((Kpt.refl _).ext hEj) ((Chg.refl _ _).trans hEj.chg) (⟨by omega,((((hK2).book hBkw19)).ext hEj),((((hK3).book hBkw19)).ext hEj),((((hK7).book hBkw19)).ext hEj),((((hK4).book hBkw19)).ext hEj),((((hK5).book hBkw19)).ext hEj),((((hK6).book hBkw19)).ext hEj),((((hs1).book hBkw19)).ext hEj),((((hs2).book hBkw19)).ext hEj),((hEw.book hBkw19 (by omega)).trans hEj)⟩))))))))))
 ·rintro D w38 hD ⟨hkk,hK2,hK3,hK7,hK4,hK5,hK6,hs1,hs2,hEw⟩ hM
  have hK2l:=hK2.lt
  have hK3l:=hK3.lt
  have hK7l:=hK7.lt
  have hK4l:=hK4.lt
  have hK5l:=hK5.lt
  have hK6l:=hK6.lt
  have hzr:=hEw.size
  have hMl:=hM.lt
  refine zp (zc (zf (ze (zb (zV 57 w2.heap.size 0 57 (.slice none 0 0) ([(.slice none 0 0)]) hK4 (by first | decide |(simp;done)|(simp;omega)) ?_)))))
  intro w39 hBw39 hCw39
  have hzw39:=hCw39.size
  replace hBw39:=hBw39.set1
  refine zb (zV 57 w3.heap.size 0 57 (.slice none 0 0) ([(.slice none 0 0)]) ((hK5).chg hCw39 (fun hs=>by have h:_=_:=hs;omega)) (by first | decide |(simp;done)|(simp;omega)) ?_)
  intro w40 hBw40 hCw40
  have hzw40:=hCw40.size
  replace hBw40:=hBw40.set1
  refine zb (zV 34 w4.heap.size 0 34 (vI 11) ([(vI 0)]) ((((hK6).chg hCw39 (fun hs=>by have h:_=_:=hs;omega))).chg hCw40 (fun hs=>by have h:_=_:=hs;omega)) (by first | decide |(simp;done)|(simp;omega)) ?_)
  intro w41 hBw41 hCw41
  have hzw41:=hCw41.size
  replace hBw41:=hBw41.set1
  refine zg (zc (zx ?_))
  have hK62:=((((((hM).chg hCw39 (fun hs=>by have h:_=_:=hs;omega))).chg hCw40 (fun hs=>by have h:_=_:=hs;omega))).chg hCw41 (fun hs=>by have h:_=_:=hs;omega))
  obtain ⟨w42,hTw42,hCw42,hBkw42⟩:=ziE (P:=Tryz.prog) hK62
  have hzw42:=hCw42.size
  have hK63:=((((((hBw39).chg hCw40 (fun hs=>by have h:_=_:=hs;omega))).chg hCw41 (fun hs=>by have h:_=_:=hs;omega))).book hBkw42)
  refine zqU hTw42 (zgO (by kernel_rfl) (show zab Tryz.prog 94 _ _ (.cell 4 57) (.slice none 0 0) from ⟨⟨w2.heap.size,0,none⟩,(by kernel_rfl),zdt (T:=57) ((hK63).cell rfl)⟩) (show zab Tryz.prog 94 _ _ (.cell 5 57) (.slice none 0 0) from ⟨⟨w3.heap.size,0,none⟩,(by kernel_rfl),zdt (T:=57) ((((((hBw40).chg hCw41 (fun hs=>by have h:_=_:=hs;omega))).book hBkw42)).cell rfl)⟩) (show zab Tryz.prog 94 _ _ (.cell 6 34) (vI 11) from ⟨⟨w4.heap.size,0,none⟩,(by kernel_rfl),zdt (T:=34) ((((hBw41).book hBkw42)).cell rfl)⟩)) ?_
  exfalso;omega
 ·rintro D cc k w43 hD hk ⟨rfl,x,y,hx1,hy1,hK4,hK5,hK6,hBx,hBy,hEw⟩ hM
  have hzr:=hEw.size
  have hK4l:=hK4.lt;have hK5l:=hK5.lt;have hK6l:=hK6.lt;have hxl:=hBx.lt;have hyl:=hBy.lt
  have hMl:=hM.lt
  refine zx (zA (zu ?_))
  obtain ⟨w44,hTw44,hCw44,hBkw44⟩:=ziE (P:=Tryz.prog) hM
  have hzw44:=hCw44.size
  exact zqU hTw44 (zgO (by kernel_rfl) (show zab Tryz.prog 94 _ _ (.cell 4 57) (.slice (pA x 0) (zbx (t.getD (num n l0+j0) Nod.zero)) (zbx (t.getD (num n l0+j0) Nod.zero))) from ⟨⟨w2.heap.size,0,none⟩,(by kernel_rfl),zdt (T:=57) ((((hK4).book hBkw44)).cell rfl)⟩) (show zab Tryz.prog 94 _ _ (.cell 5 57) (.slice (pA y 0) (zbx (u.getD (num n l0+j0) Nod.zero)) (zbx (u.getD (num n l0+j0) Nod.zero))) from ⟨⟨w3.heap.size,0,none⟩,(by kernel_rfl),zdt (T:=57) ((((hK5).book hBkw44)).cell rfl)⟩) (show zab Tryz.prog 94 _ _ (.cell 6 34) (vI 0) from ⟨⟨w4.heap.size,0,none⟩,(by kernel_rfl),zdt (T:=34) ((((hK6).book hBkw44)).cell rfl)⟩)) (⟨_,_,rfl,by omega,((hBx).book hBkw44),(zqT _).symm,by unfold zbx;split<;>decide,by omega,((hBy).book hBkw44),(zqT _).symm,by unfold zbx;split<;>decide,(hEw.book hBkw44 (by omega))⟩)
end Go.Proofs.YtgdpdnokcnhgnaaGreatDoor
