/- Lemmas and walks: what each function does, by its own code. No condition beyond those of each statement. -/
import Derived.Test.YtgdpdnokcnhgnaaGreatDoorK1
import Derived.ProofKit
import Derived.OpenShut
import Derived.ChangeOld
import Derived.Deep.Slices
import Derived.LaidMore
import Derived.Stop.Joined
set_option linter.all false
set_option linter.unusedVariables false
namespace Go.Proofs.YtgdpdnokcnhgnaaGreatDoor
open Go Go.RowKit Go.Cs
set_option maxRecDepth 100000
set_option maxHeartbeats 8000000 in
theorem zko (n:Nat) {lo_l hi_l:Nat} {a_l:Option Addr} {n_l c_l:Nat} {l:List Rec} {lo_s hi_s:Nat} {a_s:Option Addr} {n_s c_s:Nat} {s:List Nat} (w:World) (h_l:Ms zt 35 lo_l hi_l w a_l n_l c_l l) (h_s:Es (nv .i64) lo_s hi_s w a_s n_s c_s s) (hp0:OkM l s) (hp1:n=n_l) (hg0:Gl 0 [vI 45,vI 33] w) (hg1:Gl 2 (w8C zbc) w) (hg2:Gl 3 (zV kA) w):
  Calls Tryz.prog 16 #[(vI n),(.slice a_l n_l c_l),(.slice a_s n_s c_s)] w (Ret fun r w'=>∃a1,r=(.tuple #[(vA [(vI n),(.slice a1 (tot n) (tot n))]),(vI 0)])∧OwM zN 274 w.heap.size w'.heap.size w' a1 (tot n) (tot n) 47 (zaf l s)∧Ext w w'):=by
 refine zK (n:=177) (σ:= [(0,(vI n)),(1,(.slice a_l n_l c_l)),(2,(.slice a_s n_s c_s))]) Tryz.func16 rfl ?_
 replace h_l:=h_l.now;have hle_l:=h_l.le
 replace h_s:=h_s.now;have hle_s:=h_s.le
 have hgl0:=hg0.lt
 have hgl1:=hg1.lt
 have hgl2:=hg2.lt
 have hlen:=h_l.len_eq
 have hls:=h_s.len_eq
 have hnl:n=l.length:=by omega
 have ho1:=hp0.n1;have ho2:=hp0.n2;have ho4:=hp0.len;rw [←hnl] at ho1 ho2 ho4
 have h5:=zay n
 have hts:=zcr ho2
 have hle:=h_l.le;have hle2:=h_s.le
 refine zf (ze (za (zz (some 6) (Instr.alloc 50 true (.tuple #[])) (vP w.heap.size 0) ([(vI 0),(.slice none 0 0)]) 50 ?_)))
 intro w1 hBw1 hEw1
 have hzw1:=hEw1.size;have hlw1:=hBw1.lt
 refine zd 1 [(7,(vI 0))] (zg (zb (zf (ze (zd 1 [(28,(vI n))] (za (zk (some 29) (ziM n _ (by omega) (by omega)) ?_)))))))
 rintro _ w2 ⟨a1,ca1,a2,ca2,rfl,hFz1_0,hFz1_1,hEw2⟩
 have hzw2:=hEw2.size
 have hlea1:=hFz1_0.le
 have hlea2:=hFz1_1.le
 refine zd 3 [(31,(vI 0)),(30,(vA [(vI n),(.slice a1 (hgt n+1) ca1),(.slice a2 (hgt n+1) ca2)])),(27,(.tuple #[(vA [(vI n),(.slice a1 (hgt n+1) ca1),(.slice a2 (hgt n+1) ca2)]),(vI 0)]))] (za (zz (some 8) (Instr.alloc 106 true (.tuple #[])) (vP w2.heap.size 0) ([(vI 0),(.slice none 0 0),(.slice none 0 0)]) 106 ?_))
 intro w3 hBw3 hEw3
 have hzw3:=hEw3.size;have hlw3:=hBw3.lt
 refine za (zE 106 w2.heap.size 0 106 (vA [(vI n),(.slice a1 (hgt n+1) ca1),(.slice a2 (hgt n+1) ca2)]) ([(vI 0),(.slice none 0 0),(.slice none 0 0)]) ([(vI n),(.slice a1 (hgt n+1) ca1),(.slice a2 (hgt n+1) ca2)]) hBw3 (by kernel_rfl) (by first | decide |(simp;done)|(simp;omega)) (by simp [Value.oneCell']) ?_)
 intro w4 hBw4 hCw4
 have hzw4:=hCw4.size
 rw [zq _ _ (by kernel_rfl)] at hBw4
 refine zd 1 [(9,(vI 0))] (zg (zb (zf (zf (ze (zd 1 [(32,(vI 0))] (za (zai (some 33) (((0:Nat):Int) !=((0:Nat):Int)) false (zaY (by omega)) ?_))))))))
 refine zg (zb (zn (zA (zb (zf (ze (zd 1 [(10,(.func (.func 46) #[] #[]))] (zg (zb ?_)))))))))
 refine zf (zf (ze (zd 3 [(38,(vI n)),(37,(vI n_l)),(36,(.slice a_l n_l c_l))] ?_)))
 have hK1:=(((((((h_s.ext hEw1)).ext hEw2)).ext hEw3)).chg hCw4 (fun k h1 h2 hs=>by have h:k=_:=hs;omega))
 have hIs:=(hK1).ints
 refine za (zai (some 39) (((n_l:Nat):Int) !=((n:Nat):Int)) false (zaY (by omega)) ?_)
 refine zd 3 [(42,(vI n_s)),(41,(.slice a_s n_s c_s)),(40,vF)] (za (zi (some 43) (Instr.loadAt 106 (vP w2.heap.size 0)) (vA [(vI n),(.slice a1 (hgt n+1) ca1),(.slice a2 (hgt n+1) ca2)]) (zI (vs:= [(vI n),(.slice a1 (hgt n+1) ca1),(.slice a2 (hgt n+1) ca2)]) (hBw4.all)) ?_))
 refine za (zk (some 44) (zfP n _ (((hFz1_0.ext hEw3)).chg hCw4 (fun k h1 h2 hs=>by have h:k=_:=hs;omega)) (((hFz1_1.ext hEw3)).chg hCw4 (fun k h1 h2 hs=>by have h:k=_:=hs;omega)) (by first | rfl | assumption) (by first | rfl | assumption) (by omega) (by omega)) ?_)
 rintro _ w5 ⟨rfl,hEw5⟩
 have hzw5:=hEw5.size
 refine za (zai (some 45) (((n_s:Nat):Int) !=((tot n:Nat):Int)) false (zaY (by omega)) ?_)
 refine zd 4 [(49,(.func (.func 46) #[] #[])),(48,(.slice a_s n_s c_s)),(47,vF),(46,vF)] (za (zk (some 50) (zqG _ (hIs.ext hEw5) (fun i=>by rw [zin];have:=hp0.sl i;omega)) ?_))
 rintro _ w6 ⟨rfl,hEw6⟩
 have hzw6:=hEw6.size
 refine zd 1 [(51,vF)] (zg (zb (zn (zA (zb (zf (zf (ze (zd 3 [(55,(vI 0)),(54,(vI n_l)),(53,(.slice a_l n_l c_l))] ?_)))))))))
 refine zg (zb (zJ (zaj (X:=Nat) (fun i=> [(55,(vI i))]) [7,12,13,56,57,58,59,60,61,62,63,64,65] (fun i w7=>i≤n_l∧Ext w6 w7) (fun i=>n_l-i) 0 (by kernel_rfl) ⟨Nat.zero_le _,Ext.refl _⟩ ?_)))
 rintro i dw7 w7 ⟨hi,hE0⟩
 have hz0:=hE0.size
 refine zf (ze (za (zG (some 56) (decide (((i:Nat):Int)<((n_l:Nat):Int))) (fun hc56=> ?_) (fun hc56=> ?_))))
 ·replace hc56:i<n_l:=by have:=zal hc56;omega
  refine zg (zb (zf (zx (zA (zb (zf (zJ (zf (ze ?_)))))))))
  obtain ⟨b1,o1,rfl⟩:=h_l.addr (by omega) (by decide)
  refine za (zi (some 57) (Instr.indexAt 39 (.slice (pA b1 o1) n_l c_l) (vI i)) (vP b1 (o1+i*35)) (zap (E:=33) (sz:=35) (by omega)) ?_)
  have hK2:=(((((((((((((h_l.ext hEw1)).ext hEw2)).ext hEw3)).chg hCw4 (fun k h1 h2 hs=>by have h:k=_:=hs;omega))).ext hEw5)).ext hEw6)).ext hE0)
  refine za (zi (some 58) (Instr.loadAt 33 (vP b1 (o1+i*35))) (vA (zt (l.getD i Rec.zero))) (zI (vs:=zt (l.getD i Rec.zero)) (hK2.at Rec.zero (by omega)) (by rw [zO];kernel_rfl)) ?_)
  refine za (zz (some 12) (Instr.alloc 33 true (.tuple #[])) (vP w7.heap.size 0) (zt Rec.zero) 33 ?_)
  intro w8 hBw8 hEw8
  have hzw8:=hEw8.size;have hlw8:=hBw8.lt
  refine za (zE 33 w7.heap.size 0 33 (vA (zt (l.getD i Rec.zero))) (zt Rec.zero) (zt (l.getD i Rec.zero)) hBw8 (by rw [zO];kernel_rfl) (by first |(simp;done)|(simp;omega)) (zau _) ?_)
  intro w9 hBw9 hCw9
  have hzw9:=hCw9.size
  rw [zq _ _ (by simp)] at hBw9
  refine zg (zb (zf (ze (za (zi (some 59) (Instr.loadAt 33 (vP w7.heap.size 0)) (vA (zt (l.getD i Rec.zero))) (zI (vs:=zt (l.getD i Rec.zero)) (hBw9.all) (by rw [zO];kernel_rfl)) ?_)))))
  refine za (zk (some 60) (zeo (l.getD i Rec.zero) _) ?_)
  rintro _ w10 ⟨rfl,hEw10⟩
  have hzw10:=hEw10.size
  rw [show zao (l.getD i Rec.zero)=0 from hp0.rc i (by omega)]
  refine zd 1 [(13,(vI 0))] (zg (zb (zf (ze (zd 1 [(61,(vI 0))] (za (zai (some 62) (((0:Nat):Int) !=((0:Nat):Int)) false (zaY (by omega)) ?_)))))))
  refine zg (zb (zn (zA (zr (zb (ze (za (zB (some 65) .i64 (IntKind.i64.wrap (((i:Nat):Int)+((1:Nat):Int))) (i+1) (zF (by omega) (by omega) (by omega)) ?_))))))))
  refine zd 1 [(55,(vI (i+1)))] (zg (zD ?_))
  have hX1:Ext w6 w10:=((Ext.own (hE0.trans hEw8) hCw9 (by omega)).trans hEw10)
  refine zR (i+1) ?_ ?_
  ·exact ⟨by omega,hX1⟩
  ·first | omega |(dsimp only;omega)
 ·replace hc56:¬(i<n_l):=by have:=zak hc56;omega
  refine zg (zb (zf (zn (zag (zH (zH (zT (zb (zf ?_)))))))))
  refine ze (zd 1 [(66,(vI n))] ?_)
  have hK3:=(((((hBw4.ext hEw5)).ext hEw6)).ext hE0)
  refine za (zi (some 67) (Instr.loadAt 106 (vP w2.heap.size 0)) (vA [(vI n),(.slice a1 (hgt n+1) ca1),(.slice a2 (hgt n+1) ca2)]) (zI (vs:= [(vI n),(.slice a1 (hgt n+1) ca1),(.slice a2 (hgt n+1) ca2)]) (hK3.all)) ?_)
  have hK4:=(((((((((hFz1_0.ext hEw3)).chg hCw4 (fun k h1 h2 hs=>by have h:k=_:=hs;omega))).ext hEw5)).ext hEw6)).ext hE0)
  have hK5:=(((((((((hFz1_1.ext hEw3)).chg hCw4 (fun k h1 h2 hs=>by have h:k=_:=hs;omega))).ext hEw5)).ext hEw6)).ext hE0)
  refine za (zk (some 68) (zfP n _ hK4 hK5 (by first | rfl | assumption) (by first | rfl | assumption) (by omega) (by omega)) ?_)
  rintro _ w11 ⟨rfl,hEw11⟩
  have hzw11:=hEw11.size
  refine za (zdM (some 69) 24 47 274 368 (tot n) (tot n) .i64 .i64 (vA (zN Nod.zero)) (by omega) (by omega) (by omega) ?_)
  rw [zgd (f:=zN) (x:=Nod.zero) rfl (zac _) (by decide)]
  intro w12 hBw12 hEw12
  have hzw12:=hEw12.size;have hlw12:=hBw12.lt
  have hmw12:Ms zN 274 w11.heap.size (w11.heap.size+1) w12 (pA w11.heap.size 0) (tot n) (tot n) (List.replicate (tot n) Nod.zero):=Ms.of_pre (r:= []) (by rw [List.append_nil];exact hBw12) zac (by simp) (Nat.le_refl _) (by simp only [maxLen];omega) (Nat.le_refl _) (Nat.lt_succ_self _)
  refine zd 1 [(70,(vA [(vI n),(.slice (pA w11.heap.size 0) (tot n) (tot n))]))] (za (zz (some 14) (Instr.alloc 50 true (.tuple #[])) (vP w12.heap.size 0) ([(vI 0),(.slice none 0 0)]) 50 ?_))
  intro w13 hBw13 hEw13
  have hzw13:=hEw13.size;have hlw13:=hBw13.lt
  refine za (zE 50 w12.heap.size 0 50 (vA [(vI n),(.slice (pA w11.heap.size 0) (tot n) (tot n))]) ([(vI 0),(.slice none 0 0)]) ([(vI n),(.slice (pA w11.heap.size 0) (tot n) (tot n))]) hBw13 (by kernel_rfl) (by first | decide |(simp;done)|(simp;omega)) (by simp [Value.oneCell']) ?_)
  intro w14 hBw14 hCw14
  have hzw14:=hCw14.size
  rw [zq _ _ (by kernel_rfl)] at hBw14
  refine zg (zb (zf (zf (ze (zd 1 [(71,(vP w2.heap.size 1))] ?_)))))
  have hK6:=(((((((hK3.ext hEw11)).ext hEw12)).ext hEw13)).chg hCw14 (fun hs=>by have h:_=_:=hs;omega))
  refine za (zi (some 72) (Instr.loadAt 40 (vP w2.heap.size 1)) (.slice a1 (hgt n+1) ca1) (zo (hK6.cell rfl)) ?_)
  refine zd 2 [(74,(vI 0)),(73,(vI (hgt n+1)))] (zg (zb (zJ ?_)))
  have hK7:=(((((((((((((((((((hBw1.ext hEw2)).ext hEw3)).chg hCw4 (fun hs=>by have h:_=_:=hs;omega))).ext hEw5)).ext hEw6)).ext hE0)).ext hEw11)).ext hEw12)).ext hEw13)).chg hCw14 (fun hs=>by have h:_=_:=hs;omega))
  have hK8:=(((((((hK4.ext hEw11)).ext hEw12)).ext hEw13)).chg hCw14 (fun k h1 h2 hs=>by have h:k=_:=hs;omega))
  have hK9:=(((((((hK5.ext hEw11)).ext hEw12)).ext hEw13)).chg hCw14 (fun k h1 h2 hs=>by have h:k=_:=hs;omega))
  have hX2:Ext w w14:=(Ext.own (((((((Ext.own ((hEw1.trans hEw2).trans hEw3) hCw4 (by omega)).trans hEw5).trans hEw6).trans hE0).trans hEw11).trans hEw12).trans hEw13) hCw14 (by omega))
  refine zaj (X:=Nat) (fun v=> [(74,(vI v))]) [15,16,17,75,76,77,78,79,80,81,82,83,84,85,86,87,88,89,90,91,92,93,94,95,96] (fun v w15=>v≤hgt n+1∧Blk w15 w11.heap.size ((TX n (gF v 0)).flatMap zN) 47∧Blk w15 w.heap.size ([(vI 0),(.slice none 0 0)]) 50∧Blk w15 w2.heap.size ([(vI n),(.slice a1 (hgt n+1) ca1),(.slice a2 (hgt n+1) ca2)]) 106∧Blk w15 w12.heap.size ([(vI n),(.slice (pA w11.heap.size 0) (tot n) (tot n))]) 50∧Es (nv .i64) w1.heap.size w2.heap.size w15 a1 (hgt n+1) ca1 (zbn n (hgt n+1))∧Es (nv .i64) w1.heap.size w2.heap.size w15 a2 (hgt n+1) ca2 (zcO n (hgt n+1))∧Ext w w15) (fun v=>hgt n+1-v) 0 (by kernel_rfl) ⟨Nat.zero_le _,by rw [←zpq];exact (((hBw12.ext hEw13)).chg hCw14 (fun hs=>by have h:_=_:=hs;omega)),hK7,hK6,hBw14,hK8,hK9,hX2⟩ ?_
  rintro v dw15 w15 ⟨hv,hR1,hkhR16,hkhR18,hkhR114,hs1hR1,hs2hR1,hEhR1⟩
  have hzhR1:=hEhR1.size;have hlhR1:=hR1.lt
  have hmhR1:=Ms.of_row hR1 zac (len:=tot n) (zbi _ _).symm (by simp only [maxLen];omega)
  have hlkhR16:=hkhR16.lt
  have hlkhR18:=hkhR18.lt
  have hlkhR114:=hkhR114.lt
  have hcn:=zcN n v
  have hgc:v<hgt n+1→gt (zbn n (hgt n+1)) v=cnt n v:=fun hh=>zfs hh
  refine zf (ze (za (zG (some 75) (decide (((v:Nat):Int)<((hgt n+1:Nat):Int))) (fun hc75=> ?_) (fun hc75=> ?_))))
  ·replace hc75:v<hgt n+1:=by have:=zal hc75;omega
   replace hgc:=hgc (by omega)
   refine zg (zb (zf (zx (zA (zb (zf (zJ (zf (ze ?_)))))))))
   refine zd 1 [(76,(vI v))] ?_
   obtain ⟨b2,o2,rfl⟩:=hs1hR1.addr (by omega)
   refine za (zi (some 77) (Instr.indexAt 40 (.slice (pA b2 o2) (hgt n+1) ca1) (vI v)) (vP b2 (o2+v*1)) (zap (E:=3) (sz:=1) (by omega)) ?_)
   refine za (zi (some 78) (Instr.loadAt 3 (vP b2 (o2+v*1))) (vI (gt (zbn n (hgt n+1)) v)) (zo (hs1hR1.celln (by omega))) ?_)
   refine zd 2 [(16,(vI (gt (zbn n (hgt n+1)) v))),(15,(vI v))] (zg (zb (zf (ze (zd 2 [(80,(vI 0)),(79,(vI (gt (zbn n (hgt n+1)) v)))] (zg (zb (zJ (zaj (X:=Nat) (fun j=> [(80,(vI j))]) [17,81,82,83,84,85,86,87,88,89,90,91,92,93,94,95] (fun j w16=>j≤cnt n v∧Blk w16 w11.heap.size ((TX n (gF v j)).flatMap zN) 47∧Blk w16 w.heap.size ([(vI 0),(.slice none 0 0)]) 50∧Blk w16 w2.heap.size ([(vI n),(.slice (pA b2 o2) (hgt n+1) ca1),(.slice a2 (hgt n+1) ca2)]) 106∧Blk w16 w12.heap.size ([(vI n),(.slice (pA w11.heap.size 0) (tot n) (tot n))]) 50∧Es (nv .i64) w1.heap.size w2.heap.size w16 (pA b2 o2) (hgt n+1) ca1 (zbn n (hgt n+1))∧Es (nv .i64) w1.heap.size w2.heap.size w16 a2 (hgt n+1) ca2 (zcO n (hgt n+1))∧Ext w w16) (fun j=>cnt n v-j) 0 (by kernel_rfl) ⟨Nat.zero_le _,by exact hR1,hkhR16,hkhR18,hkhR114,hs1hR1,hs2hR1,hEhR1⟩ ?_)))))))))
   rintro j dw16 w16 ⟨hj,hR2,hkhR26,hkhR28,hkhR214,hs1hR2,hs2hR2,hEhR2⟩
   have hzhR2:=hEhR2.size;have hlhR2:=hR2.lt
   have hmhR2:=Ms.of_row hR2 zac (len:=tot n) (zbi _ _).symm (by simp only [maxLen];omega)
   have hlkhR26:=hkhR26.lt
   have hlkhR28:=hkhR28.lt
   have hlkhR214:=hkhR214.lt
   refine zf (ze (za (zG (some 81) (decide (((j:Nat):Int)<((gt (zbn n (hgt n+1)) v:Nat):Int))) (fun hc81=> ?_) (fun hc81=> ?_))))
   ·replace hc81:j<gt (zbn n (hgt n+1)) v:=by have:=zal hc81;omega
    have hjc:j<cnt n v:=by omega
    have hpl:=zbx (n:=n) (l:=v) (j:=j) (by omega) hjc
    refine zg (zb (zf (zx (zA (zb (zf (zJ (zf (ze ?_)))))))))
    refine zd 2 [(17,(vI j)),(82,(vI j))] (zg (zb (zah (Ext w16.drew) 13 [(84,16384,0),(85,9671406556917033397649408,1),(86,256,0),(87,32768,0),(88,131072,0),(89,270799383593676935134183424,28),(90,32768,0),(91,618970019642690137449562112,64),(92,131072,0),(93,2475880078570760549798248448,256),(94,6189700196426901374495621120,672),(95,328827822935179135520079872,2047),(0,29710560942849126597578981376,4095)] (fun hT259=> ?_))))
    have hEw17:Ext w16 w16.drew:=Ext.drew w16
    generalize w16.drew=w17 at hEw17⊢
    have hzw17:=hEw17.size
    refine zl hT259 [(0,83,(vP w12.heap.size 1))] 1 1 (zh hT259 1 3 (some 84) (.slice (pA w11.heap.size 0) (tot n) (tot n)) (zm (Instr.loadAt 24 (vP w12.heap.size 1)) (fun w' hC=>zo (((hkhR214.ext hEw17).ext hC).cell rfl))) (zh hT259 2 7 (some 85) (vA [(vI n),(.slice (pA b2 o2) (hgt n+1) ca1),(.slice a2 (hgt n+1) ca2)]) (zm (Instr.loadAt 106 (vP w2.heap.size 0)) (fun w' hC=>zI (vs:= [(vI n),(.slice (pA b2 o2) (hgt n+1) ca1),(.slice a2 (hgt n+1) ca2)]) (((hkhR28.ext hEw17).ext hC).all))) (zl hT259 [(3,86,(vI v)),(4,87,(vI j)),(6,89,(vI v))] 3 95 (zh hT259 7 223 (some 90) (vB v) (zw .u8 (IntKind.u8.wrap ((v:Nat):Int)) (zbh rfl rfl (by show _<2^8;omega))) (zl hT259 [(8,91,(vI j))] 1 479 (zh hT259 9 991 (some 92) (vW j) (zw .u32 (IntKind.u32.wrap ((j:Nat):Int)) (zbh rfl rfl (by show _<2^32;omega))) (zu 5 1023 (zk (some 88) (zcE n v j _ (hs1hR2.ext hEw17) (hs2hR2.ext hEw17) (by first | rfl | assumption) (by first | rfl | assumption) (by omega) (by omega) (by omega) (by omega)) ?_))))))))
    rintro _ w18 ⟨rfl,hEw18⟩
    have hzw18:=hEw18.size
    refine ⟨.inr hEw18, ?_⟩
    refine zu 10 2047 (zk (some 93) (zpv v j _ (by omega) (by omega)) ?_)
    rintro _ w19 ⟨rfl,hEw19⟩
    have hzw19:=hEw19.size
    refine ⟨.inr (hEw18.trans hEw19), ?_⟩
    refine zh (hw:=show Ext w17 w19 from (hEw18.trans hEw19)) hT259 11 4095 (some 94) (vP w11.heap.size (0+(num n v+j)*274)) (zm (Instr.indexAt 24 (.slice (pA w11.heap.size 0) (tot n) (tot n)) (vI (num n v+j))) (fun w' hC=>zap (E:=47) (sz:=274) (by omega))) ?_
    have hK10:=(((((hR2.ext hEw17)).ext hEw18)).ext hEw19)
    refine zu 12 8191 (zE 47 w11.heap.size (0+(num n v+j)*274) 47 (vA (zN (Nod.mt v j))) ((TX n (gF v j)).flatMap zN) (zN (Nod.mt v j)) hK10 (by rw [zac];kernel_rfl) (by rw [zaL zac];(try simp only [List.length_cons,List.length_nil,List.length_set]);have:=(show List.length (TX n (gF v j))=tot n from zbi _ _);have hln:=zac (Nod.mt v j);omega) (zcH _) ?_)
    have hK11:=(((((hR2.ext hEw17)).ext hEw18)).ext hEw19)
    intro w20 hBw20 hCw20
    have hzw20:=hCw20.size
    rw [show (zad ((TX n (gF v j)).flatMap zN) (0+(num n v+j)*274) (zN (Nod.mt v j)):List Value)=(TX n (gF v (j+1))).flatMap zN from (zbW zac _ _ _ (by rw [zbi];try omega)).trans (congrArg (fun z=>List.flatMap zN z) (show ((TX n (gF v j)).set (num n v+j) (Nod.mt v j))=(TX n (gF v (j+1))) from zq8 (by omega) hjc))] at hBw20
    have hmw20:Ms zN 274 w11.heap.size (w11.heap.size+1) w20 (pA w11.heap.size 0) (tot n) (tot n) (TX n (gF v (j+1))):=Ms.of_pre (r:= []) (by rw [List.append_nil];exact hBw20) zac (by rw [zbi];try omega) (by omega) (by simp only [maxLen];omega) (by omega) (by omega)
    refine ⟨.inl (by kernel_rfl), ?_⟩
    refine zL (zr (zb (ze (za (zB (some 95) .i64 (IntKind.i64.wrap (((j:Nat):Int)+((1:Nat):Int))) (j+1) (zF (by omega) (by omega) (by omega)) ?_)))))
    refine zd 1 [(80,(vI (j+1)))] (zg (zD ?_))
    have hK12:=(((((((hkhR26.ext hEw17)).ext hEw18)).ext hEw19)).chg hCw20 (fun hs=>by have h:_=_:=hs;omega))
    have hK13:=(((((((hkhR28.ext hEw17)).ext hEw18)).ext hEw19)).chg hCw20 (fun hs=>by have h:_=_:=hs;omega))
    have hK14:=(((((((hkhR214.ext hEw17)).ext hEw18)).ext hEw19)).chg hCw20 (fun hs=>by have h:_=_:=hs;omega))
    have hK15:=(((((((hs1hR2.ext hEw17)).ext hEw18)).ext hEw19)).chg hCw20 (fun k h1 h2 hs=>by have h:k=_:=hs;omega))
    have hK16:=(((((((hs2hR2.ext hEw17)).ext hEw18)).ext hEw19)).chg hCw20 (fun k h1 h2 hs=>by have h:k=_:=hs;omega))
    have hX3:Ext w w20:=(Ext.own (((hEhR2.trans hEw17).trans hEw18).trans hEw19) hCw20 (by omega))
    refine zR (j+1) ?_ ?_
    ·exact ⟨by omega,by exact hBw20,hK12,hK13,hK14,hK15,hK16,hX3⟩
    ·first | omega |(dsimp only;omega)
   ·replace hc81:¬(j<gt (zbn n (hgt n+1)) v):=by have:=zak hc81;omega
    obtain rfl:j=cnt n v:=by omega
    refine zg (zb (zf (zn (zag (zH (zH (zT (zr (zb ?_)))))))))
    refine ze (za (zB (some 96) .i64 (IntKind.i64.wrap (((v:Nat):Int)+((1:Nat):Int))) (v+1) (zF (by omega) (by omega) (by omega)) ?_))
    refine zd 1 [(74,(vI (v+1)))] (zg (zD (zR (v+1) ?_ ?_)))
    ·exact ⟨by omega,by rw [←zn4];exact hR2,hkhR26,hkhR28,hkhR214,hs1hR2,hs2hR2,hEhR2⟩
    ·first | omega |(dsimp only;omega)
  ·replace hc75:¬(v<hgt n+1):=by have:=zak hc75;omega
   obtain rfl:v=hgt n+1:=by omega
   refine zg (zb (zf (zn (zag (zH (zH (zT (zb (zf ?_)))))))))
   refine zf (ze (zd 3 [(99,(vI 0)),(98,(vI n_l)),(97,(.slice a_l n_l c_l))] (zg (zb (zJ (zaj (X:=Nat) (fun i=> [(99,(vI i))]) [18,19,100,101,102,103,104,105,106,107,108,109,110,111,112,113,114] (fun i w21=>i≤n∧Blk w21 w11.heap.size ((TX n (gB l s i 1 0)).flatMap zN) 47∧Blk w21 w.heap.size ([(vI 0),(.slice none 0 0)]) 50∧Blk w21 w2.heap.size ([(vI n),(.slice a1 (hgt n+1) ca1),(.slice a2 (hgt n+1) ca2)]) 106∧Blk w21 w12.heap.size ([(vI n),(.slice (pA w11.heap.size 0) (tot n) (tot n))]) 50∧Es (nv .i64) w1.heap.size w2.heap.size w21 a1 (hgt n+1) ca1 (zbn n (hgt n+1))∧Es (nv .i64) w1.heap.size w2.heap.size w21 a2 (hgt n+1) ca2 (zcO n (hgt n+1))∧Ext w w21) (fun i=>n-i) 0 (by kernel_rfl) ⟨Nat.zero_le _,by rw [←zpE l s];exact hR1,hkhR16,hkhR18,hkhR114,hs1hR1,hs2hR1,hEhR1⟩ ?_))))))
   rintro i dw21 w21 ⟨hi,hR3,hkhR36,hkhR38,hkhR314,hs1hR3,hs2hR3,hEhR3⟩
   have hzhR3:=hEhR3.size;have hlhR3:=hR3.lt
   have hmhR3:=Ms.of_row hR3 zac (len:=tot n) (zbi _ _).symm (by simp only [maxLen];omega)
   have hlkhR36:=hkhR36.lt
   have hlkhR38:=hkhR38.lt
   have hlkhR314:=hkhR314.lt
   refine zf (ze (za (zG (some 100) (decide (((i:Nat):Int)<((n_l:Nat):Int))) (fun hc100=> ?_) (fun hc100=> ?_))))
   ·replace hc100:i<n_l:=by have:=zal hc100;omega
    have hi4:i/4<cnt n 0:=zbC (n:=n) (i:=i) (by omega) 0
    have hpl:=zbx (n:=n) (l:=0) (j:=i/4) (by omega) hi4
    refine zg (zb (zf (zx (zA (zb (zf (zJ (zf (ze ?_)))))))))
    refine zd 1 [(101,(vI i))] ?_
    obtain ⟨b3,o3,rfl⟩:=h_l.addr (by omega) (by decide)
    refine za (zi (some 102) (Instr.indexAt 39 (.slice (pA b3 o3) n_l c_l) (vI i)) (vP b3 (o3+i*35)) (zap (E:=33) (sz:=35) (by omega)) ?_)
    refine za (zi (some 103) (Instr.loadAt 33 (vP b3 (o3+i*35))) (vA (zt (l.getD i Rec.zero))) (zI (vs:=zt (l.getD i Rec.zero)) ((h_l.ext hEhR3).at Rec.zero (by omega)) (by rw [zO];kernel_rfl)) ?_)
    refine za (zz (some 19) (Instr.alloc 33 true (.tuple #[])) (vP w21.heap.size 0) (zt Rec.zero) 33 ?_)
    intro w22 hBw22 hEw22
    have hzw22:=hEw22.size;have hlw22:=hBw22.lt
    refine zd 1 [(18,(vI i))] (za (zE 33 w21.heap.size 0 33 (vA (zt (l.getD i Rec.zero))) (zt Rec.zero) (zt (l.getD i Rec.zero)) hBw22 (by rw [zO];kernel_rfl) (by first |(simp;done)|(simp;omega)) (zau _) ?_))
    intro w23 hBw23 hCw23
    have hzw23:=hCw23.size
    rw [zq _ _ (by simp)] at hBw23
    refine zg (zb (zah (Chg (fun k=>k=w11.heap.size) w23.drew) 11 [(105,16384,0),(106,20282409603651670423947251286016,1),(107,262144,0),(108,81129638414606681695789005144064,4),(109,262144,0),(110,324518553658426726783156020576256,16),(111,524288,0),(112,202824096036516704239472512860160,10),(113,2596148429267413814265248164610048,128),(114,5841333965851681082096808370372608,383),(0,11682667931703362164193616740745216,639)] (fun hT379=> ?_)))
    have hEw24:Ext w23 w23.drew:=Ext.drew w23
    generalize w23.drew=w24 at hEw24⊢
    have hzw24:=hEw24.size
    refine zl (hw:=show Chg (fun k=>k=w11.heap.size) w24 w24 from (Chg.refl (fun k=>k=w11.heap.size) w24)) hT379 [(0,104,(vP w12.heap.size 1))] 1 1 ?_
    have hK17:=(((((hkhR314.ext hEw22)).chg hCw23 (fun hs=>by have h:_=_:=hs;omega))).ext hEw24)
    refine zh (hw:=show Chg (fun k=>k=w11.heap.size) w24 w24 from (Chg.refl (fun k=>k=w11.heap.size) w24)) hT379 1 3 (some 105) (.slice (pA w11.heap.size 0) (tot n) (tot n)) (zm (Instr.loadAt 24 (vP w12.heap.size 1)) (fun w' hC=>zo ((hK17.chg hC (fun hs=>by have h:_=_:=hs;omega)).cell rfl))) (zl (hw:=show Chg (fun k=>k=w11.heap.size) w24 w24 from (Chg.refl (fun k=>k=w11.heap.size) w24)) hT379 [(2,106,(vI i))] 1 7 (zh (hw:=show Chg (fun k=>k=w11.heap.size) w24 w24 from (Chg.refl (fun k=>k=w11.heap.size) w24)) hT379 3 15 (some 107) (vI (i/4)) (zw .i64 (IntKind.i64.wrap (((i:Nat):Int).tdiv ((4:Nat):Int))) (zF (zej _ _) (by omega) (by omega))) (zl (hw:=show Chg (fun k=>k=w11.heap.size) w24 w24 from (Chg.refl (fun k=>k=w11.heap.size) w24)) hT379 [(4,108,(vI i))] 1 31 (zh (hw:=show Chg (fun k=>k=w11.heap.size) w24 w24 from (Chg.refl (fun k=>k=w11.heap.size) w24)) hT379 5 63 (some 109) (vI (i%4)) (zw .i64 (((i:Nat):Int).tmod ((4:Nat):Int)) (zb3 _ _)) (zh (hw:=show Chg (fun k=>k=w11.heap.size) w24 w24 from (Chg.refl (fun k=>k=w11.heap.size) w24)) hT379 6 127 (some 110) (vA (zt (l.getD i Rec.zero))) (zm (Instr.loadAt 33 (vP w21.heap.size 0)) (fun w' hC=>zI (vs:=zt (l.getD i Rec.zero)) (((hBw23.ext hEw24).chg hC (fun hs=>by have h:_=_:=hs;omega)).all) (by rw [zO];kernel_rfl))) ?_)))))
    refine zh (hw:=show Chg (fun k=>k=w11.heap.size) w24 w24 from (Chg.refl (fun k=>k=w11.heap.size) w24)) hT379 7 255 (some 111) (vP w11.heap.size (0+(i/4)*274)) (zm (Instr.indexAt 24 (.slice (pA w11.heap.size 0) (tot n) (tot n)) (vI (i/4))) (fun w' hC=>zap (E:=47) (sz:=274) (by omega))) (zl (hw:=show Chg (fun k=>k=w11.heap.size) w24 w24 from (Chg.refl (fun k=>k=w11.heap.size) w24)) hT379 [(8,112,(vP w11.heap.size (0+(i/4)*274+2)))] 1 511 (zh (hw:=show Chg (fun k=>k=w11.heap.size) w24 w24 from (Chg.refl (fun k=>k=w11.heap.size) w24)) hT379 9 1023 (some 113) (vP w11.heap.size (0+(i/4)*274+2+(i%4)*35)) (zm (Instr.indexAt 42 (vP w11.heap.size (0+(i/4)*274+2)) (vI (i%4))) (fun w' hC=>zW (E:=33) (sz:=35) (m:=4) (by omega))) ?_))
    have hK18:=(((((hR3.ext hEw22)).chg hCw23 (fun hs=>by have h:_=_:=hs;omega))).ext hEw24)
    refine zu 10 2047 (zE 33 w11.heap.size (0+(i/4)*274+2+(i%4)*35) 47 (vA (zt (l.getD i Rec.zero))) ((TX n (gB l s i 1 0)).flatMap zN) (zt (l.getD i Rec.zero)) hK18 (by rw [zO];kernel_rfl) (by (try simp only [List.length_append]);rw [zaL zac];have:=(show List.length (TX n (gB l s i 1 0))=tot n from zbi _ _);have hq:i/4<List.length (TX n (gB l s i 1 0)):=(by rw [zbi];try omega);rw [zO];omega) (zau _) ?_)
    have hK19:=(((((hR3.ext hEw22)).chg hCw23 (fun hs=>by have h:_=_:=hs;omega))).ext hEw24)
    intro w25 hBw25 hCw25
    have hzw25:=hCw25.size
    rw [show (zad ((TX n (gB l s i 1 0)).flatMap zN) (0+(i/4)*274+2+(i%4)*35) (zt (l.getD i Rec.zero)):List Value)=(TX n (gB l s (i+1) 1 0)).flatMap zN from ((show zad ((TX n (gB l s i 1 0)).flatMap zN) (0+(i/4)*274+2+(i%4)*35) (zt (l.getD i Rec.zero))=((TX n (gB l s i 1 0)).set (i/4) (((TX n (gB l s i 1 0)).getD (i/4) Nod.zero).setR (i%4) (l.getD i Rec.zero))).flatMap zN from by have hz:=(zfS zac Nod.zero (((TX n (gB l s i 1 0)).getD (i/4) Nod.zero).setR (i%4) (l.getD i Rec.zero)) (TX n (gB l s i 1 0)) (i/4) (2+(i%4)*35) (zt (l.getD i Rec.zero)) [] (by rw [zbi];try omega) (nod_setR (by omega)) (by rw [zO];omega));rw [List.append_nil,List.append_nil] at hz;rw [show 0+(i/4)*274+2+(i%4)*35=(i/4)*274+(2+(i%4)*35) from by omega];exact hz)).trans (congrArg (fun z=>List.flatMap zN z) (show ((TX n (gB l s i 1 0)).set (i/4) (((TX n (gB l s i 1 0)).getD (i/4) Nod.zero).setR (i%4) (l.getD i Rec.zero)))=(TX n (gB l s (i+1) 1 0)) from zpi hi4))] at hBw25
    have hmw25:Ms zN 274 w11.heap.size (w11.heap.size+1) w25 (pA w11.heap.size 0) (tot n) (tot n) (TX n (gB l s (i+1) 1 0)):=Ms.of_pre (r:= []) (by rw [List.append_nil];exact hBw25) zac (by rw [zbi];try omega) (by omega) (by simp only [maxLen];omega) (by omega) (by omega)
    refine ⟨.inr (Chg.then (Chg.refl (fun k=>k=w11.heap.size) w24) hCw25 (fun k hk hs=>by have h:k=_:=hs;first | exact hs | exact .inl h | exact .inr h |(exfalso;omega))), ?_⟩
    refine zL (zr (zb (ze (za (zB (some 114) .i64 (IntKind.i64.wrap (((i:Nat):Int)+((1:Nat):Int))) (i+1) (zF (by omega) (by omega) (by omega)) ?_)))))
    refine zd 1 [(99,(vI (i+1)))] (zg (zD ?_))
    have hK20:=(((((((hkhR36.ext hEw22)).chg hCw23 (fun hs=>by have h:_=_:=hs;omega))).ext hEw24)).chg hCw25 (fun hs=>by have h:_=_:=hs;omega))
    have hK21:=(((((((hkhR38.ext hEw22)).chg hCw23 (fun hs=>by have h:_=_:=hs;omega))).ext hEw24)).chg hCw25 (fun hs=>by have h:_=_:=hs;omega))
    have hK22:=(((((((hs1hR3.ext hEw22)).chg hCw23 (fun k h1 h2 hs=>by have h:k=_:=hs;omega))).ext hEw24)).chg hCw25 (fun k h1 h2 hs=>by have h:k=_:=hs;omega))
    have hK23:=(((((((hs2hR3.ext hEw22)).chg hCw23 (fun k h1 h2 hs=>by have h:k=_:=hs;omega))).ext hEw24)).chg hCw25 (fun k h1 h2 hs=>by have h:k=_:=hs;omega))
    have hX4:Ext w w25:=(Ext.own ((Ext.own (hEhR3.trans hEw22) hCw23 (by omega)).trans hEw24) hCw25 (by omega))
    refine zR (i+1) ?_ ?_
    ·exact ⟨by omega,by exact hBw25,hK20,hK21,((hK17).chg hCw25 (fun hs=>by have h:_=_:=hs;omega)),hK22,hK23,hX4⟩
    ·first | omega |(dsimp only;omega)
   ·replace hc100:¬(i<n_l):=by have:=zak hc100;omega
    obtain rfl:n=i:=by omega
    refine zg (zb (zf (zn (zag (zH (zH (zT (zb (zf ?_)))))))))
    refine zf (ze (zd 1 [(20,(vI 1))] (zg (zb (zJ (zaj (X:=Nat) (fun v=> [(20,(vI v))]) [21,22,23,24,25,26,115,116,117,118,119,120,121,122,123,124,125,126,127,128,129,130,131,132,133,134,135,136,137,138,139,140,141,142,143,144,145,146,147,148,149,150,151,152,153,154,155,156,157,158,159,160,161,162,163,164,165,166,167,168,169,170,171,172,173,174,175] (fun v w26=>(1≤v∧v≤hgt n+1)∧Blk w26 w11.heap.size ((TX n (gB l s n v 0)).flatMap zN) 47∧Blk w26 w.heap.size ([(vI 0),(.slice none 0 0)]) 50∧Blk w26 w2.heap.size ([(vI n),(.slice a1 (hgt n+1) ca1),(.slice a2 (hgt n+1) ca2)]) 106∧Blk w26 w12.heap.size ([(vI n),(.slice (pA w11.heap.size 0) (tot n) (tot n))]) 50∧Es (nv .i64) w1.heap.size w2.heap.size w26 a1 (hgt n+1) ca1 (zbn n (hgt n+1))∧Es (nv .i64) w1.heap.size w2.heap.size w26 a2 (hgt n+1) ca2 (zcO n (hgt n+1))∧Ext w w26) (fun v=>hgt n+1-v) 1 (by kernel_rfl) ⟨⟨Nat.le_refl _,by omega⟩,by exact hR3,hkhR36,hkhR38,hkhR314,hs1hR3,hs2hR3,hEhR3⟩ ?_))))))
    rintro v dw26 w26 ⟨hv,hR4,hkhR46,hkhR48,hkhR414,hs1hR4,hs2hR4,hEhR4⟩
    have hzhR4:=hEhR4.size;have hlhR4:=hR4.lt
    have hmhR4:=Ms.of_row hR4 zac (len:=tot n) (zbi _ _).symm (by simp only [maxLen];omega)
    have hlkhR46:=hkhR46.lt
    have hlkhR48:=hkhR48.lt
    have hlkhR414:=hkhR414.lt
    have hcm:=zcN n (v-1)
    have hcn:=zcN n v
    have hup:=zcJ (n:=n) (l:=v) (by omega)
    have hgc:gt (zbn n (hgt n+1)) (v-1)=cnt n (v-1):=zfs (by omega)
    refine zf (zf (ze (zd 2 [(116,(vP w2.heap.size 1)),(115,(vI v))] (za (zi (some 117) (Instr.loadAt 40 (vP w2.heap.size 1)) (.slice a1 (hgt n+1) ca1) (zo (hkhR48.cell rfl)) ?_)))))
    refine zd 1 [(118,(vI (hgt n+1)))] (za (zG (some 119) (decide (((v:Nat):Int)<((hgt n+1:Nat):Int))) (fun hc119=> ?_) (fun hc119=> ?_)))
    ·replace hc119:v<hgt n+1:=by have:=zal hc119;omega
     refine zg (zb (zx (zA (zb (zf (zJ (zf (ze (zd 1 [(122,(vP w2.heap.size 1))] ?_)))))))))
     refine za (zi (some 123) (Instr.loadAt 40 (vP w2.heap.size 1)) (.slice a1 (hgt n+1) ca1) (zo (hkhR48.cell rfl)) ?_)
     refine zd 1 [(124,(vI v))] (za (zB (some 125) .i64 (IntKind.i64.wrap (((v:Nat):Int)-((1:Nat):Int))) (v-1) (zF (by omega) (by omega) (by omega)) ?_))
     obtain ⟨b4,o4,rfl⟩:=hs1hR4.addr (by omega)
     refine za (zi (some 126) (Instr.indexAt 40 (.slice (pA b4 o4) (hgt n+1) ca1) (vI (v-1))) (vP b4 (o4+(v-1)*1)) (zap (E:=3) (sz:=1) (by omega)) ?_)
     refine za (zi (some 127) (Instr.loadAt 3 (vP b4 (o4+(v-1)*1))) (vI (gt (zbn n (hgt n+1)) (v-1))) (zo (hs1hR4.celln (by omega))) ?_)
     refine zd 1 [(128,(vI 0))] (zg (zb (zJ (zaj (X:=Nat) (fun c=> [(128,(vI c))]) [21,22,23,24,25,26,129,130,131,132,133,134,135,136,137,138,139,140,141,142,143,144,145,146,147,148,149,150,151,152,153,154,155,156,157,158,159,160,161,162,163,164,165,166,167,168,169,170,171,172,173,174,175] (fun c w27=>c≤cnt n (v-1)∧Blk w27 w11.heap.size ((TX n (gB l s n v c)).flatMap zN) 47∧Blk w27 w.heap.size ([(vI 0),(.slice none 0 0)]) 50∧Blk w27 w2.heap.size ([(vI n),(.slice (pA b4 o4) (hgt n+1) ca1),(.slice a2 (hgt n+1) ca2)]) 106∧Blk w27 w12.heap.size ([(vI n),(.slice (pA w11.heap.size 0) (tot n) (tot n))]) 50∧Es (nv .i64) w1.heap.size w2.heap.size w27 (pA b4 o4) (hgt n+1) ca1 (zbn n (hgt n+1))∧Es (nv .i64) w1.heap.size w2.heap.size w27 a2 (hgt n+1) ca2 (zcO n (hgt n+1))∧Ext w w27) (fun c=>cnt n (v-1)-c) 0 (by kernel_rfl) ⟨Nat.zero_le _,by exact hR4,hkhR46,hkhR48,hkhR414,hs1hR4,hs2hR4,hEhR4⟩ ?_))))
     rintro c dw27 w27 ⟨hc,hR5,hkhR56,hkhR58,hkhR514,hs1hR5,hs2hR5,hEhR5⟩
     have hzhR5:=hEhR5.size;have hlhR5:=hR5.lt
     have hmhR5:=Ms.of_row hR5 zac (len:=tot n) (zbi _ _).symm (by simp only [maxLen];omega)
     have hlkhR56:=hkhR56.lt
     have hlkhR58:=hkhR58.lt
     have hlkhR514:=hkhR514.lt
     refine zf (ze (za (zG (some 129) (decide (((c:Nat):Int)<((gt (zbn n (hgt n+1)) (v-1):Nat):Int))) (fun hc129=> ?_) (fun hc129=> ?_))))
     ·replace hc129:c<gt (zbn n (hgt n+1)) (v-1):=by have:=zal hc129;omega
      have hcc:c<cnt n (v-1):=by omega
      have hplc:=zbx (n:=n) (l:=v-1) (j:=c) (by omega) hcc
      have hnd:((TX n (gB l s n v c)).getD (num n (v-1)+c) Nod.zero)=zaI l s (v-1) c:=zpj hnl (by omega) (by omega) hcc
      have hus:=zpW (l:=v-1) hp0 hnl (by omega) hcc
      rw [←hnd] at hus
      have hchk:zaq ((TX n (gB l s n v c)).getD (num n (v-1)+c) Nod.zero)=0:=by rw [hnd];exact zi7 hp0 (by rw [←hnl];omega) (by rw [←hnl];exact hcc)
      have hc4:c/4<cnt n v:=zjX.2 (by rw [hup];omega)
      have hpl4:=zbx (n:=n) (l:=v) (j:=c/4) (by omega) hc4
      have hsl:gt s (num n (v-1)+c)≤1:=hp0.sl _
      refine zg (zb (zf (zx (zA (zb (zf (zJ (zf (ze ?_)))))))))
      refine zd 2 [(21,(vI c)),(130,(vI c))] (zg (zb (zf (ze (za (zi (some 131) (Instr.loadAt 106 (vP w2.heap.size 0)) (vA [(vI n),(.slice (pA b4 o4) (hgt n+1) ca1),(.slice a2 (hgt n+1) ca2)]) (zI (vs:= [(vI n),(.slice (pA b4 o4) (hgt n+1) ca1),(.slice a2 (hgt n+1) ca2)]) (hkhR58.all)) ?_))))))
      refine zd 1 [(132,(vI v))] (za (zB (some 133) .i64 (IntKind.i64.wrap (((v:Nat):Int)-((1:Nat):Int))) (v-1) (zF (by omega) (by omega) (by omega)) ?_))
      refine zd 1 [(134,(vI c))] (za (zk (some 135) (zcE n (v-1) c _ hs1hR5 hs2hR5 (by first | rfl | assumption) (by first | rfl | assumption) (by omega) (by omega) (by omega) (by omega)) ?_))
      rintro _ w28 ⟨rfl,hEw28⟩
      have hzw28:=hEw28.size
      refine zd 1 [(22,(vI (num n (v-1)+c)))] (zg (zb (zf (ze (zd 1 [(136,(vP w12.heap.size 1))] (za (zi (some 137) (Instr.loadAt 24 (vP w12.heap.size 1)) (.slice (pA w11.heap.size 0) (tot n) (tot n)) (zo ((hkhR514.ext hEw28).cell rfl)) ?_)))))))
      refine zd 1 [(138,(vI (num n (v-1)+c)))] (za (zi (some 139) (Instr.indexAt 24 (.slice (pA w11.heap.size 0) (tot n) (tot n)) (vI (num n (v-1)+c))) (vP w11.heap.size (0+(num n (v-1)+c)*274)) (zap (E:=47) (sz:=274) (by omega)) ?_))
      refine za (zi (some 140) (Instr.loadAt 47 (vP w11.heap.size (0+(num n (v-1)+c)*274))) (vA (zN ((TX n (gB l s n v c)).getD (num n (v-1)+c) Nod.zero))) (zI (vs:=zN ((TX n (gB l s n v c)).getD (num n (v-1)+c) Nod.zero)) ((hmhR5.ext hEw28).at Nod.zero (by omega)) (by rw [zac];kernel_rfl)) ?_)
      refine za (zk (some 141) (zmt ((TX n (gB l s n v c)).getD (num n (v-1)+c) Nod.zero) _) ?_)
      rintro _ w29 ⟨rfl,hEw29⟩
      have hzw29:=hEw29.size
      refine za (zG (some 142) (decide (((usd ((TX n (gB l s n v c)).getD (num n (v-1)+c) Nod.zero) 4:Nat):Int)>((0:Nat):Int))) (fun hc142=> ?_) (fun hc142=> ?_))
      ·replace hc142:usd ((TX n (gB l s n v c)).getD (num n (v-1)+c) Nod.zero) 4>0:=by have:=zal hc142;omega
       have hem:=hus.1 hc142
       refine zg (zb (zx (zf (ze (zd 1 [(144,(vP w12.heap.size 1))] (za (zi (some 145) (Instr.loadAt 24 (vP w12.heap.size 1)) (.slice (pA w11.heap.size 0) (tot n) (tot n)) (zo ((((hkhR514.ext hEw28)).ext hEw29).cell rfl)) ?_)))))))
       refine zd 1 [(146,(vI (num n (v-1)+c)))] (za (zi (some 147) (Instr.indexAt 24 (.slice (pA w11.heap.size 0) (tot n) (tot n)) (vI (num n (v-1)+c))) (vP w11.heap.size (0+(num n (v-1)+c)*274)) (zap (E:=47) (sz:=274) (by omega)) ?_))
       refine za (zi (some 148) (Instr.loadAt 47 (vP w11.heap.size (0+(num n (v-1)+c)*274))) (vA (zN ((TX n (gB l s n v c)).getD (num n (v-1)+c) Nod.zero))) (zI (vs:=zN ((TX n (gB l s n v c)).getD (num n (v-1)+c) Nod.zero)) ((((hmhR5.ext hEw28)).ext hEw29).at Nod.zero (by omega)) (by rw [zac];kernel_rfl)) ?_)
       have hK24:=(((((hg0.ext hEhR5)).ext hEw28)).ext hEw29)
       have hK25:=(((((hg1.ext hEhR5)).ext hEw28)).ext hEw29)
       have hK26:=(((((hg2.ext hEhR5)).ext hEw28)).ext hEw29)
       refine za (zk (some 149) (zdI ((TX n (gB l s n v c)).getD (num n (v-1)+c) Nod.zero) _ (by assumption) hK24 hK25 hK26) ?_)
       rintro _ w30 ⟨rfl,hEw30⟩
       have hzw30:=hEw30.size
       refine zd 3 [(151,(vI 0)),(150,(vA (zC (zQ (zP ((TX n (gB l s n v c)).getD (num n (v-1)+c) Nod.zero)))))),(143,(.tuple #[(vA (zC (zQ (zP ((TX n (gB l s n v c)).getD (num n (v-1)+c) Nod.zero))))),(vI 0)]))] (za (zz (some 23) (Instr.alloc 23 true (.tuple #[])) (vP w30.heap.size 0) (zC Dig.zero) 23 ?_))
       intro w31 hBw31 hEw31
       have hzw31:=hEw31.size;have hlw31:=hBw31.lt
       refine za (zE 23 w30.heap.size 0 23 (vA (zC (zQ (zP ((TX n (gB l s n v c)).getD (num n (v-1)+c) Nod.zero))))) (zC Dig.zero) (zC (zQ (zP ((TX n (gB l s n v c)).getD (num n (v-1)+c) Nod.zero)))) hBw31 (by rw [zab];kernel_rfl) (by first |(simp;done)|(simp;omega)) (zaX _) ?_)
       intro w32 hBw32 hCw32
       have hzw32:=hCw32.size
       rw [zq _ _ (by simp)] at hBw32
       refine zd 1 [(24,(vI 0))] (zg (zb (zf (ze (zd 2 [(154,(vI (num n (v-1)+c))),(153,(.slice a_s n_s c_s))] ?_)))))
       obtain ⟨b5,o5,rfl⟩:=h_s.addr (by omega)
       refine za (zi (some 155) (Instr.indexAt 40 (.slice (pA b5 o5) n_s c_s) (vI (num n (v-1)+c))) (vP b5 (o5+(num n (v-1)+c)*1)) (zap (E:=3) (sz:=1) (by omega)) ?_)
       have hK27:=(((((((((((h_s.ext hEhR5)).ext hEw28)).ext hEw29)).ext hEw30)).ext hEw31)).chg hCw32 (fun k h1 h2 hs=>by have h:k=_:=hs;omega))
       refine za (zi (some 156) (Instr.loadAt 3 (vP b5 (o5+(num n (v-1)+c)*1))) (vI (gt s (num n (v-1)+c))) (zo (hK27.celln (by omega))) ?_)
       refine za (zk (some 157) (zn8 (gt s (num n (v-1)+c)) _ (by omega)) ?_)
       rintro _ w33 ⟨rfl,hEw33⟩
       have hzw33:=hEw33.size
       refine zd 5 [(26,(vI 0)),(25,(vB ((gt s (num n (v-1)+c))+1))),(159,(vI 0)),(158,(vB ((gt s (num n (v-1)+c))+1))),(152,(.tuple #[(vB ((gt s (num n (v-1)+c))+1)),(vI 0)]))] (zg (zb (zah (Chg (fun k=>k=w11.heap.size) w33.drew) 16 [(161,16384,0),(162,1461501637330902918203684832716283019655932542976,1),(163,256,0),(164,1048576,0),(165,2097152,0),(166,23384026197294446691258957323460528314494920687616,16),(167,64306072042559728400962132639516452864861031890944,44),(168,2097152,0),(169,187072209578355573530071658587684226515959365500928,128),(170,33554432,0),(171,8388608,0),(172,2244866514940266882360859903052210718191512386011136,1536),(173,96459108063839592601443198959274679297291547836416,66),(174,5986310706507378352962293074805895248510699696029696,4096),(175,12346765832171467852984729466787158950053318123061248,12287),(0,26938398179283202588330318836626528618298148632133632,20479)] (fun hT573=> ?_))))
       have hEw34:Ext w33 w33.drew:=Ext.drew w33
       generalize w33.drew=w34 at hEw34⊢
       have hzw34:=hEw34.size
       refine zl (hw:=show Chg (fun k=>k=w11.heap.size) w34 w34 from (Chg.refl (fun k=>k=w11.heap.size) w34)) hT573 [(0,160,(vP w12.heap.size 1))] 1 1 ?_
       have hK28:=(((((((((((((hkhR514.ext hEw28)).ext hEw29)).ext hEw30)).ext hEw31)).chg hCw32 (fun hs=>by have h:_=_:=hs;omega))).ext hEw33)).ext hEw34)
       refine zh (hw:=show Chg (fun k=>k=w11.heap.size) w34 w34 from (Chg.refl (fun k=>k=w11.heap.size) w34)) hT573 1 3 (some 161) (.slice (pA w11.heap.size 0) (tot n) (tot n)) (zm (Instr.loadAt 24 (vP w12.heap.size 1)) (fun w' hC=>zo ((hK28.chg hC (fun hs=>by have h:_=_:=hs;omega)).cell rfl))) ?_
       have hK29:=(((((((((((((hkhR58.ext hEw28)).ext hEw29)).ext hEw30)).ext hEw31)).chg hCw32 (fun hs=>by have h:_=_:=hs;omega))).ext hEw33)).ext hEw34)
       refine zh (hw:=show Chg (fun k=>k=w11.heap.size) w34 w34 from (Chg.refl (fun k=>k=w11.heap.size) w34)) hT573 2 7 (some 162) (vA [(vI n),(.slice (pA b4 o4) (hgt n+1) ca1),(.slice a2 (hgt n+1) ca2)]) (zm (Instr.loadAt 106 (vP w2.heap.size 0)) (fun w' hC=>zI (vs:= [(vI n),(.slice (pA b4 o4) (hgt n+1) ca1),(.slice a2 (hgt n+1) ca2)]) ((hK29.chg hC (fun hs=>by have h:_=_:=hs;omega)).all))) (zl (hw:=show Chg (fun k=>k=w11.heap.size) w34 w34 from (Chg.refl (fun k=>k=w11.heap.size) w34)) hT573 [(3,163,(vI v)),(4,164,(vI c))] 2 31 (zh (hw:=show Chg (fun k=>k=w11.heap.size) w34 w34 from (Chg.refl (fun k=>k=w11.heap.size) w34)) hT573 5 63 (some 165) (vI (c/4)) (zw .i64 (IntKind.i64.wrap (((c:Nat):Int).tdiv ((4:Nat):Int))) (zF (zej _ _) (by omega) (by omega))) (zl (hw:=show Chg (fun k=>k=w11.heap.size) w34 w34 from (Chg.refl (fun k=>k=w11.heap.size) w34)) hT573 [(7,167,(vI c))] 1 191 (zh (hw:=show Chg (fun k=>k=w11.heap.size) w34 w34 from (Chg.refl (fun k=>k=w11.heap.size) w34)) hT573 8 447 (some 168) (vI (c%4)) (zw .i64 (((c:Nat):Int).tmod ((4:Nat):Int)) (zb3 _ _)) (zl (hw:=show Chg (fun k=>k=w11.heap.size) w34 w34 from (Chg.refl (fun k=>k=w11.heap.size) w34)) hT573 [(9,169,(vB ((gt s (num n (v-1)+c))+1)))] 1 959 ?_)))))
       refine zh (hw:=show Chg (fun k=>k=w11.heap.size) w34 w34 from (Chg.refl (fun k=>k=w11.heap.size) w34)) hT573 10 1983 (some 170) (vA (zC (zQ (zP ((TX n (gB l s n v c)).getD (num n (v-1)+c) Nod.zero))))) (zm (Instr.loadAt 23 (vP w30.heap.size 0)) (fun w' hC=>zI (vs:=zC (zQ (zP ((TX n (gB l s n v c)).getD (num n (v-1)+c) Nod.zero)))) (((((hBw32.ext hEw33)).ext hEw34).chg hC (fun hs=>by have h:_=_:=hs;omega)).all) (by rw [zab];kernel_rfl))) (zh (hw:=show Chg (fun k=>k=w11.heap.size) w34 w34 from (Chg.refl (fun k=>k=w11.heap.size) w34)) hT573 11 4031 (some 171) (vA (zaa (⟨(gt s (num n (v-1)+c))+1,(zQ (zP ((TX n (gB l s n v c)).getD (num n (v-1)+c) Nod.zero))),by omega⟩))) (zm (Instr.build 44 #[(0,(vB ((gt s (num n (v-1)+c))+1))),(1,(vA (zC (zQ (zP ((TX n (gB l s n v c)).getD (num n (v-1)+c) Nod.zero))))))]) (fun w' hC=>zfU ((gt s (num n (v-1)+c))+1) (zQ (zP ((TX n (gB l s n v c)).getD (num n (v-1)+c) Nod.zero))) (by omega))) ?_)
       have hK30:=(((((((((((((hs1hR5.ext hEw28)).ext hEw29)).ext hEw30)).ext hEw31)).chg hCw32 (fun k h1 h2 hs=>by have h:k=_:=hs;omega))).ext hEw33)).ext hEw34)
       have hK31:=(((((((((((((hs2hR5.ext hEw28)).ext hEw29)).ext hEw30)).ext hEw31)).chg hCw32 (fun k h1 h2 hs=>by have h:k=_:=hs;omega))).ext hEw33)).ext hEw34)
       refine zu 6 4095 (zk (some 166) (zcE n v (c/4) _ hK30 hK31 (by first | rfl | assumption) (by first | rfl | assumption) (by omega) (by omega) (by omega) (by omega)) ?_)
       rintro _ w35 ⟨rfl,hEw35⟩
       have hzw35:=hEw35.size
       refine ⟨.inr ((Chg.refl (fun k=>k=w11.heap.size) w34).trans hEw35.chg), ?_⟩
       refine zh (hw:=show Chg (fun k=>k=w11.heap.size) w34 w35 from ((Chg.refl (fun k=>k=w11.heap.size) w34).trans hEw35.chg)) hT573 12 8191 (some 172) (vP w11.heap.size (0+(num n v+(c/4))*274)) (zm (Instr.indexAt 24 (.slice (pA w11.heap.size 0) (tot n) (tot n)) (vI (num n v+(c/4)))) (fun w' hC=>zap (E:=47) (sz:=274) (by omega))) (zl (hw:=show Chg (fun k=>k=w11.heap.size) w34 w35 from ((Chg.refl (fun k=>k=w11.heap.size) w34).trans hEw35.chg)) hT573 [(13,173,(vP w11.heap.size (0+(num n v+(c/4))*274+142)))] 1 16383 (zh (hw:=show Chg (fun k=>k=w11.heap.size) w34 w35 from ((Chg.refl (fun k=>k=w11.heap.size) w34).trans hEw35.chg)) hT573 14 32767 (some 174) (vP w11.heap.size (0+(num n v+(c/4))*274+142+(c%4)*33)) (zm (Instr.indexAt 45 (vP w11.heap.size (0+(num n v+(c/4))*274+142)) (vI (c%4))) (fun w' hC=>zW (E:=44) (sz:=33) (m:=4) (by omega))) ?_))
       have hK32:=(((((((((((((((hR5.ext hEw28)).ext hEw29)).ext hEw30)).ext hEw31)).chg hCw32 (fun hs=>by have h:_=_:=hs;omega))).ext hEw33)).ext hEw34)).ext hEw35)
       refine zu 15 65535 (zE 44 w11.heap.size (0+(num n v+(c/4))*274+142+(c%4)*33) 47 (vA (zaa (⟨(gt s (num n (v-1)+c))+1,(zQ (zP ((TX n (gB l s n v c)).getD (num n (v-1)+c) Nod.zero))),by omega⟩))) ((TX n (gB l s n v c)).flatMap zN) (zaa (⟨(gt s (num n (v-1)+c))+1,(zQ (zP ((TX n (gB l s n v c)).getD (num n (v-1)+c) Nod.zero))),by omega⟩)) hK32 (by rw [zaC];kernel_rfl) (by (try simp only [List.length_append]);rw [zaL zac];have:=(show List.length (TX n (gB l s n v c))=tot n from zbi _ _);have hq:num n v+(c/4)<List.length (TX n (gB l s n v c)):=(by rw [zbi];try omega);rw [zaC];omega) (zcL _) ?_)
       have hK33:=(((((((((((((((hR5.ext hEw28)).ext hEw29)).ext hEw30)).ext hEw31)).chg hCw32 (fun hs=>by have h:_=_:=hs;omega))).ext hEw33)).ext hEw34)).ext hEw35)
       intro w36 hBw36 hCw36
       have hzw36:=hCw36.size
       rw [show (zad ((TX n (gB l s n v c)).flatMap zN) (0+(num n v+(c/4))*274+142+(c%4)*33) (zaa (⟨(gt s (num n (v-1)+c))+1,(zQ (zP ((TX n (gB l s n v c)).getD (num n (v-1)+c) Nod.zero))),by omega⟩)):List Value)=(TX n (gB l s n v (c+1))).flatMap zN from ((show zad ((TX n (gB l s n v c)).flatMap zN) (0+(num n v+(c/4))*274+142+(c%4)*33) (zaa (⟨(gt s (num n (v-1)+c))+1,(zQ (zP ((TX n (gB l s n v c)).getD (num n (v-1)+c) Nod.zero))),by omega⟩))=((TX n (gB l s n v c)).set (num n v+(c/4)) (((TX n (gB l s n v c)).getD (num n v+(c/4)) Nod.zero).setE (c%4) (⟨(gt s (num n (v-1)+c))+1,(zQ (zP ((TX n (gB l s n v c)).getD (num n (v-1)+c) Nod.zero))),by omega⟩))).flatMap zN from by have hz:=(zfS zac Nod.zero (((TX n (gB l s n v c)).getD (num n v+(c/4)) Nod.zero).setE (c%4) (⟨(gt s (num n (v-1)+c))+1,(zQ (zP ((TX n (gB l s n v c)).getD (num n (v-1)+c) Nod.zero))),by omega⟩)) (TX n (gB l s n v c)) (num n v+(c/4)) (142+(c%4)*33) (zaa (⟨(gt s (num n (v-1)+c))+1,(zQ (zP ((TX n (gB l s n v c)).getD (num n (v-1)+c) Nod.zero))),by omega⟩)) [] (by rw [zbi];try omega) (nod_setE (by omega)) (by rw [zaC];omega));rw [List.append_nil,List.append_nil] at hz;rw [show 0+(num n v+(c/4))*274+142+(c%4)*33=(num n v+(c/4))*274+(142+(c%4)*33) from by omega];exact hz)).trans (congrArg (fun z=>List.flatMap zN z) (show ((TX n (gB l s n v c)).set (num n v+(c/4)) (((TX n (gB l s n v c)).getD (num n v+(c/4)) Nod.zero).setE (c%4) (⟨(gt s (num n (v-1)+c))+1,(zQ (zP ((TX n (gB l s n v c)).getD (num n (v-1)+c) Nod.zero))),by omega⟩)))=(TX n (gB l s n v (c+1))) from zpZ (by omega) (by omega) hc4 (zpH hnl hem rfl (by rw [hnd]))))] at hBw36
       have hmw36:Ms zN 274 w11.heap.size (w11.heap.size+1) w36 (pA w11.heap.size 0) (tot n) (tot n) (TX n (gB l s n v (c+1))):=Ms.of_pre (r:= []) (by rw [List.append_nil];exact hBw36) zac (by rw [zbi];try omega) (by omega) (by simp only [maxLen];omega) (by omega) (by omega)
       refine ⟨.inr (Chg.then ((Chg.refl (fun k=>k=w11.heap.size) w34).trans hEw35.chg) hCw36 (fun k hk hs=>by have h:k=_:=hs;first | exact hs | exact .inl h | exact .inr h |(exfalso;omega))), ?_⟩
       refine zL (zr (zb (ze (za (zB (some 175) .i64 (IntKind.i64.wrap (((c:Nat):Int)+((1:Nat):Int))) (c+1) (zF (by omega) (by omega) (by omega)) ?_)))))
       refine zd 1 [(128,(vI (c+1)))] (zg (zD ?_))
       have hK34:=(((((((((((((((((hkhR56.ext hEw28)).ext hEw29)).ext hEw30)).ext hEw31)).chg hCw32 (fun hs=>by have h:_=_:=hs;omega))).ext hEw33)).ext hEw34)).ext hEw35)).chg hCw36 (fun hs=>by have h:_=_:=hs;omega))
       have hX5:Ext w w36:=(Ext.own ((((Ext.own ((((hEhR5.trans hEw28).trans hEw29).trans hEw30).trans hEw31) hCw32 (by omega)).trans hEw33).trans hEw34).trans hEw35) hCw36 (by omega))
       refine zR (c+1) ?_ ?_
       ·exact ⟨by omega,by exact hBw36,hK34,(((hK29.ext hEw35)).chg hCw36 (fun hs=>by have h:_=_:=hs;omega)),(((hK28.ext hEw35)).chg hCw36 (fun hs=>by have h:_=_:=hs;omega)),(((hK30.ext hEw35)).chg hCw36 (fun k h1 h2 hs=>by have h:k=_:=hs;omega)),(((hK31.ext hEw35)).chg hCw36 (fun k h1 h2 hs=>by have h:k=_:=hs;omega)),hX5⟩
       ·first | omega |(dsimp only;omega)
      ·replace hc142:¬(usd ((TX n (gB l s n v c)).getD (num n (v-1)+c) Nod.zero) 4>0):=by have:=zak hc142;omega
       have hem:=hus.2 (by omega)
       refine zg (zb (zn (zA (zr (zb (ze (za (zB (some 175) .i64 (IntKind.i64.wrap (((c:Nat):Int)+((1:Nat):Int))) (c+1) (zF (by omega) (by omega) (by omega)) ?_))))))))
       refine zd 1 [(128,(vI (c+1)))] (zg (zD (zR (c+1) ?_ ?_)))
       ·exact ⟨by omega,by rw [←zpD (zfK hem)];exact (((hR5.ext hEw28)).ext hEw29),(((hkhR56.ext hEw28)).ext hEw29),(((hkhR58.ext hEw28)).ext hEw29),(((hkhR514.ext hEw28)).ext hEw29),(((hs1hR5.ext hEw28)).ext hEw29),(((hs2hR5.ext hEw28)).ext hEw29),((hEhR5.trans hEw28).trans hEw29)⟩
       ·first | omega |(dsimp only;omega)
     ·replace hc129:¬(c<gt (zbn n (hgt n+1)) (v-1)):=by have:=zak hc129;omega
      obtain rfl:c=cnt n (v-1):=by omega
      refine zg (zb (zf (zn (zag (zH (zH (zT (zr (zb ?_)))))))))
      refine ze (zd 1 [(120,(vI v))] (za (zB (some 121) .i64 (IntKind.i64.wrap (((v:Nat):Int)+((1:Nat):Int))) (v+1) (zF (by omega) (by omega) (by omega)) ?_)))
      refine zd 1 [(20,(vI (v+1)))] (zg (zD (zR (v+1) ?_ ?_)))
      ·exact ⟨by omega,by rw [←znu hnl (by omega)];exact hR5,hkhR56,hkhR58,hkhR514,hs1hR5,hs2hR5,hEhR5⟩
      ·first | omega |(dsimp only;omega)
    ·replace hc119:¬(v<hgt n+1):=by have:=zak hc119;omega
     obtain rfl:v=hgt n+1:=by omega
     refine zg (zb (zn (zag (zH (zH (zT (zb (zf (ze ?_)))))))))
     refine za (zi (some 176) (Instr.loadAt 50 (vP w12.heap.size 0)) (vA [(vI n),(.slice (pA w11.heap.size 0) (tot n) (tot n))]) (zI (vs:= [(vI n),(.slice (pA w11.heap.size 0) (tot n) (tot n))]) (hkhR414.all)) ?_)
     refine za (zE 50 w.heap.size 0 50 (vA [(vI n),(.slice (pA w11.heap.size 0) (tot n) (tot n))]) ([(vI 0),(.slice none 0 0)]) ([(vI n),(.slice (pA w11.heap.size 0) (tot n) (tot n))]) hkhR46 (by kernel_rfl) (by first | decide |(simp;done)|(simp;omega)) (by simp [Value.oneCell']) ?_)
     intro w37 hBw37 hCw37
     have hzw37:=hCw37.size
     rw [zq _ _ (by kernel_rfl)] at hBw37
     exact zd 1 [(7,(vI 0))] (zg (zb (zp (zam (show zS Tryz.prog 177 _ _ (.cell 6 50) (vA [(vI n),(.slice (pA w11.heap.size 0) (tot n) (tot n))]) from ⟨⟨w.heap.size,0,none⟩,(by kernel_rfl),zM (T:=50) (vs:= [(vI n),(.slice (pA w11.heap.size 0) (tot n) (tot n))]) (hBw37).all (by kernel_rfl)⟩) (show zS Tryz.prog 177 _ _ (.tmp 7) (vI 0) by (show _=_;kernel_rfl)) (⟨_,rfl,OwM.of_full (by rw [←znQ hnl];exact ((hR4).chg hCw37 (fun hs=>by have h:_=_:=hs;omega))) zac (by rw [zgh,←hnl]) (by simp only [maxLen];omega) (by omega) (by omega),(Ext.own hEhR4 hCw37 (by omega))⟩)))))
end Go.Proofs.YtgdpdnokcnhgnaaGreatDoor
namespace Go.Proofs.YtgdpdnokcnhgnaaGreatDoor
open Go Go.RowKit Go.Cs
set_option maxRecDepth 100000
theorem zma (n:Nat) (a_l:Option Addr) (n_l c_l:Nat) (a_s:Option Addr) (n_s c_s:Nat) (w:World) (hp0:1≤n) (hp1:n≤4096) (hp2:n_l≠n):
  Calls Tryz.prog 16 #[(vI n),(.slice a_l n_l c_l),(.slice a_s n_s c_s)] w (Ret fun r w'=>r=(.tuple #[(vA [(vI 0),(.slice none 0 0)]),(vI 1)])∧Ext w w'):=by
 refine zK (n:=177) (σ:= [(0,(vI n)),(1,(.slice a_l n_l c_l)),(2,(.slice a_s n_s c_s))]) Tryz.func16 rfl ?_
 have h5:=zay n
 refine zf (ze (za (zz (some 6) (Instr.alloc 50 true (.tuple #[])) (vP w.heap.size 0) ([(vI 0),(.slice none 0 0)]) 50 ?_)))
 intro w1 hBw1 hEw1
 have hzw1:=hEw1.size;have hlw1:=hBw1.lt
 refine zd 1 [(7,(vI 0))] (zg (zb (zf (ze (zd 1 [(28,(vI n))] (za (zk (some 29) (ziM n _ (by omega) (by omega)) ?_)))))))
 rintro _ w2 ⟨a1,ca1,a2,ca2,rfl,hFz1_0,hFz1_1,hEw2⟩
 have hzw2:=hEw2.size
 have hlea1:=hFz1_0.le
 have hlea2:=hFz1_1.le
 refine zd 3 [(31,(vI 0)),(30,(vA [(vI n),(.slice a1 (hgt n+1) ca1),(.slice a2 (hgt n+1) ca2)])),(27,(.tuple #[(vA [(vI n),(.slice a1 (hgt n+1) ca1),(.slice a2 (hgt n+1) ca2)]),(vI 0)]))] (za (zz (some 8) (Instr.alloc 106 true (.tuple #[])) (vP w2.heap.size 0) ([(vI 0),(.slice none 0 0),(.slice none 0 0)]) 106 ?_))
 intro w3 hBw3 hEw3
 have hzw3:=hEw3.size;have hlw3:=hBw3.lt
 refine za (zE 106 w2.heap.size 0 106 (vA [(vI n),(.slice a1 (hgt n+1) ca1),(.slice a2 (hgt n+1) ca2)]) ([(vI 0),(.slice none 0 0),(.slice none 0 0)]) ([(vI n),(.slice a1 (hgt n+1) ca1),(.slice a2 (hgt n+1) ca2)]) hBw3 (by kernel_rfl) (by first | decide |(simp;done)|(simp;omega)) (by simp [Value.oneCell']) ?_)
 intro w4 hBw4 hCw4
 have hzw4:=hCw4.size
 rw [zq _ _ (by kernel_rfl)] at hBw4
 refine zd 1 [(9,(vI 0))] (zg (zb (zf (zf (ze (zd 1 [(32,(vI 0))] (za (zai (some 33) (((0:Nat):Int) !=((0:Nat):Int)) false (zaY (by omega)) ?_))))))))
 refine zg (zb (zn (zA (zb (zf (ze (zd 1 [(10,(.func (.func 46) #[] #[]))] (zg (zb ?_)))))))))
 refine zf (zf (ze (zd 3 [(38,(vI n)),(37,(vI n_l)),(36,(.slice a_l n_l c_l))] (za (zai (some 39) (((n_l:Nat):Int) !=((n:Nat):Int)) true (zb8 (by omega)) ?_)))))
 refine zd 12 [(51,vT),(50,undef),(49,undef),(48,undef),(47,vT),(46,vT),(45,undef),(44,undef),(43,undef),(42,undef),(41,undef),(40,vT)] (zg (zb (zx (zf (ze (zd 1 [(52,(vA [(vI 0),(.slice none 0 0)]))] ?_))))))
 have hK1:=(((((hBw1.ext hEw2)).ext hEw3)).chg hCw4 (fun hs=>by have h:_=_:=hs;omega))
 refine za (zE 50 w.heap.size 0 50 (vA [(vI 0),(.slice none 0 0)]) ([(vI 0),(.slice none 0 0)]) ([(vI 0),(.slice none 0 0)]) hK1 (by kernel_rfl) (by first | decide |(simp;done)|(simp;omega)) (by simp [Value.oneCell']) ?_)
 have hK2:=(((((hBw1.ext hEw2)).ext hEw3)).chg hCw4 (fun hs=>by have h:_=_:=hs;omega))
 intro w5 hBw5 hCw5
 have hzw5:=hCw5.size
 rw [zq _ _ (by kernel_rfl)] at hBw5
 refine zd 1 [(7,(vI 1))] (zg (zb (zp (zj (zam (show zS Tryz.prog 177 _ _ (.cell 6 50) (vA [(vI 0),(.slice none 0 0)]) from ⟨⟨w.heap.size,0,none⟩,(by kernel_rfl),zM (T:=50) (vs:= [(vI 0),(.slice none 0 0)]) (hBw5).all (by kernel_rfl)⟩) (show zS Tryz.prog 177 _ _ (.tmp 7) (vI 1) by (show _=_;kernel_rfl)) ?_)))))
 have hX1:Ext w w5:=(Ext.own (Ext.own ((hEw1.trans hEw2).trans hEw3) hCw4 (by omega)) hCw5 (by omega))
 exact ⟨rfl,hX1⟩
end Go.Proofs.YtgdpdnokcnhgnaaGreatDoor
namespace Go.Proofs.YtgdpdnokcnhgnaaGreatDoor
open Go Go.RowKit Go.Cs
set_option maxRecDepth 100000
theorem zhM {lo_x hi_x:Nat} {a_x:Option Addr} {n_x c_x:Nat} {x:List Nod} (w:World) (h_x:Ms zN 274 lo_x hi_x w a_x n_x c_x x):
  Calls Tryz.prog 58 #[(.slice a_x n_x c_x)] w (Ret fun r w'=>∃a0,r=(.slice a0 n_x n_x)∧Ms zN 274 lo_x w'.heap.size w' a0 n_x n_x x∧w=w'):=by
 refine zK (n:=9) (σ:= [(0,(.slice a_x n_x c_x))]) Tryz.func58 rfl ?_
 replace h_x:=h_x.now;have hle_x:=h_x.le
 refine zf (ze (zd 1 [(2,(.slice none 0 0))] (zg (zb (zf (ze (zd 5 [(7,(vI n_x)),(6,(.slice a_x n_x c_x)),(5,(vI n_x)),(4,(.slice a_x n_x c_x)),(3,(.slice a_x n_x c_x))] ?_)))))))
 obtain ⟨a1,hR1,hS1⟩:=h_x.slice Tryz.prog 24 47 0 n_x n_x none (some (vI n_x)) (some (vI n_x))
 refine za (zi (some 8) (Instr.sliceAt 24 (.slice a_x n_x c_x) none (some (vI n_x)) (some (vI n_x))) (.slice a1 (n_x-0) (n_x-0)) (hR1 _) ?_)
 refine zd 1 [(2,(.slice a1 (n_x-0) (n_x-0)))] (zg (zb (zp (zv (.slice a1 (n_x-0) (n_x-0)) ?_))))
 have hfin:=hS1
 rw [List.drop_zero,Nat.sub_zero,show x.take n_x=x from by rw [h_x.len_eq,List.take_length]] at hfin
 exact ⟨_,rfl,hfin.mono (Nat.le_refl _) (by omega),rfl⟩
set_option maxHeartbeats 4000000 in
theorem zkt (n:Nat) {lo_t hi_t:Nat} {a_t:Option Addr} {n_t c_t:Nat} {t:List Nod} (b:Nat) (w:World) (h_t:Ms zN 274 lo_t hi_t w a_t n_t c_t t) (hp0:1≤n) (hp1:n≤4096) (hp2:n_t=tot n) (hp3:zb0 n t=0) (hp4:b<n) (hg0:Gl 0 [vI 45,vI 33] w) (hg1:Gl 2 (w8C zbc) w) (hg2:Gl 3 (zV kA) w) (hg3:Gl 1 [.iface 199 (.agg #[.pointer (some ⟨4,99,none⟩)])] w):
  Calls Tryz.prog 25 #[(vA [(vI n),(.slice a_t n_t c_t)]),(vI b)] w (Ret fun r w'=>∃a1,r=(.tuple #[(vA [(vI b),(.slice a1 (mny n t b) (mny n t b))]),(vI 0)])∧Ms zN 274 w.heap.size w'.heap.size w' a1 (mny n t b) (mny n t b) (za7 n t b (mny n t b))∧Ext w w'):=by
 refine zK (n:=83) (σ:= [(0,(vA [(vI n),(.slice a_t n_t c_t)])),(1,(vI b))]) Tryz.func25 rfl ?_
 replace h_t:=h_t.now;have hle_t:=h_t.le
 have hgl0:=hg0.lt
 have hgl1:=hg1.lt
 have hgl2:=hg2.lt
 have hgl3:=hg3.lt
 have h5:=zay n
 have hlt:=h_t.len_eq
 have hts:=zcr hp1
 have hle:=h_t.le
 refine zf (ze (za (zz (some 2) (Instr.box 50 (vA [(vI n),(.slice a_t n_t c_t)])) (vP w.heap.size 0) ([(vI n),(.slice a_t n_t c_t)]) 50 ?_)))
 intro w1 hBw1 hEw1
 have hzw1:=hEw1.size;have hlw1:=hBw1.lt
 refine za (zz (some 4) (Instr.alloc 26 true (.tuple #[])) (vP w1.heap.size 0) ([(vI 0),(.slice none 0 0)]) 26 ?_)
 intro w2 hBw2 hEw2
 have hzw2:=hEw2.size;have hlw2:=hBw2.lt
 refine zd 1 [(5,(vI 0))] (zg (zb (zf (ze (za (zi (some 14) (Instr.loadAt 50 (vP w.heap.size 0)) (vA [(vI n),(.slice a_t n_t c_t)]) (zI (vs:= [(vI n),(.slice a_t n_t c_t)]) ((hBw1.ext hEw2).all)) ?_))))))
 refine za (zk (some 15) (zkU n _ (((h_t.ext hEw1)).ext hEw2) (by omega) (by omega) (by omega) (((hg0.ext hEw1)).ext hEw2) (((hg1.ext hEw1)).ext hEw2) (((hg2.ext hEw1)).ext hEw2) (((hg3.ext hEw1)).ext hEw2)) ?_)
 rintro _ w3 ⟨a1,ca1,a2,ca2,rfl,hFz1_0,hFz1_1,hEw3⟩
 have hzw3:=hEw3.size
 have hlea1:=hFz1_0.le
 have hlea2:=hFz1_1.le
 rw [show zb0 n t=0 from hp3]
 refine zd 3 [(17,(vI 0)),(16,(vA [(vI n),(.slice a1 (hgt n+1) ca1),(.slice a2 (hgt n+1) ca2)])),(13,(.tuple #[(vA [(vI n),(.slice a1 (hgt n+1) ca1),(.slice a2 (hgt n+1) ca2)]),(vI 0)]))] (za (zz (some 6) (Instr.alloc 106 true (.tuple #[])) (vP w3.heap.size 0) ([(vI 0),(.slice none 0 0),(.slice none 0 0)]) 106 ?_))
 intro w4 hBw4 hEw4
 have hzw4:=hEw4.size;have hlw4:=hBw4.lt
 refine za (zE 106 w3.heap.size 0 106 (vA [(vI n),(.slice a1 (hgt n+1) ca1),(.slice a2 (hgt n+1) ca2)]) ([(vI 0),(.slice none 0 0),(.slice none 0 0)]) ([(vI n),(.slice a1 (hgt n+1) ca1),(.slice a2 (hgt n+1) ca2)]) hBw4 (by kernel_rfl) (by first | decide |(simp;done)|(simp;omega)) (by simp [Value.oneCell']) ?_)
 intro w5 hBw5 hCw5
 have hzw5:=hCw5.size
 rw [zq _ _ (by kernel_rfl)] at hBw5
 refine zd 1 [(7,(vI 0))] (zg (zb (zf (zf (ze (zd 1 [(18,(vI 0))] (za (zai (some 19) (((0:Nat):Int) !=((0:Nat):Int)) false (zaY (by omega)) ?_))))))))
 refine zg (zb (zn (zA (zb (zf (ze (zd 1 [(23,(vP w.heap.size 0))] ?_)))))))
 have hK1:=(((((((hBw1.ext hEw2)).ext hEw3)).ext hEw4)).chg hCw5 (fun hs=>by have h:_=_:=hs;omega))
 refine za (zi (some 24) (Instr.loadAt 3 (vP w.heap.size 0)) (vI n) (zo (hK1.cell rfl)) ?_)
 refine zd 1 [(25,(vI b))] (za (zk (some 26) (zhK n b _ (by omega) (by omega) (by omega)) ?_))
 rintro _ w6 ⟨a3,rfl,hFz2_0,hEw6⟩
 have hzw6:=hEw6.size
 have hlea3:=hFz2_0.le
 refine zd 5 [(7,(vI 0)),(8,(.slice a3 (hgt n+1) (hgt n+1))),(28,(vI 0)),(27,(.slice a3 (hgt n+1) (hgt n+1))),(22,(.tuple #[(.slice a3 (hgt n+1) (hgt n+1)),(vI 0)]))] (zg (zb (zf (zf (ze (zd 1 [(29,(vI 0))] (za (zai (some 30) (((0:Nat):Int) !=((0:Nat):Int)) false (zaY (by omega)) ?_))))))))
 refine zg (zb (zn (zA (zb (zf (ze (zd 2 [(34,(vA [(vI b),(.slice none 0 0)])),(33,(vI b))] (za (zz (some 9) (Instr.alloc 26 true (.tuple #[])) (vP w6.heap.size 0) ([(vI 0),(.slice none 0 0)]) 26 ?_)))))))))
 intro w7 hBw7 hEw7
 have hzw7:=hEw7.size;have hlw7:=hBw7.lt
 refine za (zE 26 w6.heap.size 0 26 (vA [(vI b),(.slice none 0 0)]) ([(vI 0),(.slice none 0 0)]) ([(vI b),(.slice none 0 0)]) hBw7 (by kernel_rfl) (by first | decide |(simp;done)|(simp;omega)) (by simp [Value.oneCell']) ?_)
 intro w8 hBw8 hCw8
 have hzw8:=hCw8.size
 rw [zq _ _ (by kernel_rfl)] at hBw8
 refine zg (zb (zf (zf (ze (zd 3 [(37,(vI 0)),(36,(vI (hgt n+1))),(35,(.slice a3 (hgt n+1) (hgt n+1)))] (zg (zb (zJ (zaj (X:=Nat×Option Addr×Nat) (fun ⟨i,ao,cp⟩=> [(37,(vI i))]) [10,11,12,38,39,40,41,42,43,44,45,46,47,48,49,50,51,52,53,54,55,56,57,58,59,60,61,62,63,64,65,66,67,68,69,70,71,72,73,74,75,76,77] (fun ⟨i,ao,cp⟩ w9=>i≤hgt n+1∧(∀k,k<i→k<hgt n→¬((zcP n t b k).es.get (idx b (hgt n-k-1)%4)).st=0)∧OwM zN 274 w8.heap.size w9.heap.size w9 ao i cp 47 (za7 n t b i)∧Blk w9 w6.heap.size ([(vI b),(.slice ao i cp)]) 26∧Chg (fun k=>k=w6.heap.size) w8 w9) (fun ⟨i,ao,cp⟩=>hgt n+1-i) (0,none,0) (by kernel_rfl) ⟨Nat.zero_le _,fun k h=>absurd h (Nat.not_lt_zero _),OwM.nil _ _ _ _ _ _ zac,hBw8,Chg.refl _ _⟩ ?_)))))))))
 rintro ⟨i,ao,cp⟩ dw9 w9 ⟨hi,hns,hO,hB9,hEl⟩
 have hzl:=hEl.size;have hl9:=hB9.lt
 have hmO:=hO.ms;have hleO:=hmO.le
 refine zf (ze (za (zG (some 38) (decide (((i:Nat):Int)<((hgt n+1:Nat):Int))) (fun hc38=> ?_) (fun hc38=> ?_))))
 ·replace hc38:i<hgt n+1:=by have:=zal hc38;omega
  have hij:=zbC (n:=n) (i:=b) (by omega) (hgt n-i)
  have hpl:=zbx (n:=n) (l:=hgt n-i) (j:=idx b (hgt n-i)) (by omega) hij
  have hib:=zeR b (hgt n-i)
  refine zg (zb (zf (zx (zA (zb (zf (zJ (zf (ze ?_)))))))))
  refine zd 1 [(39,(vI i))] ?_
  obtain ⟨b1,o1,rfl⟩:=hFz2_0.addr (by omega) (by decide)
  refine za (zi (some 40) (Instr.indexAt 94 (.slice (pA b1 o1) (hgt n+1) (hgt n+1)) (vI i)) (vP b1 (o1+i*2)) (zap (E:=70) (sz:=2) (by omega)) ?_)
  have hK2:=(((((hFz2_0.ext hEw7)).chg hCw8 (fun k h1 h2 hs=>by have h:k=_:=hs;omega))).chg hEl (fun k h1 h2 hs=>by have h:k=_:=hs;omega))
  refine za (zi (some 41) (Instr.loadAt 70 (vP b1 (o1+i*2))) (vA [(vI (hgt n-i)),(vI (idx b (hgt n-i)))]) (zI (vs:= [(vI (hgt n-i)),(vI (idx b (hgt n-i)))]) (by have hz:=hK2.at (0,0) (show i<hgt n+1 by omega);rw [zdE (by omega)] at hz;exact hz)) ?_)
  refine za (zz (some 11) (Instr.alloc 70 true (.tuple #[])) (vP w9.heap.size 0) ([(vI 0),(vI 0)]) 70 ?_)
  intro w10 hBw10 hEw10
  have hzw10:=hEw10.size;have hlw10:=hBw10.lt
  refine zd 1 [(10,(vI i))] (za (zE 70 w9.heap.size 0 70 (vA [(vI (hgt n-i)),(vI (idx b (hgt n-i)))]) ([(vI 0),(vI 0)]) ([(vI (hgt n-i)),(vI (idx b (hgt n-i)))]) hBw10 (by kernel_rfl) (by first | decide |(simp;done)|(simp;omega)) (by simp [Value.oneCell']) ?_))
  intro w11 hBw11 hCw11
  have hzw11:=hCw11.size
  rw [zq _ _ (by kernel_rfl)] at hBw11
  refine zg (zb (zf (zah (Ext w11.drew) 12 [(43,4,0),(44,4398046511104,1),(45,64,0),(46,2048,0),(47,35184372088832,8),(48,2048,0),(49,140737488355328,32),(50,369435906932736,84),(51,571746046443520,130),(52,1125899906842624,256),(13,0,0),(0,2251799813689344,2047)] (fun hT145=> ?_))))
  have hEw12:Ext w11 w11.drew:=Ext.drew w11
  generalize w11.drew=w12 at hEw12⊢
  have hzw12:=hEw12.size
  refine zl hT145 [(0,42,(vP w.heap.size 1))] 1 1 ?_
  have hK3:=(((((((((((((hK1.ext hEw6)).ext hEw7)).chg hCw8 (fun hs=>by have h:_=_:=hs;omega))).chg hEl (fun hs=>by have h:_=_:=hs;omega))).ext hEw10)).chg hCw11 (fun hs=>by have h:_=_:=hs;omega))).ext hEw12)
  refine zh hT145 1 3 (some 43) (.slice a_t n_t c_t) (zm (Instr.loadAt 24 (vP w.heap.size 1)) (fun w' hC=>zo ((hK3.ext hC).cell rfl))) ?_
  have hK4:=(((((((((((((hBw5.ext hEw6)).ext hEw7)).chg hCw8 (fun hs=>by have h:_=_:=hs;omega))).chg hEl (fun hs=>by have h:_=_:=hs;omega))).ext hEw10)).chg hCw11 (fun hs=>by have h:_=_:=hs;omega))).ext hEw12)
  refine zh hT145 2 7 (some 44) (vA [(vI n),(.slice a1 (hgt n+1) ca1),(.slice a2 (hgt n+1) ca2)]) (zm (Instr.loadAt 106 (vP w3.heap.size 0)) (fun w' hC=>zI (vs:= [(vI n),(.slice a1 (hgt n+1) ca1),(.slice a2 (hgt n+1) ca2)]) ((hK4.ext hC).all))) (zl hT145 [(3,45,(vP w9.heap.size 0))] 1 15 (zh hT145 4 31 (some 46) (vI (hgt n-i)) (zm (Instr.loadAt 3 (vP w9.heap.size 0)) (fun w' hC=>zo (((hBw11.ext hEw12).ext hC).cell rfl))) (zl hT145 [(5,47,(vP w9.heap.size 1))] 1 63 (zh hT145 6 127 (some 48) (vI (idx b (hgt n-i))) (zm (Instr.loadAt 3 (vP w9.heap.size 1)) (fun w' hC=>zo (((hBw11.ext hEw12).ext hC).cell rfl))) (zaB 7 10 255 1151 ?_ ?_)))))
  ·have hK5:=(((((((((((((((((hFz1_0.ext hEw4)).chg hCw5 (fun k h1 h2 hs=>by have h:k=_:=hs;omega))).ext hEw6)).ext hEw7)).chg hCw8 (fun k h1 h2 hs=>by have h:k=_:=hs;omega))).chg hEl (fun k h1 h2 hs=>by have h:k=_:=hs;omega))).ext hEw10)).chg hCw11 (fun k h1 h2 hs=>by have h:k=_:=hs;omega))).ext hEw12)
   have hK6:=(((((((((((((((((hFz1_1.ext hEw4)).chg hCw5 (fun k h1 h2 hs=>by have h:k=_:=hs;omega))).ext hEw6)).ext hEw7)).chg hCw8 (fun k h1 h2 hs=>by have h:k=_:=hs;omega))).chg hEl (fun k h1 h2 hs=>by have h:k=_:=hs;omega))).ext hEw10)).chg hCw11 (fun k h1 h2 hs=>by have h:k=_:=hs;omega))).ext hEw12)
   refine zk (some 49) (zcE n (hgt n-i) (idx b (hgt n-i)) _ hK5 hK6 (by first | rfl | assumption) (by first | rfl | assumption) (by omega) (by omega) (by omega) (by omega)) ?_
   rintro _ w13 ⟨rfl,hEw13⟩
   have hzw13:=hEw13.size
   refine ⟨.inr hEw13, ?_⟩
   obtain ⟨b2,o2,rfl⟩:=h_t.addr (by omega) (by decide)
   refine zh (hw:=show Ext w12 w13 from hEw13) hT145 8 511 (some 50) (vP b2 (o2+(num n (hgt n-i)+(idx b (hgt n-i)))*274)) (zm (Instr.indexAt 24 (.slice (pA b2 o2) n_t c_t) (vI (num n (hgt n-i)+(idx b (hgt n-i))))) (fun w' hC=>zap (E:=47) (sz:=274) (by omega))) ?_
   have hK7:=(((((((((((((((((((((((h_t.ext hEw1)).ext hEw2)).ext hEw3)).ext hEw4)).chg hCw5 (fun k h1 h2 hs=>by have h:k=_:=hs;omega))).ext hEw6)).ext hEw7)).chg hCw8 (fun k h1 h2 hs=>by have h:k=_:=hs;omega))).chg hEl (fun k h1 h2 hs=>by have h:k=_:=hs;omega))).ext hEw10)).chg hCw11 (fun k h1 h2 hs=>by have h:k=_:=hs;omega))).ext hEw12)
   refine zh (hw:=show Ext w12 w13 from hEw13) hT145 9 1023 (some 51) (vA (zN (t.getD (num n (hgt n-i)+(idx b (hgt n-i))) Nod.zero))) (zm (Instr.loadAt 47 (vP b2 (o2+(num n (hgt n-i)+(idx b (hgt n-i)))*274))) (fun w' hC=>zI (vs:=zN (t.getD (num n (hgt n-i)+(idx b (hgt n-i))) Nod.zero)) ((hK7.ext hC).at Nod.zero (by omega)) (by rw [zac];kernel_rfl))) (zu 10 2047 (zz (some 12) (Instr.alloc 47 true (.tuple #[])) (vP w13.heap.size 0) (zN Nod.zero) 47 ?_))
   intro w14 hBw14 hEw14
   have hzw14:=hEw14.size;have hlw14:=hBw14.lt
   refine ⟨.inr (hEw13.trans hEw14), ?_⟩
   refine zu 11 4095 (zE 47 w13.heap.size 0 47 (vA (zN (t.getD (num n (hgt n-i)+(idx b (hgt n-i))) Nod.zero))) (zN Nod.zero) (zN (t.getD (num n (hgt n-i)+(idx b (hgt n-i))) Nod.zero)) hBw14 (by rw [zac];kernel_rfl) (by first |(simp;done)|(simp;omega)) (zcH _) ?_)
   intro w15 hBw15 hCw15
   have hzw15:=hCw15.size
   rw [zq _ _ (by simp)] at hBw15
   refine ⟨.inl (by kernel_rfl), ?_⟩
   refine zL (zb (zf (ze (zd 1 [(52,(vP w6.heap.size 1))] ?_))))
   have hK8:=(((((((((((hB9.ext hEw10)).chg hCw11 (fun hs=>by have h:_=_:=hs;omega))).ext hEw12)).ext hEw13)).ext hEw14)).chg hCw15 (fun hs=>by have h:_=_:=hs;omega))
   refine za (zi (some 53) (Instr.loadAt 24 (vP w6.heap.size 1)) (.slice ao i cp) (zo (hK8.cell rfl)) ?_)
   refine za (zi (some 54) (Instr.loadAt 47 (vP w13.heap.size 0)) (vA (zN (t.getD (num n (hgt n-i)+(idx b (hgt n-i))) Nod.zero))) (zI (vs:=zN (t.getD (num n (hgt n-i)+(idx b (hgt n-i))) Nod.zero)) (hBw15.all) (by rw [zac];kernel_rfl)) ?_)
   refine za (zz (some 55) (Instr.buildSlice 24 1 #[(0,(vA (zN (t.getD (num n (hgt n-i)+(idx b (hgt n-i))) Nod.zero))))]) (.slice (pA w15.heap.size 0) 1 1) (([(t.getD (num n (hgt n-i)+(idx b (hgt n-i))) Nod.zero)]:List Nod).flatMap zN) 47 ?_ (hr:=zgu (f:=zN) (sz:=274) (z:=(vA (zN Nod.zero))) [(t.getD (num n (hgt n-i)+(idx b (hgt n-i))) Nod.zero)] zac (by decide) rfl (Nat.succ_pos _) (show 274≤2^24 from by decide) rfl))
   intro w16 hBw16 hEw16
   have hzw16:=hEw16.size;have hlw16:=hBw16.lt
   have hmw16:Ms zN 274 w15.heap.size (w15.heap.size+1) w16 (pA w15.heap.size 0) 1 1 [(t.getD (num n (hgt n-i)+(idx b (hgt n-i))) Nod.zero)]:=Ms.of_pre (r:= []) (by rw [List.append_nil];exact hBw16) zac rfl (Nat.le_refl _) (by decide) (Nat.le_refl _) (Nat.lt_succ_self _)
   have hK9:=(((((((((((((hO.ext hEw10)).chg hCw11 (fun k h1 h2 hs=>by have h:k=_:=hs;omega))).ext hEw12)).ext hEw13)).ext hEw14)).chg hCw15 (fun k h1 h2 hs=>by have h:k=_:=hs;omega))).ext hEw16)
   refine za (zhD (some 56) 24 24 47 368 (vA (zN Nod.zero)) hK9 hmw16 zcH ?_ (by rw [Value.cells,List.size_toArray,zac]) (by decide))
   intro a4 c1 w17 hOw17 hCw17
   have hzw17:=hCw17.size
   have hSw17:=hOw17.ms;have hlea4:=hSw17.le
   refine zd 1 [(57,(vP w6.heap.size 1))] ?_
   have hK10:=(((((((((((((hO.ext hEw10)).chg hCw11 (fun k h1 h2 hs=>by have h:k=_:=hs;omega))).ext hEw12)).ext hEw13)).ext hEw14)).chg hCw15 (fun k h1 h2 hs=>by have h:k=_:=hs;omega))).ext hEw16)
   refine za (zY 24 w6.heap.size 1 26 (.slice a4 (i+1) c1) ([(vI b),(.slice ao i cp)]) (((hK8.ext hEw16)).chg hCw17 (fun hs=>by have hn:=hK10.ne hs;omega)) (by first | decide |(simp;done)|(simp;omega)) ?_)
   have hK11:=(((((((((((((hO.ext hEw10)).chg hCw11 (fun k h1 h2 hs=>by have h:k=_:=hs;omega))).ext hEw12)).ext hEw13)).ext hEw14)).chg hCw15 (fun k h1 h2 hs=>by have h:k=_:=hs;omega))).ext hEw16)
   intro w18 hBw18 hCw18
   have hzw18:=hCw18.size
   rw [show (([(vI b),(.slice ao i cp)]).set 1 (.slice a4 (i+1) c1):List Value)= [(vI b),(.slice a4 (i+1) c1)] from rfl] at hBw18
   refine zg (zb (zf (ze (zd 1 [(58,(vI i))] (za (zB (some 59) .i64 (IntKind.i64.wrap (((i:Nat):Int)+((1:Nat):Int))) (i+1) (zF (by omega) (by omega) (by omega)) ?_))))))
   refine zd 2 [(61,(vI (hgt n+1))),(60,(.slice (pA b1 o1) (hgt n+1) (hgt n+1)))] (za (zG (some 62) (decide (((i+1:Nat):Int)<((hgt n+1:Nat):Int))) (fun hc62=> ?_) (fun hc62=> ?_)))
   ·replace hc62:i+1<hgt n+1:=by have:=zal hc62;omega
    have hq3:((zdl n b).getD (i+1) (0,0)).2=idx b (hgt n-i-1):=by rw [zdE (by omega)];rfl
    have hib2:=zeR b (hgt n-i-1)
    refine zd 3 [(65,(vI i)),(64,(.slice (pA b1 o1) (hgt n+1) (hgt n+1))),(63,vT)] (za (zB (some 66) .i64 (IntKind.i64.wrap (((i:Nat):Int)+((1:Nat):Int))) (i+1) (zF (by omega) (by omega) (by omega)) ?_))
    refine za (zi (some 67) (Instr.indexAt 94 (.slice (pA b1 o1) (hgt n+1) (hgt n+1)) (vI (i+1))) (vP b1 (o1+(i+1)*2)) (zap (E:=70) (sz:=2) (by omega)) ?_)
    refine zd 1 [(68,(vP b1 (o1+(i+1)*2+1)))] ?_
    have hK12:=(((((((((((((hO.ext hEw10)).chg hCw11 (fun k h1 h2 hs=>by have h:k=_:=hs;omega))).ext hEw12)).ext hEw13)).ext hEw14)).chg hCw15 (fun k h1 h2 hs=>by have h:k=_:=hs;omega))).ext hEw16)
    have hK13:=(((((((((((((((((hK2.ext hEw10)).chg hCw11 (fun k h1 h2 hs=>by have h:k=_:=hs;omega))).ext hEw12)).ext hEw13)).ext hEw14)).chg hCw15 (fun k h1 h2 hs=>by have h:k=_:=hs;omega))).ext hEw16)).chg hCw17 (fun k h1 h2 hs=>by have hn:=hK12.ne hs;omega))).chg hCw18 (fun k h1 h2 hs=>by have h:k=_:=hs;omega))
    refine za (zi (some 69) (Instr.loadAt 3 (vP b1 (o1+(i+1)*2+1))) (vI (((zdl n b).getD (i+1) (0,0)).2)) (zo (hK13.cell (j:=1) (0,0) (by omega) rfl)) ?_)
    refine za (zB (some 70) .i64 (((((zdl n b).getD (i+1) (0,0)).2:Nat):Int).tmod ((4:Nat):Int)) (idx b (hgt n-i-1)%4) ((zb3 _ _).trans (by rw [hq3])) ?_)
    refine zd 1 [(71,(vP w13.heap.size 142))] (za (zi (some 72) (Instr.indexAt 45 (vP w13.heap.size 142) (vI (idx b (hgt n-i-1)%4))) (vP w13.heap.size (142+(idx b (hgt n-i-1)%4)*33)) (zW (E:=44) (sz:=33) (m:=4) (by omega)) ?_))
    refine zd 1 [(73,(vP w13.heap.size (142+(idx b (hgt n-i-1)%4)*33)))] ?_
    have hK14:=(((((((((((((hO.ext hEw10)).chg hCw11 (fun k h1 h2 hs=>by have h:k=_:=hs;omega))).ext hEw12)).ext hEw13)).ext hEw14)).chg hCw15 (fun k h1 h2 hs=>by have h:k=_:=hs;omega))).ext hEw16)
    have hK15:=(((((hBw15.ext hEw16)).chg hCw17 (fun hs=>by have hn:=hK14.ne hs;omega))).chg hCw18 (fun hs=>by have h:_=_:=hs;omega))
    refine za (zi (some 74) (Instr.loadAt 5 (vP w13.heap.size (142+(idx b (hgt n-i-1)%4)*33))) (vB (((t.getD (num n (hgt n-i)+(idx b (hgt n-i))) Nod.zero).es.get (idx b (hgt n-i-1)%4)).st)) (zo (hK15.cell (zh1 (by omega)))) ?_)
    refine za (zG (some 75) ((((((t.getD (num n (hgt n-i)+(idx b (hgt n-i))) Nod.zero).es.get (idx b (hgt n-i-1)%4)).st:Nat):Int)==((0:Nat):Int))) (fun hc75=> ?_) (fun hc75=> ?_))
    ·replace hc75:((t.getD (num n (hgt n-i)+(idx b (hgt n-i))) Nod.zero).es.get (idx b (hgt n-i-1)%4)).st=0:=by have:=zat hc75;omega
     have hmn:mny n t b=i+1:=znl (by omega) (show ((zcP n t b i).es.get (idx b (hgt n-i-1)%4)).st=0 from hc75) (fun k hk=>hns k hk (by omega))
     refine zd 1 [(76,vT)] (zg (zb (zx (zag (zdY (by decide) (zH (zH (zT (zb ?_)))))))))
     refine zf (ze (zd 1 [(78,(vP w6.heap.size 1))] (za (zi (some 79) (Instr.loadAt 24 (vP w6.heap.size 1)) (.slice a4 (i+1) c1) (zo (hBw18.cell rfl)) ?_))))
     refine za (zk (some 80) (zhM _ ((hSw17).chg hCw18 (fun k h1 h2 hs=>by have h:k=_:=hs;omega))) ?_)
     rintro _ _ ⟨a5,rfl,hFz4_0,rfl⟩
     have hlea5:=hFz4_0.le
     refine zd 1 [(81,(vP w6.heap.size 1))] (za (zY 24 w6.heap.size 1 26 (.slice a5 (i+1) (i+1)) ([(vI b),(.slice a4 (i+1) c1)]) hBw18 (by first | decide |(simp;done)|(simp;omega)) ?_))
     intro w19 hBw19 hCw19
     have hzw19:=hCw19.size
     rw [show (([(vI b),(.slice a4 (i+1) c1)]).set 1 (.slice a5 (i+1) (i+1)):List Value)= [(vI b),(.slice a5 (i+1) (i+1))] from rfl] at hBw19
     refine zg (zb (zf (ze (za (zi (some 82) (Instr.loadAt 26 (vP w6.heap.size 0)) (vA [(vI b),(.slice a5 (i+1) (i+1))]) (zI (vs:= [(vI b),(.slice a5 (i+1) (i+1))]) (hBw19.all)) ?_)))))
     have hK16:=(((((((((((((hO.ext hEw10)).chg hCw11 (fun k h1 h2 hs=>by have h:k=_:=hs;omega))).ext hEw12)).ext hEw13)).ext hEw14)).chg hCw15 (fun k h1 h2 hs=>by have h:k=_:=hs;omega))).ext hEw16)
     have hK17:=(((((((((((((((((((((((((((((((((hBw2.ext hEw3)).ext hEw4)).chg hCw5 (fun hs=>by have h:_=_:=hs;omega))).ext hEw6)).ext hEw7)).chg hCw8 (fun hs=>by have h:_=_:=hs;omega))).chg hEl (fun hs=>by have h:_=_:=hs;omega))).ext hEw10)).chg hCw11 (fun hs=>by have h:_=_:=hs;omega))).ext hEw12)).ext hEw13)).ext hEw14)).chg hCw15 (fun hs=>by have h:_=_:=hs;omega))).ext hEw16)).chg hCw17 (fun hs=>by have hn:=hK16.ne hs;omega))).chg hCw18 (fun hs=>by have h:_=_:=hs;omega))).chg hCw19 (fun hs=>by have h:_=_:=hs;omega))
     refine za (zE 26 w1.heap.size 0 26 (vA [(vI b),(.slice a5 (i+1) (i+1))]) ([(vI 0),(.slice none 0 0)]) ([(vI b),(.slice a5 (i+1) (i+1))]) hK17 (by kernel_rfl) (by first | decide |(simp;done)|(simp;omega)) (by simp [Value.oneCell']) ?_)
     have hK18:=(((((((((((((hO.ext hEw10)).chg hCw11 (fun k h1 h2 hs=>by have h:k=_:=hs;omega))).ext hEw12)).ext hEw13)).ext hEw14)).chg hCw15 (fun k h1 h2 hs=>by have h:k=_:=hs;omega))).ext hEw16)
     have hK19:=(((((((((((((((((((((((((((((((((hBw2.ext hEw3)).ext hEw4)).chg hCw5 (fun hs=>by have h:_=_:=hs;omega))).ext hEw6)).ext hEw7)).chg hCw8 (fun hs=>by have h:_=_:=hs;omega))).chg hEl (fun hs=>by have h:_=_:=hs;omega))).ext hEw10)).chg hCw11 (fun hs=>by have h:_=_:=hs;omega))).ext hEw12)).ext hEw13)).ext hEw14)).chg hCw15 (fun hs=>by have h:_=_:=hs;omega))).ext hEw16)).chg hCw17 (fun hs=>by have hn:=hK18.ne hs;omega))).chg hCw18 (fun hs=>by have h:_=_:=hs;omega))).chg hCw19 (fun hs=>by have h:_=_:=hs;omega))
     intro w20 hBw20 hCw20
     have hzw20:=hCw20.size
     rw [zq _ _ (by kernel_rfl)] at hBw20
     refine zd 1 [(5,(vI 0))] (zg (zb (zp (zam (show zS Tryz.prog 83 _ _ (.cell 4 26) (vA [(vI b),(.slice a5 (i+1) (i+1))]) from ⟨⟨w1.heap.size,0,none⟩,(by kernel_rfl),zM (T:=26) (vs:= [(vI b),(.slice a5 (i+1) (i+1))]) (hBw20).all (by kernel_rfl)⟩) (show zS Tryz.prog 83 _ _ (.tmp 5) (vI 0) by (show _=_;kernel_rfl)) ?_))))
     have hK20:=(((((((((((((hO.ext hEw10)).chg hCw11 (fun k h1 h2 hs=>by have h:k=_:=hs;omega))).ext hEw12)).ext hEw13)).ext hEw14)).chg hCw15 (fun k h1 h2 hs=>by have h:k=_:=hs;omega))).ext hEw16)
     have hX1:Ext w w20:=(Ext.own (Ext.own (Ext.own (Ext.ownS ((Ext.own ((((Ext.own ((Ext.own (Ext.own (((Ext.own (((hEw1.trans hEw2).trans hEw3).trans hEw4) hCw5 (by omega)).trans hEw6).trans hEw7) hCw8 (by omega)) hEl (by omega)).trans hEw10) hCw11 (by omega)).trans hEw12).trans hEw13).trans hEw14) hCw15 (by omega)).trans hEw16) hCw17 (fun k hs hk=>by have hn:=hK20.ne hs;omega)) hCw18 (by omega)) hCw19 (by omega)) hCw20 (by omega))
     rw [hmn,zdN]
     exact ⟨_,rfl,(((((hFz4_0).chg hCw19 (fun k h1 h2 hs=>by have h:k=_:=hs;omega))).chg hCw20 (fun k h1 h2 hs=>by have h:k=_:=hs;omega))).now.mono (by omega) (Nat.le_refl _),hX1⟩
    ·replace hc75:¬(((t.getD (num n (hgt n-i)+(idx b (hgt n-i))) Nod.zero).es.get (idx b (hgt n-i-1)%4)).st=0):=by have:=zas hc75;omega
     have hst:i<hgt n→¬((zcP n t b i).es.get (idx b (hgt n-i-1)%4)).st=0:=fun _=>hc75
     refine zd 1 [(76,vF)] (zg (zb (zn (zA (zr (zb (ze (za (zB (some 77) .i64 (IntKind.i64.wrap (((i:Nat):Int)+((1:Nat):Int))) (i+1) (zF (by omega) (by omega) (by omega)) ?_)))))))))
     refine zd 1 [(37,(vI (i+1)))] (zg (zD ?_))
     have hK21:=(((((((((((((hO.ext hEw10)).chg hCw11 (fun k h1 h2 hs=>by have h:k=_:=hs;omega))).ext hEw12)).ext hEw13)).ext hEw14)).chg hCw15 (fun k h1 h2 hs=>by have h:k=_:=hs;omega))).ext hEw16)
     refine zR (i+1,a4,c1) ?_ ?_
     ·exact ⟨by omega,fun k hk hh=>by rcases Nat.lt_succ_iff_lt_or_eq.1 hk with h1 | rfl;exact hns k h1 hh;exact hst hh,by rw [zdN];exact (((hOw17).chg hCw18 (fun k h1 h2 hs=>by have h:k=_:=hs;omega))).now,hBw18,(Chg.then (Chg.then ((Chg.then ((((Chg.then ((Chg.then (Chg.refl (fun k=>k=w6.heap.size) w8) hEl (fun k hk hs=>by have h:k=_:=hs;first | exact hs | exact .inl h | exact .inr h |(exfalso;omega))).trans hEw10.chg) hCw11 (fun k hk hs=>by have h:k=_:=hs;first | exact hs | exact .inl h | exact .inr h |(exfalso;omega))).trans hEw12.chg).trans hEw13.chg).trans hEw14.chg) hCw15 (fun k hk hs=>by have h:k=_:=hs;first | exact hs | exact .inl h | exact .inr h |(exfalso;omega))).trans hEw16.chg) hCw17 (fun k hk hs=>by have hn:=hK21.ne hs;first | exact hs | exact .inl h | exact .inr h |(exfalso;omega))) hCw18 (fun k hk hs=>by have h:k=_:=hs;first | exact hs | exact .inl h | exact .inr h |(exfalso;omega)))⟩
     ·first | omega |(dsimp only;omega)
   ·replace hc62:¬(i+1<hgt n+1):=by have:=zak hc62;omega
    have hst:i<hgt n→¬((zcP n t b i).es.get (idx b (hgt n-i-1)%4)).st=0:=fun hh=>absurd hh (by omega)
    refine zd 14 [(76,vF),(75,undef),(74,undef),(73,undef),(72,undef),(71,undef),(70,undef),(69,undef),(68,undef),(67,undef),(66,undef),(65,undef),(64,undef),(63,vF)] (zg (zb (zn (zA (zr (zb (ze (za (zB (some 77) .i64 (IntKind.i64.wrap (((i:Nat):Int)+((1:Nat):Int))) (i+1) (zF (by omega) (by omega) (by omega)) ?_)))))))))
    refine zd 1 [(37,(vI (i+1)))] (zg (zD ?_))
    have hK22:=(((((((((((((hO.ext hEw10)).chg hCw11 (fun k h1 h2 hs=>by have h:k=_:=hs;omega))).ext hEw12)).ext hEw13)).ext hEw14)).chg hCw15 (fun k h1 h2 hs=>by have h:k=_:=hs;omega))).ext hEw16)
    refine zR (i+1,a4,c1) ?_ ?_
    ·exact ⟨by omega,fun k hk hh=>by rcases Nat.lt_succ_iff_lt_or_eq.1 hk with h1 | rfl;exact hns k h1 hh;exact hst hh,by rw [zdN];exact (((hOw17).chg hCw18 (fun k h1 h2 hs=>by have h:k=_:=hs;omega))).now,hBw18,(Chg.then (Chg.then ((Chg.then ((((Chg.then ((Chg.then (Chg.refl (fun k=>k=w6.heap.size) w8) hEl (fun k hk hs=>by have h:k=_:=hs;first | exact hs | exact .inl h | exact .inr h |(exfalso;omega))).trans hEw10.chg) hCw11 (fun k hk hs=>by have h:k=_:=hs;first | exact hs | exact .inl h | exact .inr h |(exfalso;omega))).trans hEw12.chg).trans hEw13.chg).trans hEw14.chg) hCw15 (fun k hk hs=>by have h:k=_:=hs;first | exact hs | exact .inl h | exact .inr h |(exfalso;omega))).trans hEw16.chg) hCw17 (fun k hk hs=>by have hn:=hK22.ne hs;first | exact hs | exact .inl h | exact .inr h |(exfalso;omega))) hCw18 (fun k hk hs=>by have h:k=_:=hs;first | exact hs | exact .inl h | exact .inr h |(exfalso;omega)))⟩
    ·first | omega |(dsimp only;omega)
  ·refine zz (some 12) (Instr.alloc 47 true (.tuple #[])) (vP w12.heap.size 0) (zN Nod.zero) 47 ?_
   intro w21 hBw21 hEw21
   have hzw21:=hEw21.size;have hlw21:=hBw21.lt
   refine ⟨.inr hEw21, ?_⟩
   have hK23:=(((((((((((((((((((hFz1_0.ext hEw4)).chg hCw5 (fun k h1 h2 hs=>by have h:k=_:=hs;omega))).ext hEw6)).ext hEw7)).chg hCw8 (fun k h1 h2 hs=>by have h:k=_:=hs;omega))).chg hEl (fun k h1 h2 hs=>by have h:k=_:=hs;omega))).ext hEw10)).chg hCw11 (fun k h1 h2 hs=>by have h:k=_:=hs;omega))).ext hEw12)).ext hEw21)
   have hK24:=(((((((((((((((((((hFz1_1.ext hEw4)).chg hCw5 (fun k h1 h2 hs=>by have h:k=_:=hs;omega))).ext hEw6)).ext hEw7)).chg hCw8 (fun k h1 h2 hs=>by have h:k=_:=hs;omega))).chg hEl (fun k h1 h2 hs=>by have h:k=_:=hs;omega))).ext hEw10)).chg hCw11 (fun k h1 h2 hs=>by have h:k=_:=hs;omega))).ext hEw12)).ext hEw21)
   refine zu 7 1279 (zk (some 49) (zcE n (hgt n-i) (idx b (hgt n-i)) _ hK23 hK24 (by first | rfl | assumption) (by first | rfl | assumption) (by omega) (by omega) (by omega) (by omega)) ?_)
   rintro _ w22 ⟨rfl,hEw22⟩
   have hzw22:=hEw22.size
   refine ⟨.inr (hEw21.trans hEw22), ?_⟩
   obtain ⟨b3,o3,rfl⟩:=h_t.addr (by omega) (by decide)
   refine zh (hw:=show Ext w12 w22 from (hEw21.trans hEw22)) hT145 8 1535 (some 50) (vP b3 (o3+(num n (hgt n-i)+(idx b (hgt n-i)))*274)) (zm (Instr.indexAt 24 (.slice (pA b3 o3) n_t c_t) (vI (num n (hgt n-i)+(idx b (hgt n-i))))) (fun w' hC=>zap (E:=47) (sz:=274) (by omega))) ?_
   have hK25:=(((((((((((((((((((((((h_t.ext hEw1)).ext hEw2)).ext hEw3)).ext hEw4)).chg hCw5 (fun k h1 h2 hs=>by have h:k=_:=hs;omega))).ext hEw6)).ext hEw7)).chg hCw8 (fun k h1 h2 hs=>by have h:k=_:=hs;omega))).chg hEl (fun k h1 h2 hs=>by have h:k=_:=hs;omega))).ext hEw10)).chg hCw11 (fun k h1 h2 hs=>by have h:k=_:=hs;omega))).ext hEw12)
   refine zh (hw:=show Ext w12 w22 from (hEw21.trans hEw22)) hT145 9 2047 (some 51) (vA (zN (t.getD (num n (hgt n-i)+(idx b (hgt n-i))) Nod.zero))) (zm (Instr.loadAt 47 (vP b3 (o3+(num n (hgt n-i)+(idx b (hgt n-i)))*274))) (fun w' hC=>zI (vs:=zN (t.getD (num n (hgt n-i)+(idx b (hgt n-i))) Nod.zero)) ((hK25.ext hC).at Nod.zero (by omega)) (by rw [zac];kernel_rfl))) (zu 11 4095 (zE 47 w12.heap.size 0 47 (vA (zN (t.getD (num n (hgt n-i)+(idx b (hgt n-i))) Nod.zero))) (zN Nod.zero) (zN (t.getD (num n (hgt n-i)+(idx b (hgt n-i))) Nod.zero)) (hBw21.ext hEw22) (by rw [zac];kernel_rfl) (by first |(simp;done)|(simp;omega)) (zcH _) ?_))
   intro w23 hBw23 hCw23
   have hzw23:=hCw23.size
   rw [zq _ _ (by simp)] at hBw23
   refine ⟨.inl (by kernel_rfl), ?_⟩
   refine zL (zb (zf (ze (zd 1 [(52,(vP w6.heap.size 1))] ?_))))
   have hK26:=(((((((((((hB9.ext hEw10)).chg hCw11 (fun hs=>by have h:_=_:=hs;omega))).ext hEw12)).ext hEw21)).ext hEw22)).chg hCw23 (fun hs=>by have h:_=_:=hs;omega))
   refine za (zi (some 53) (Instr.loadAt 24 (vP w6.heap.size 1)) (.slice ao i cp) (zo (hK26.cell rfl)) ?_)
   refine za (zi (some 54) (Instr.loadAt 47 (vP w12.heap.size 0)) (vA (zN (t.getD (num n (hgt n-i)+(idx b (hgt n-i))) Nod.zero))) (zI (vs:=zN (t.getD (num n (hgt n-i)+(idx b (hgt n-i))) Nod.zero)) (hBw23.all) (by rw [zac];kernel_rfl)) ?_)
   refine za (zz (some 55) (Instr.buildSlice 24 1 #[(0,(vA (zN (t.getD (num n (hgt n-i)+(idx b (hgt n-i))) Nod.zero))))]) (.slice (pA w23.heap.size 0) 1 1) (([(t.getD (num n (hgt n-i)+(idx b (hgt n-i))) Nod.zero)]:List Nod).flatMap zN) 47 ?_ (hr:=zgu (f:=zN) (sz:=274) (z:=(vA (zN Nod.zero))) [(t.getD (num n (hgt n-i)+(idx b (hgt n-i))) Nod.zero)] zac (by decide) rfl (Nat.succ_pos _) (show 274≤2^24 from by decide) rfl))
   intro w24 hBw24 hEw24
   have hzw24:=hEw24.size;have hlw24:=hBw24.lt
   have hmw24:Ms zN 274 w23.heap.size (w23.heap.size+1) w24 (pA w23.heap.size 0) 1 1 [(t.getD (num n (hgt n-i)+(idx b (hgt n-i))) Nod.zero)]:=Ms.of_pre (r:= []) (by rw [List.append_nil];exact hBw24) zac rfl (Nat.le_refl _) (by decide) (Nat.le_refl _) (Nat.lt_succ_self _)
   have hK27:=(((((((((((((hO.ext hEw10)).chg hCw11 (fun k h1 h2 hs=>by have h:k=_:=hs;omega))).ext hEw12)).ext hEw21)).ext hEw22)).chg hCw23 (fun k h1 h2 hs=>by have h:k=_:=hs;omega))).ext hEw24)
   refine za (zhD (some 56) 24 24 47 368 (vA (zN Nod.zero)) hK27 hmw24 zcH ?_ (by rw [Value.cells,List.size_toArray,zac]) (by decide))
   intro a6 c2 w25 hOw25 hCw25
   have hzw25:=hCw25.size
   have hSw25:=hOw25.ms;have hlea6:=hSw25.le
   refine zd 1 [(57,(vP w6.heap.size 1))] ?_
   have hK28:=(((((((((((((hO.ext hEw10)).chg hCw11 (fun k h1 h2 hs=>by have h:k=_:=hs;omega))).ext hEw12)).ext hEw21)).ext hEw22)).chg hCw23 (fun k h1 h2 hs=>by have h:k=_:=hs;omega))).ext hEw24)
   refine za (zY 24 w6.heap.size 1 26 (.slice a6 (i+1) c2) ([(vI b),(.slice ao i cp)]) (((hK26.ext hEw24)).chg hCw25 (fun hs=>by have hn:=hK28.ne hs;omega)) (by first | decide |(simp;done)|(simp;omega)) ?_)
   have hK29:=(((((((((((((hO.ext hEw10)).chg hCw11 (fun k h1 h2 hs=>by have h:k=_:=hs;omega))).ext hEw12)).ext hEw21)).ext hEw22)).chg hCw23 (fun k h1 h2 hs=>by have h:k=_:=hs;omega))).ext hEw24)
   intro w26 hBw26 hCw26
   have hzw26:=hCw26.size
   rw [show (([(vI b),(.slice ao i cp)]).set 1 (.slice a6 (i+1) c2):List Value)= [(vI b),(.slice a6 (i+1) c2)] from rfl] at hBw26
   refine zg (zb (zf (ze (zd 1 [(58,(vI i))] (za (zB (some 59) .i64 (IntKind.i64.wrap (((i:Nat):Int)+((1:Nat):Int))) (i+1) (zF (by omega) (by omega) (by omega)) ?_))))))
   refine zd 2 [(61,(vI (hgt n+1))),(60,(.slice (pA b1 o1) (hgt n+1) (hgt n+1)))] (za (zG (some 62) (decide (((i+1:Nat):Int)<((hgt n+1:Nat):Int))) (fun hc62=> ?_) (fun hc62=> ?_)))
   ·replace hc62:i+1<hgt n+1:=by have:=zal hc62;omega
    have hq3:((zdl n b).getD (i+1) (0,0)).2=idx b (hgt n-i-1):=by rw [zdE (by omega)];rfl
    have hib2:=zeR b (hgt n-i-1)
    refine zd 3 [(65,(vI i)),(64,(.slice (pA b1 o1) (hgt n+1) (hgt n+1))),(63,vT)] (za (zB (some 66) .i64 (IntKind.i64.wrap (((i:Nat):Int)+((1:Nat):Int))) (i+1) (zF (by omega) (by omega) (by omega)) ?_))
    refine za (zi (some 67) (Instr.indexAt 94 (.slice (pA b1 o1) (hgt n+1) (hgt n+1)) (vI (i+1))) (vP b1 (o1+(i+1)*2)) (zap (E:=70) (sz:=2) (by omega)) ?_)
    refine zd 1 [(68,(vP b1 (o1+(i+1)*2+1)))] ?_
    have hK30:=(((((((((((((hO.ext hEw10)).chg hCw11 (fun k h1 h2 hs=>by have h:k=_:=hs;omega))).ext hEw12)).ext hEw21)).ext hEw22)).chg hCw23 (fun k h1 h2 hs=>by have h:k=_:=hs;omega))).ext hEw24)
    have hK31:=(((((((((((((((((hK2.ext hEw10)).chg hCw11 (fun k h1 h2 hs=>by have h:k=_:=hs;omega))).ext hEw12)).ext hEw21)).ext hEw22)).chg hCw23 (fun k h1 h2 hs=>by have h:k=_:=hs;omega))).ext hEw24)).chg hCw25 (fun k h1 h2 hs=>by have hn:=hK30.ne hs;omega))).chg hCw26 (fun k h1 h2 hs=>by have h:k=_:=hs;omega))
    refine za (zi (some 69) (Instr.loadAt 3 (vP b1 (o1+(i+1)*2+1))) (vI (((zdl n b).getD (i+1) (0,0)).2)) (zo (hK31.cell (j:=1) (0,0) (by omega) rfl)) ?_)
    refine za (zB (some 70) .i64 (((((zdl n b).getD (i+1) (0,0)).2:Nat):Int).tmod ((4:Nat):Int)) (idx b (hgt n-i-1)%4) ((zb3 _ _).trans (by rw [hq3])) ?_)
    refine zd 1 [(71,(vP w12.heap.size 142))] (za (zi (some 72) (Instr.indexAt 45 (vP w12.heap.size 142) (vI (idx b (hgt n-i-1)%4))) (vP w12.heap.size (142+(idx b (hgt n-i-1)%4)*33)) (zW (E:=44) (sz:=33) (m:=4) (by omega)) ?_))
    refine zd 1 [(73,(vP w12.heap.size (142+(idx b (hgt n-i-1)%4)*33)))] ?_
    have hK32:=(((((((((((((hO.ext hEw10)).chg hCw11 (fun k h1 h2 hs=>by have h:k=_:=hs;omega))).ext hEw12)).ext hEw21)).ext hEw22)).chg hCw23 (fun k h1 h2 hs=>by have h:k=_:=hs;omega))).ext hEw24)
    have hK33:=(((((hBw23.ext hEw24)).chg hCw25 (fun hs=>by have hn:=hK32.ne hs;omega))).chg hCw26 (fun hs=>by have h:_=_:=hs;omega))
    refine za (zi (some 74) (Instr.loadAt 5 (vP w12.heap.size (142+(idx b (hgt n-i-1)%4)*33))) (vB (((t.getD (num n (hgt n-i)+(idx b (hgt n-i))) Nod.zero).es.get (idx b (hgt n-i-1)%4)).st)) (zo (hK33.cell (zh1 (by omega)))) ?_)
    refine za (zG (some 75) ((((((t.getD (num n (hgt n-i)+(idx b (hgt n-i))) Nod.zero).es.get (idx b (hgt n-i-1)%4)).st:Nat):Int)==((0:Nat):Int))) (fun hc75=> ?_) (fun hc75=> ?_))
    ·replace hc75:((t.getD (num n (hgt n-i)+(idx b (hgt n-i))) Nod.zero).es.get (idx b (hgt n-i-1)%4)).st=0:=by have:=zat hc75;omega
     have hmn:mny n t b=i+1:=znl (by omega) (show ((zcP n t b i).es.get (idx b (hgt n-i-1)%4)).st=0 from hc75) (fun k hk=>hns k hk (by omega))
     refine zd 1 [(76,vT)] (zg (zb (zx (zag (zdY (by decide) (zH (zH (zT (zb ?_)))))))))
     refine zf (ze (zd 1 [(78,(vP w6.heap.size 1))] (za (zi (some 79) (Instr.loadAt 24 (vP w6.heap.size 1)) (.slice a6 (i+1) c2) (zo (hBw26.cell rfl)) ?_))))
     refine za (zk (some 80) (zhM _ ((hSw25).chg hCw26 (fun k h1 h2 hs=>by have h:k=_:=hs;omega))) ?_)
     rintro _ _ ⟨a7,rfl,hFz6_0,rfl⟩
     have hlea7:=hFz6_0.le
     refine zd 1 [(81,(vP w6.heap.size 1))] (za (zY 24 w6.heap.size 1 26 (.slice a7 (i+1) (i+1)) ([(vI b),(.slice a6 (i+1) c2)]) hBw26 (by first | decide |(simp;done)|(simp;omega)) ?_))
     intro w27 hBw27 hCw27
     have hzw27:=hCw27.size
     rw [show (([(vI b),(.slice a6 (i+1) c2)]).set 1 (.slice a7 (i+1) (i+1)):List Value)= [(vI b),(.slice a7 (i+1) (i+1))] from rfl] at hBw27
     refine zg (zb (zf (ze (za (zi (some 82) (Instr.loadAt 26 (vP w6.heap.size 0)) (vA [(vI b),(.slice a7 (i+1) (i+1))]) (zI (vs:= [(vI b),(.slice a7 (i+1) (i+1))]) (hBw27.all)) ?_)))))
     have hK34:=(((((((((((((hO.ext hEw10)).chg hCw11 (fun k h1 h2 hs=>by have h:k=_:=hs;omega))).ext hEw12)).ext hEw21)).ext hEw22)).chg hCw23 (fun k h1 h2 hs=>by have h:k=_:=hs;omega))).ext hEw24)
     have hK35:=(((((((((((((((((((((((((((((((((hBw2.ext hEw3)).ext hEw4)).chg hCw5 (fun hs=>by have h:_=_:=hs;omega))).ext hEw6)).ext hEw7)).chg hCw8 (fun hs=>by have h:_=_:=hs;omega))).chg hEl (fun hs=>by have h:_=_:=hs;omega))).ext hEw10)).chg hCw11 (fun hs=>by have h:_=_:=hs;omega))).ext hEw12)).ext hEw21)).ext hEw22)).chg hCw23 (fun hs=>by have h:_=_:=hs;omega))).ext hEw24)).chg hCw25 (fun hs=>by have hn:=hK34.ne hs;omega))).chg hCw26 (fun hs=>by have h:_=_:=hs;omega))).chg hCw27 (fun hs=>by have h:_=_:=hs;omega))
     refine za (zE 26 w1.heap.size 0 26 (vA [(vI b),(.slice a7 (i+1) (i+1))]) ([(vI 0),(.slice none 0 0)]) ([(vI b),(.slice a7 (i+1) (i+1))]) hK35 (by kernel_rfl) (by first | decide |(simp;done)|(simp;omega)) (by simp [Value.oneCell']) ?_)
     have hK36:=(((((((((((((hO.ext hEw10)).chg hCw11 (fun k h1 h2 hs=>by have h:k=_:=hs;omega))).ext hEw12)).ext hEw21)).ext hEw22)).chg hCw23 (fun k h1 h2 hs=>by have h:k=_:=hs;omega))).ext hEw24)
     have hK37:=(((((((((((((((((((((((((((((((((hBw2.ext hEw3)).ext hEw4)).chg hCw5 (fun hs=>by have h:_=_:=hs;omega))).ext hEw6)).ext hEw7)).chg hCw8 (fun hs=>by have h:_=_:=hs;omega))).chg hEl (fun hs=>by have h:_=_:=hs;omega))).ext hEw10)).chg hCw11 (fun hs=>by have h:_=_:=hs;omega))).ext hEw12)).ext hEw21)).ext hEw22)).chg hCw23 (fun hs=>by have h:_=_:=hs;omega))).ext hEw24)).chg hCw25 (fun hs=>by have hn:=hK36.ne hs;omega))).chg hCw26 (fun hs=>by have h:_=_:=hs;omega))).chg hCw27 (fun hs=>by have h:_=_:=hs;omega))
     intro w28 hBw28 hCw28
     have hzw28:=hCw28.size
     rw [zq _ _ (by kernel_rfl)] at hBw28
     refine zd 1 [(5,(vI 0))] (zg (zb (zp (zam (show zS Tryz.prog 83 _ _ (.cell 4 26) (vA [(vI b),(.slice a7 (i+1) (i+1))]) from ⟨⟨w1.heap.size,0,none⟩,(by kernel_rfl),zM (T:=26) (vs:= [(vI b),(.slice a7 (i+1) (i+1))]) (hBw28).all (by kernel_rfl)⟩) (show zS Tryz.prog 83 _ _ (.tmp 5) (vI 0) by (show _=_;kernel_rfl)) ?_))))
     have hK38:=(((((((((((((hO.ext hEw10)).chg hCw11 (fun k h1 h2 hs=>by have h:k=_:=hs;omega))).ext hEw12)).ext hEw21)).ext hEw22)).chg hCw23 (fun k h1 h2 hs=>by have h:k=_:=hs;omega))).ext hEw24)
     have hX2:Ext w w28:=(Ext.own (Ext.own (Ext.own (Ext.ownS ((Ext.own ((((Ext.own ((Ext.own (Ext.own (((Ext.own (((hEw1.trans hEw2).trans hEw3).trans hEw4) hCw5 (by omega)).trans hEw6).trans hEw7) hCw8 (by omega)) hEl (by omega)).trans hEw10) hCw11 (by omega)).trans hEw12).trans hEw21).trans hEw22) hCw23 (by omega)).trans hEw24) hCw25 (fun k hs hk=>by have hn:=hK38.ne hs;omega)) hCw26 (by omega)) hCw27 (by omega)) hCw28 (by omega))
     rw [hmn,zdN]
     exact ⟨_,rfl,(((((hFz6_0).chg hCw27 (fun k h1 h2 hs=>by have h:k=_:=hs;omega))).chg hCw28 (fun k h1 h2 hs=>by have h:k=_:=hs;omega))).now.mono (by omega) (Nat.le_refl _),hX2⟩
    ·replace hc75:¬(((t.getD (num n (hgt n-i)+(idx b (hgt n-i))) Nod.zero).es.get (idx b (hgt n-i-1)%4)).st=0):=by have:=zas hc75;omega
     have hst:i<hgt n→¬((zcP n t b i).es.get (idx b (hgt n-i-1)%4)).st=0:=fun _=>hc75
     refine zd 1 [(76,vF)] (zg (zb (zn (zA (zr (zb (ze (za (zB (some 77) .i64 (IntKind.i64.wrap (((i:Nat):Int)+((1:Nat):Int))) (i+1) (zF (by omega) (by omega) (by omega)) ?_)))))))))
     refine zd 1 [(37,(vI (i+1)))] (zg (zD ?_))
     have hK39:=(((((((((((((hO.ext hEw10)).chg hCw11 (fun k h1 h2 hs=>by have h:k=_:=hs;omega))).ext hEw12)).ext hEw21)).ext hEw22)).chg hCw23 (fun k h1 h2 hs=>by have h:k=_:=hs;omega))).ext hEw24)
     refine zR (i+1,a6,c2) ?_ ?_
     ·exact ⟨by omega,fun k hk hh=>by rcases Nat.lt_succ_iff_lt_or_eq.1 hk with h1 | rfl;exact hns k h1 hh;exact hst hh,by rw [zdN];exact (((hOw25).chg hCw26 (fun k h1 h2 hs=>by have h:k=_:=hs;omega))).now,hBw26,(Chg.then (Chg.then ((Chg.then ((((Chg.then ((Chg.then (Chg.refl (fun k=>k=w6.heap.size) w8) hEl (fun k hk hs=>by have h:k=_:=hs;first | exact hs | exact .inl h | exact .inr h |(exfalso;omega))).trans hEw10.chg) hCw11 (fun k hk hs=>by have h:k=_:=hs;first | exact hs | exact .inl h | exact .inr h |(exfalso;omega))).trans hEw12.chg).trans hEw21.chg).trans hEw22.chg) hCw23 (fun k hk hs=>by have h:k=_:=hs;first | exact hs | exact .inl h | exact .inr h |(exfalso;omega))).trans hEw24.chg) hCw25 (fun k hk hs=>by have hn:=hK39.ne hs;first | exact hs | exact .inl h | exact .inr h |(exfalso;omega))) hCw26 (fun k hk hs=>by have h:k=_:=hs;first | exact hs | exact .inl h | exact .inr h |(exfalso;omega)))⟩
     ·first | omega |(dsimp only;omega)
   ·replace hc62:¬(i+1<hgt n+1):=by have:=zak hc62;omega
    have hst:i<hgt n→¬((zcP n t b i).es.get (idx b (hgt n-i-1)%4)).st=0:=fun hh=>absurd hh (by omega)
    refine zd 14 [(76,vF),(75,undef),(74,undef),(73,undef),(72,undef),(71,undef),(70,undef),(69,undef),(68,undef),(67,undef),(66,undef),(65,undef),(64,undef),(63,vF)] (zg (zb (zn (zA (zr (zb (ze (za (zB (some 77) .i64 (IntKind.i64.wrap (((i:Nat):Int)+((1:Nat):Int))) (i+1) (zF (by omega) (by omega) (by omega)) ?_)))))))))
    refine zd 1 [(37,(vI (i+1)))] (zg (zD ?_))
    have hK40:=(((((((((((((hO.ext hEw10)).chg hCw11 (fun k h1 h2 hs=>by have h:k=_:=hs;omega))).ext hEw12)).ext hEw21)).ext hEw22)).chg hCw23 (fun k h1 h2 hs=>by have h:k=_:=hs;omega))).ext hEw24)
    refine zR (i+1,a6,c2) ?_ ?_
    ·exact ⟨by omega,fun k hk hh=>by rcases Nat.lt_succ_iff_lt_or_eq.1 hk with h1 | rfl;exact hns k h1 hh;exact hst hh,by rw [zdN];exact (((hOw25).chg hCw26 (fun k h1 h2 hs=>by have h:k=_:=hs;omega))).now,hBw26,(Chg.then (Chg.then ((Chg.then ((((Chg.then ((Chg.then (Chg.refl (fun k=>k=w6.heap.size) w8) hEl (fun k hk hs=>by have h:k=_:=hs;first | exact hs | exact .inl h | exact .inr h |(exfalso;omega))).trans hEw10.chg) hCw11 (fun k hk hs=>by have h:k=_:=hs;first | exact hs | exact .inl h | exact .inr h |(exfalso;omega))).trans hEw12.chg).trans hEw21.chg).trans hEw22.chg) hCw23 (fun k hk hs=>by have h:k=_:=hs;first | exact hs | exact .inl h | exact .inr h |(exfalso;omega))).trans hEw24.chg) hCw25 (fun k hk hs=>by have hn:=hK40.ne hs;first | exact hs | exact .inl h | exact .inr h |(exfalso;omega))) hCw26 (fun k hk hs=>by have h:k=_:=hs;first | exact hs | exact .inl h | exact .inr h |(exfalso;omega)))⟩
    ·first | omega |(dsimp only;omega)
 ·replace hc38:¬(i<hgt n+1):=by have:=zak hc38;omega
  have hmn:mny n t b=i:=by rw [zoM (fun k hk=>hns k (by omega) hk)];omega
  refine zg (zb (zf (zn (zag (zH (zH (zT (zb (zf ?_)))))))))
  refine ze (zd 1 [(78,(vP w6.heap.size 1))] (za (zi (some 79) (Instr.loadAt 24 (vP w6.heap.size 1)) (.slice ao i cp) (zo (hB9.cell rfl)) ?_)))
  refine za (zk (some 80) (zhM _ hmO) ?_)
  rintro _ _ ⟨a8,rfl,hFz7_0,rfl⟩
  have hlea8:=hFz7_0.le
  refine zd 1 [(81,(vP w6.heap.size 1))] (za (zY 24 w6.heap.size 1 26 (.slice a8 i i) ([(vI b),(.slice ao i cp)]) hB9 (by first | decide |(simp;done)|(simp;omega)) ?_))
  intro w29 hBw29 hCw29
  have hzw29:=hCw29.size
  rw [show (([(vI b),(.slice ao i cp)]).set 1 (.slice a8 i i):List Value)= [(vI b),(.slice a8 i i)] from rfl] at hBw29
  refine zg (zb (zf (ze (za (zi (some 82) (Instr.loadAt 26 (vP w6.heap.size 0)) (vA [(vI b),(.slice a8 i i)]) (zI (vs:= [(vI b),(.slice a8 i i)]) (hBw29.all)) ?_)))))
  have hK41:=(((((((((((((((hBw2.ext hEw3)).ext hEw4)).chg hCw5 (fun hs=>by have h:_=_:=hs;omega))).ext hEw6)).ext hEw7)).chg hCw8 (fun hs=>by have h:_=_:=hs;omega))).chg hEl (fun hs=>by have h:_=_:=hs;omega))).chg hCw29 (fun hs=>by have h:_=_:=hs;omega))
  refine za (zE 26 w1.heap.size 0 26 (vA [(vI b),(.slice a8 i i)]) ([(vI 0),(.slice none 0 0)]) ([(vI b),(.slice a8 i i)]) hK41 (by kernel_rfl) (by first | decide |(simp;done)|(simp;omega)) (by simp [Value.oneCell']) ?_)
  have hK42:=(((((((((((((((hBw2.ext hEw3)).ext hEw4)).chg hCw5 (fun hs=>by have h:_=_:=hs;omega))).ext hEw6)).ext hEw7)).chg hCw8 (fun hs=>by have h:_=_:=hs;omega))).chg hEl (fun hs=>by have h:_=_:=hs;omega))).chg hCw29 (fun hs=>by have h:_=_:=hs;omega))
  intro w30 hBw30 hCw30
  have hzw30:=hCw30.size
  rw [zq _ _ (by kernel_rfl)] at hBw30
  refine zd 1 [(5,(vI 0))] (zg (zb (zp (zam (show zS Tryz.prog 83 _ _ (.cell 4 26) (vA [(vI b),(.slice a8 i i)]) from ⟨⟨w1.heap.size,0,none⟩,(by kernel_rfl),zM (T:=26) (vs:= [(vI b),(.slice a8 i i)]) (hBw30).all (by kernel_rfl)⟩) (show zS Tryz.prog 83 _ _ (.tmp 5) (vI 0) by (show _=_;kernel_rfl)) ?_))))
  have hX3:Ext w w30:=(Ext.own (Ext.own (Ext.own (Ext.own (((Ext.own (((hEw1.trans hEw2).trans hEw3).trans hEw4) hCw5 (by omega)).trans hEw6).trans hEw7) hCw8 (by omega)) hEl (by omega)) hCw29 (by omega)) hCw30 (by omega))
  rw [hmn]
  exact ⟨_,rfl,(((((hFz7_0).chg hCw29 (fun k h1 h2 hs=>by have h:k=_:=hs;omega))).chg hCw30 (fun k h1 h2 hs=>by have h:k=_:=hs;omega))).now.mono (by omega) (Nat.le_refl _),hX3⟩
end Go.Proofs.YtgdpdnokcnhgnaaGreatDoor
namespace Go.Proofs.YtgdpdnokcnhgnaaGreatDoor
open Go Go.RowKit Go.Cs
set_option maxRecDepth 100000
end Go.Proofs.YtgdpdnokcnhgnaaGreatDoor
namespace Go.Proofs.YtgdpdnokcnhgnaaGreatDoor
open Go Go.RowKit Go.Cs
set_option maxRecDepth 100000
set_option maxHeartbeats 4000000 in
theorem zii (w:World) (hg0:Gl 0 [vI 45,vI 33] w) (hg1:Gl 2 (w8C zbc) w) (hg2:Gl 3 (zV kA) w) (hg3:Gl 1 [.iface 199 (.agg #[.pointer (some ⟨4,99,none⟩)])] w):
  Calls Tryz.prog 11 #[] w (Ret fun r w'=>r=vT∧Ext w w'):=by
 refine zK (n:=149) (σ:= []) Tryz.func11 rfl ?_
 have hgl0:=hg0.lt
 have hgl1:=hg1.lt
 have hgl2:=hg2.lt
 have hgl3:=hg3.lt
 have ht5:tot 5=3:=by decide
 have ht1:tot 1=1:=by decide
 refine zf (ze (zd 1 [(0,vF)] (zg (zb (zf (ze (za (zk (some 16) (zrX 1 7 _ (by first | omega | decide) (by first | omega | decide)) ?_))))))))
 rintro _ w1 ⟨rfl,hEw1⟩
 have hzw1:=hEw1.size
 refine za (zz (some 1) (Instr.alloc 33 true (.tuple #[])) (vP w1.heap.size 0) (zt Rec.zero) 33 ?_)
 intro w2 hBw2 hEw2
 have hzw2:=hEw2.size;have hlw2:=hBw2.lt
 refine za (zE 33 w1.heap.size 0 33 (vA (zt (mkR 1 7))) (zt Rec.zero) (zt (mkR 1 7)) hBw2 (by rw [zO];kernel_rfl) (by first |(simp;done)|(simp;omega)) (zau _) ?_)
 intro w3 hBw3 hCw3
 have hzw3:=hCw3.size
 rw [zq _ _ (by simp)] at hBw3
 refine zg (zb (zf (ze (zd 1 [(18,(vA (zt Rec.zero)))] (za (zz (some 19) (Instr.buildSlice 39 1 #[(0,(vA (zt Rec.zero)))]) (.slice (pA w3.heap.size 0) 1 1) (([Rec.zero]:List Rec).flatMap zt) 33 ?_ (hr:=zgu (f:=zt) (sz:=35) (z:=(vA (zt Rec.zero))) [Rec.zero] zO (by decide) rfl (Nat.succ_pos _) (show 35≤2^24 from by decide) rfl)))))))
 intro w4 hBw4 hEw4
 have hzw4:=hEw4.size;have hlw4:=hBw4.lt
 have hmw4:Ms zt 35 w3.heap.size (w3.heap.size+1) w4 (pA w3.heap.size 0) 1 1 [Rec.zero]:=Ms.of_pre (r:= []) (by rw [List.append_nil];exact hBw4) zO rfl (Nat.le_refl _) (by decide) (Nat.le_refl _) (Nat.lt_succ_self _)
 refine za (zz (some 20) (Instr.buildSlice 40 1 #[(0,(vI 0))]) (.slice (pA w4.heap.size 0) 1 1) [(vI 0)] 3 ?_)
 intro w5 hBw5 hEw5
 have hzw5:=hEw5.size;have hlw5:=hBw5.lt
 have hSw5:Es (nv .i64) w4.heap.size (w4.heap.size+1) w5 (pA w4.heap.size 0) 1 1 ([0]):=Es.of_blk hBw5 rfl rfl (Nat.le_refl _) (by decide) (Nat.le_refl _) (Nat.lt_succ_self _)
 have hK1:=(((((((((hg0.ext hEw1)).ext hEw2)).chg hCw3 (fun hs=>by have h:_=_:=hs;omega))).ext hEw4)).ext hEw5)
 have hK2:=(((((((((hg1.ext hEw1)).ext hEw2)).chg hCw3 (fun hs=>by have h:_=_:=hs;omega))).ext hEw4)).ext hEw5)
 have hK3:=(((((((((hg2.ext hEw1)).ext hEw2)).chg hCw3 (fun hs=>by have h:_=_:=hs;omega))).ext hEw4)).ext hEw5)
 refine za (zk (some 21) (zko 1 _ (hmw4.ext hEw5) hSw5 (znh) (by first | omega | decide) hK1 hK2 hK3) ?_)
 rintro _ w6 ⟨a1,rfl,hFz2_0,hEw6⟩
 have hzw6:=hEw6.size
 have hma1:=hFz2_0.ms;have hlea1:=hma1.le
 refine zd 3 [(23,(vI 0)),(22,(vA [(vI 1),(.slice a1 (tot 1) (tot 1))])),(17,(.tuple #[(vA [(vI 1),(.slice a1 (tot 1) (tot 1))]),(vI 0)]))] (za (zz (some 2) (Instr.alloc 50 true (.tuple #[])) (vP w6.heap.size 0) ([(vI 0),(.slice none 0 0)]) 50 ?_))
 intro w7 hBw7 hEw7
 have hzw7:=hEw7.size;have hlw7:=hBw7.lt
 refine za (zE 50 w6.heap.size 0 50 (vA [(vI 1),(.slice a1 (tot 1) (tot 1))]) ([(vI 0),(.slice none 0 0)]) ([(vI 1),(.slice a1 (tot 1) (tot 1))]) hBw7 (by kernel_rfl) (by first | decide |(simp;done)|(simp;omega)) (by simp [Value.oneCell']) ?_)
 intro w8 hBw8 hCw8
 have hzw8:=hCw8.size
 rw [zq _ _ (by kernel_rfl)] at hBw8
 refine zd 1 [(3,(vI 0))] (zg (zb (zf (ze (za (zi (some 25) (Instr.loadAt 50 (vP w6.heap.size 0)) (vA [(vI 1),(.slice a1 (tot 1) (tot 1))]) (zI (vs:= [(vI 1),(.slice a1 (tot 1) (tot 1))]) (hBw8.all)) ?_))))))
 have hK4:=(((((hK1.ext hEw6)).ext hEw7)).chg hCw8 (fun hs=>by have h:_=_:=hs;omega))
 have hK5:=(((((hK2.ext hEw6)).ext hEw7)).chg hCw8 (fun hs=>by have h:_=_:=hs;omega))
 have hK6:=(((((hK3.ext hEw6)).ext hEw7)).chg hCw8 (fun hs=>by have h:_=_:=hs;omega))
 have hK7:=(((((((((((((((hg3.ext hEw1)).ext hEw2)).chg hCw3 (fun hs=>by have h:_=_:=hs;omega))).ext hEw4)).ext hEw5)).ext hEw6)).ext hEw7)).chg hCw8 (fun hs=>by have h:_=_:=hs;omega))
 refine za (zk (some 26) (zjD 1 _ (((hma1.ext hEw7)).chg hCw8 (fun k h1 h2 hs=>by have h:k=_:=hs;omega)) (by first | omega | decide) (by first | omega | decide) (rfl) (zcT znh) hK4 hK5 hK6 hK7) ?_)
 rintro _ w9 ⟨rfl,hEw9⟩
 have hzw9:=hEw9.size
 rw [show ((zaf ([Rec.zero]) ([0])).getD (num 1 (hgt 1)) Nod.zero)=Nod.zero from zpL]
 refine zd 3 [(28,(vI 0)),(27,(vA (zC (zQ (zP Nod.zero))))),(24,(.tuple #[(vA (zC (zQ (zP Nod.zero)))),(vI 0)]))] (za (zz (some 4) (Instr.alloc 23 true (.tuple #[])) (vP w9.heap.size 0) (zC Dig.zero) 23 ?_))
 intro w10 hBw10 hEw10
 have hzw10:=hEw10.size;have hlw10:=hBw10.lt
 refine za (zE 23 w9.heap.size 0 23 (vA (zC (zQ (zP Nod.zero)))) (zC Dig.zero) (zC (zQ (zP Nod.zero))) hBw10 (by rw [zab];kernel_rfl) (by first |(simp;done)|(simp;omega)) (zaX _) ?_)
 intro w11 hBw11 hCw11
 have hzw11:=hCw11.size
 rw [zq _ _ (by simp)] at hBw11
 refine zd 1 [(5,(vI 0))] (zg (zb (zf (ze ?_))))
 have hK8:=(((((((((((((((hBw3.ext hEw4)).ext hEw5)).ext hEw6)).ext hEw7)).chg hCw8 (fun hs=>by have h:_=_:=hs;omega))).ext hEw9)).ext hEw10)).chg hCw11 (fun hs=>by have h:_=_:=hs;omega))
 refine za (zi (some 30) (Instr.loadAt 33 (vP w1.heap.size 0)) (vA (zt (mkR 1 7))) (zI (vs:=zt (mkR 1 7)) (hK8.all) (by rw [zO];kernel_rfl)) ?_)
 refine zd 4 [(34,(vA (zt Rec.zero))),(33,(vA (zt Rec.zero))),(32,(vA (zt Rec.zero))),(31,(vA (zt Rec.zero)))] (za (zz (some 35) (Instr.buildSlice 39 5 #[(0,(vA (zt (mkR 1 7)))),(1,(vA (zt Rec.zero))),(2,(vA (zt Rec.zero))),(3,(vA (zt Rec.zero))),(4,(vA (zt Rec.zero)))]) (.slice (pA w11.heap.size 0) 5 5) (([(mkR 1 7),Rec.zero,Rec.zero,Rec.zero,Rec.zero]:List Rec).flatMap zt) 33 ?_ (hr:=zgu (f:=zt) (sz:=35) (z:=(vA (zt Rec.zero))) [(mkR 1 7),Rec.zero,Rec.zero,Rec.zero,Rec.zero] zO (by decide) rfl (Nat.succ_pos _) (show 175≤2^24 from by decide) rfl)))
 intro w12 hBw12 hEw12
 have hzw12:=hEw12.size;have hlw12:=hBw12.lt
 have hmw12:Ms zt 35 w11.heap.size (w11.heap.size+1) w12 (pA w11.heap.size 0) 5 5 [(mkR 1 7),Rec.zero,Rec.zero,Rec.zero,Rec.zero]:=Ms.of_pre (r:= []) (by rw [List.append_nil];exact hBw12) zO rfl (Nat.le_refl _) (by decide) (Nat.le_refl _) (Nat.lt_succ_self _)
 refine za (zz (some 36) (Instr.buildSlice 40 3 #[(0,(vI 1)),(1,(vI 0)),(2,(vI 0))]) (.slice (pA w12.heap.size 0) 3 3) [(vI 1),(vI 0),(vI 0)] 3 ?_)
 intro w13 hBw13 hEw13
 have hzw13:=hEw13.size;have hlw13:=hBw13.lt
 have hSw13:Es (nv .i64) w12.heap.size (w12.heap.size+1) w13 (pA w12.heap.size 0) 3 3 ([1,0,0]):=Es.of_blk hBw13 rfl rfl (Nat.le_refl _) (by decide) (Nat.le_refl _) (Nat.lt_succ_self _)
 have hK9:=(((((((((hK4.ext hEw9)).ext hEw10)).chg hCw11 (fun hs=>by have h:_=_:=hs;omega))).ext hEw12)).ext hEw13)
 have hK10:=(((((((((hK5.ext hEw9)).ext hEw10)).chg hCw11 (fun hs=>by have h:_=_:=hs;omega))).ext hEw12)).ext hEw13)
 have hK11:=(((((((((hK6.ext hEw9)).ext hEw10)).chg hCw11 (fun hs=>by have h:_=_:=hs;omega))).ext hEw12)).ext hEw13)
 refine za (zk (some 37) (zko 5 _ (hmw12.ext hEw13) hSw13 (zeN (zbs 1 7)) (by first | omega | decide) hK9 hK10 hK11) ?_)
 rintro _ w14 ⟨a2,rfl,hFz4_0,hEw14⟩
 have hzw14:=hEw14.size
 have hma2:=hFz4_0.ms;have hlea2:=hma2.le
 refine zd 3 [(39,(vI 0)),(38,(vA [(vI 5),(.slice a2 (tot 5) (tot 5))])),(29,(.tuple #[(vA [(vI 5),(.slice a2 (tot 5) (tot 5))]),(vI 0)]))] (za (zz (some 6) (Instr.alloc 50 true (.tuple #[])) (vP w14.heap.size 0) ([(vI 0),(.slice none 0 0)]) 50 ?_))
 intro w15 hBw15 hEw15
 have hzw15:=hEw15.size;have hlw15:=hBw15.lt
 refine za (zE 50 w14.heap.size 0 50 (vA [(vI 5),(.slice a2 (tot 5) (tot 5))]) ([(vI 0),(.slice none 0 0)]) ([(vI 5),(.slice a2 (tot 5) (tot 5))]) hBw15 (by kernel_rfl) (by first | decide |(simp;done)|(simp;omega)) (by simp [Value.oneCell']) ?_)
 intro w16 hBw16 hCw16
 have hzw16:=hCw16.size
 rw [zq _ _ (by kernel_rfl)] at hBw16
 refine zd 1 [(7,(vI 0))] (zg (zb (zf (ze (za (zi (some 41) (Instr.loadAt 50 (vP w14.heap.size 0)) (vA [(vI 5),(.slice a2 (tot 5) (tot 5))]) (zI (vs:= [(vI 5),(.slice a2 (tot 5) (tot 5))]) (hBw16.all)) ?_))))))
 have hK12:=(((((hK9.ext hEw14)).ext hEw15)).chg hCw16 (fun hs=>by have h:_=_:=hs;omega))
 have hK13:=(((((hK10.ext hEw14)).ext hEw15)).chg hCw16 (fun hs=>by have h:_=_:=hs;omega))
 have hK14:=(((((hK11.ext hEw14)).ext hEw15)).chg hCw16 (fun hs=>by have h:_=_:=hs;omega))
 have hK15:=(((((((((((((((hK7.ext hEw9)).ext hEw10)).chg hCw11 (fun hs=>by have h:_=_:=hs;omega))).ext hEw12)).ext hEw13)).ext hEw14)).ext hEw15)).chg hCw16 (fun hs=>by have h:_=_:=hs;omega))
 refine za (zk (some 42) (zkt 5 0 _ (((hma2.ext hEw15)).chg hCw16 (fun k h1 h2 hs=>by have h:k=_:=hs;omega)) (by first | omega | decide) (by first | omega | decide) (rfl) (zcT (zeN (zbs 1 7))) (by first | omega | decide) hK12 hK13 hK14 hK15) ?_)
 rintro _ w17 ⟨a3,rfl,hFz5_0,hEw17⟩
 have hzw17:=hEw17.size
 have hlea3:=hFz5_0.le
 rw [show mny 5 (zaf ([(mkR 1 7),Rec.zero,Rec.zero,Rec.zero,Rec.zero]) ([1,0,0])) 0=2 from zfC (zbs 1 7) (show (mkR 1 7).st≠0 by decide)] at hFz5_0
 rw [show mny 5 (zaf ([(mkR 1 7),Rec.zero,Rec.zero,Rec.zero,Rec.zero]) ([1,0,0])) 0=2 from zfC (zbs 1 7) (show (mkR 1 7).st≠0 by decide)]
 refine zd 3 [(44,(vI 0)),(43,(vA [(vI 0),(.slice a3 2 2)])),(40,(.tuple #[(vA [(vI 0),(.slice a3 2 2)]),(vI 0)]))] (za (zz (some 8) (Instr.alloc 26 true (.tuple #[])) (vP w17.heap.size 0) ([(vI 0),(.slice none 0 0)]) 26 ?_))
 intro w18 hBw18 hEw18
 have hzw18:=hEw18.size;have hlw18:=hBw18.lt
 refine za (zE 26 w17.heap.size 0 26 (vA [(vI 0),(.slice a3 2 2)]) ([(vI 0),(.slice none 0 0)]) ([(vI 0),(.slice a3 2 2)]) hBw18 (by kernel_rfl) (by first | decide |(simp;done)|(simp;omega)) (by simp [Value.oneCell']) ?_)
 intro w19 hBw19 hCw19
 have hzw19:=hCw19.size
 rw [zq _ _ (by kernel_rfl)] at hBw19
 refine zd 1 [(9,(vI 0))] (zg (zb (zf (ze ?_))))
 have hK16:=(((((hBw16.ext hEw17)).ext hEw18)).chg hCw19 (fun hs=>by have h:_=_:=hs;omega))
 refine za (zi (some 46) (Instr.loadAt 50 (vP w14.heap.size 0)) (vA [(vI 5),(.slice a2 (tot 5) (tot 5))]) (zI (vs:= [(vI 5),(.slice a2 (tot 5) (tot 5))]) (hK16.all)) ?_)
 have hK17:=(((((((((hma2.ext hEw15)).chg hCw16 (fun k h1 h2 hs=>by have h:k=_:=hs;omega))).ext hEw17)).ext hEw18)).chg hCw19 (fun k h1 h2 hs=>by have h:k=_:=hs;omega))
 have hK18:=(((((hK12.ext hEw17)).ext hEw18)).chg hCw19 (fun hs=>by have h:_=_:=hs;omega))
 have hK19:=(((((hK13.ext hEw17)).ext hEw18)).chg hCw19 (fun hs=>by have h:_=_:=hs;omega))
 have hK20:=(((((hK14.ext hEw17)).ext hEw18)).chg hCw19 (fun hs=>by have h:_=_:=hs;omega))
 have hK21:=(((((hK15.ext hEw17)).ext hEw18)).chg hCw19 (fun hs=>by have h:_=_:=hs;omega))
 refine za (zk (some 47) (zkt 5 4 _ hK17 (by first | omega | decide) (by first | omega | decide) (rfl) (zcT (zeN (zbs 1 7))) (by first | omega | decide) hK18 hK19 hK20 hK21) ?_)
 rintro _ w20 ⟨a4,rfl,hFz6_0,hEw20⟩
 have hzw20:=hEw20.size
 have hlea4:=hFz6_0.le
 rw [show mny 5 (zaf ([(mkR 1 7),Rec.zero,Rec.zero,Rec.zero,Rec.zero]) ([1,0,0])) 4=1 from zfO (zbs 1 7)] at hFz6_0
 rw [show mny 5 (zaf ([(mkR 1 7),Rec.zero,Rec.zero,Rec.zero,Rec.zero]) ([1,0,0])) 4=1 from zfO (zbs 1 7)]
 refine zd 3 [(49,(vI 0)),(48,(vA [(vI 4),(.slice a4 1 1)])),(45,(.tuple #[(vA [(vI 4),(.slice a4 1 1)]),(vI 0)]))] (za (zz (some 10) (Instr.alloc 26 true (.tuple #[])) (vP w20.heap.size 0) ([(vI 0),(.slice none 0 0)]) 26 ?_))
 intro w21 hBw21 hEw21
 have hzw21:=hEw21.size;have hlw21:=hBw21.lt
 refine za (zE 26 w20.heap.size 0 26 (vA [(vI 4),(.slice a4 1 1)]) ([(vI 0),(.slice none 0 0)]) ([(vI 4),(.slice a4 1 1)]) hBw21 (by kernel_rfl) (by first | decide |(simp;done)|(simp;omega)) (by simp [Value.oneCell']) ?_)
 intro w22 hBw22 hCw22
 have hzw22:=hCw22.size
 rw [zq _ _ (by kernel_rfl)] at hBw22
 refine zd 1 [(11,(vI 0))] (zg (zb (zf (ze ?_))))
 have hK22:=(((((hK16.ext hEw20)).ext hEw21)).chg hCw22 (fun hs=>by have h:_=_:=hs;omega))
 refine za (zi (some 51) (Instr.loadAt 50 (vP w14.heap.size 0)) (vA [(vI 5),(.slice a2 (tot 5) (tot 5))]) (zI (vs:= [(vI 5),(.slice a2 (tot 5) (tot 5))]) (hK22.all)) ?_)
 have hK23:=(((((hK17.ext hEw20)).ext hEw21)).chg hCw22 (fun k h1 h2 hs=>by have h:k=_:=hs;omega))
 have hK24:=(((((hK18.ext hEw20)).ext hEw21)).chg hCw22 (fun hs=>by have h:_=_:=hs;omega))
 have hK25:=(((((hK19.ext hEw20)).ext hEw21)).chg hCw22 (fun hs=>by have h:_=_:=hs;omega))
 have hK26:=(((((hK20.ext hEw20)).ext hEw21)).chg hCw22 (fun hs=>by have h:_=_:=hs;omega))
 have hK27:=(((((hK21.ext hEw20)).ext hEw21)).chg hCw22 (fun hs=>by have h:_=_:=hs;omega))
 refine za (zk (some 52) (zjD 5 _ hK23 (by first | omega | decide) (by first | omega | decide) (rfl) (zcT (zeN (zbs 1 7))) hK24 hK25 hK26 hK27) ?_)
 rintro _ w23 ⟨rfl,hEw23⟩
 have hzw23:=hEw23.size
 rw [show zQ (zP ((zaf ([(mkR 1 7),Rec.zero,Rec.zero,Rec.zero,Rec.zero]) ([1,0,0])).getD (num 5 (hgt 5)) Nod.zero))=(zaV ([(mkR 1 7),Rec.zero,Rec.zero,Rec.zero,Rec.zero]) ([1,0,0])) from zoz _]
 refine zd 3 [(54,(vI 0)),(53,(vA (zC ((zaV ([(mkR 1 7),Rec.zero,Rec.zero,Rec.zero,Rec.zero]) ([1,0,0])))))),(50,(.tuple #[(vA (zC ((zaV ([(mkR 1 7),Rec.zero,Rec.zero,Rec.zero,Rec.zero]) ([1,0,0]))))),(vI 0)]))] (za (zz (some 12) (Instr.alloc 23 true (.tuple #[])) (vP w23.heap.size 0) (zC Dig.zero) 23 ?_))
 intro w24 hBw24 hEw24
 have hzw24:=hEw24.size;have hlw24:=hBw24.lt
 refine za (zE 23 w23.heap.size 0 23 (vA (zC ((zaV ([(mkR 1 7),Rec.zero,Rec.zero,Rec.zero,Rec.zero]) ([1,0,0]))))) (zC Dig.zero) (zC ((zaV ([(mkR 1 7),Rec.zero,Rec.zero,Rec.zero,Rec.zero]) ([1,0,0])))) hBw24 (by rw [zab];kernel_rfl) (by first |(simp;done)|(simp;omega)) (zaX _) ?_)
 intro w25 hBw25 hCw25
 have hzw25:=hCw25.size
 rw [zq _ _ (by simp)] at hBw25
 refine zd 1 [(13,(vI 0))] (zg (zb (zf (zf (zah (Ext w25.drew) 36 [(56,8,0),(57,32,0),(58,108086391056891904,3),(59,128,0),(60,432345564227567616,12),(61,512,0),(62,1729382256910270464,48),(63,2048,0),(64,6917529027641081856,192),(65,8192,0),(66,27670116110564327424,768),(67,36893488147419103232,1024),(68,73786976294838206464,2048),(69,147573952589676412944,4096),(70,147573952589676412928,4096),(71,737869762948382064640,20480),(72,1623313478486440542208,45056),(73,2508757194024499019776,69632),(74,4722366482869645213696,163840),(75,9444732965739290427456,262144),(76,28334198897217871282176,786432),(77,47223664828696452136960,1310720),(78,85002596691653613846528,2359296),(79,160560460417567937265664,4456448),(80,302231454903657293676544,8650752),(81,604462909807314587353344,16777216),(82,1813388729421943762059264,50331648),(83,3022314549036572936765440,83886080),(84,5440166188265831286177792,150994944),(85,10275869466724347985002496,285212672),(86,19342813113834066795298816,553648128),(87,38685626227668133590598656,1073741824),(88,116056878683004400771792896,3221225472),(89,193428131138340667952988160,5368709120),(90,348170636049013202315378688,9663676416),(91,657655645870358271040159744,18253611008)] (fun hT187=> ?_))))))
 have hEw26:Ext w25 w25.drew:=Ext.drew w25
 generalize w25.drew=w26 at hEw26⊢
 have hzw26:=hEw26.size
 refine zl hT187 [(0,55,(vI 0)),(1,56,(vI 0))] 2 3 (zh hT187 2 7 (some 57) (vI 0) (zw .i64 (IntKind.i64.wrap (((0:Nat):Int)+((0:Nat):Int))) (zF (by omega) (by omega) (by omega))) (zl hT187 [(3,58,(vI 0))] 1 15 (zh hT187 4 31 (some 59) (vI 0) (zw .i64 (IntKind.i64.wrap (((0:Nat):Int)+((0:Nat):Int))) (zF (by omega) (by omega) (by omega))) (zl hT187 [(5,60,(vI 0))] 1 63 (zh hT187 6 127 (some 61) (vI 0) (zw .i64 (IntKind.i64.wrap (((0:Nat):Int)+((0:Nat):Int))) (zF (by omega) (by omega) (by omega))) (zl hT187 [(7,62,(vI 0))] 1 255 (zh hT187 8 511 (some 63) (vI 0) (zw .i64 (IntKind.i64.wrap (((0:Nat):Int)+((0:Nat):Int))) (zF (by omega) (by omega) (by omega))) (zl hT187 [(9,64,(vI 0))] 1 1023 (zh hT187 10 2047 (some 65) (vI 0) (zw .i64 (IntKind.i64.wrap (((0:Nat):Int)+((0:Nat):Int))) (zF (by omega) (by omega) (by omega))) ?_)))))))))
 refine zl hT187 [(11,66,vF),(12,67,vF)] 2 8191 ?_
 have hK28:=(((((((((((((((((((((((((((((hBw11.ext hEw12)).ext hEw13)).ext hEw14)).ext hEw15)).chg hCw16 (fun hs=>by have h:_=_:=hs;omega))).ext hEw17)).ext hEw18)).chg hCw19 (fun hs=>by have h:_=_:=hs;omega))).ext hEw20)).ext hEw21)).chg hCw22 (fun hs=>by have h:_=_:=hs;omega))).ext hEw23)).ext hEw24)).chg hCw25 (fun hs=>by have h:_=_:=hs;omega))).ext hEw26)
 refine zh hT187 13 16383 (some 68) (vA (zC (zQ (zP Nod.zero)))) (zm (Instr.loadAt 23 (vP w9.heap.size 0)) (fun w' hC=>zI (vs:=zC (zQ (zP Nod.zero))) ((hK28.ext hC).all) (by rw [zab];kernel_rfl))) (zl hT187 [(14,69,(vA (zN Nod.zero)))] 1 32767 (zu 15 65535 (zk (some 70) (zev Nod.zero _) ?_)))
 rintro _ w27 ⟨rfl,hEw27⟩
 have hzw27:=hEw27.size
 refine ⟨.inr hEw27, ?_⟩
 refine zh (hw:=show Ext w26 w27 from hEw27) hT187 16 131071 (some 71) vF (zm (bo .neq 23 (.tmp 68) (.tmp 70) (vA (zC (zQ (zP Nod.zero)))) (vA (zC (zQ (zP Nod.zero))))) (fun w' hC=>zar (r:=true) (T:=23) ((zaT (dd:=9998) (t:=23) (e:=5) (zQ (zP Nod.zero)) (zQ (zP Nod.zero))).trans (congrArg (fun b=>Result.ok b _) (show ((zQ (zP Nod.zero)).l==(zQ (zP Nod.zero)).l)=true from beq_iff_eq.2 rfl))))) (zl (hw:=show Ext w26 w27 from hEw27) hT187 [(17,72,vF),(18,73,vF),(19,74,(vP w14.heap.size 1))] 3 1048575 ?_)
 have hK29:=(((((((hK22.ext hEw23)).ext hEw24)).chg hCw25 (fun hs=>by have h:_=_:=hs;omega))).ext hEw26)
 refine zh (hw:=show Ext w26 w27 from hEw27) hT187 20 2097151 (some 75) (.slice a2 (tot 5) (tot 5)) (zm (Instr.loadAt 24 (vP w14.heap.size 1)) (fun w' hC=>zo ((hK29.ext hC).cell rfl))) (zl (hw:=show Ext w26 w27 from hEw27) hT187 [(21,76,(vI (tot 5)))] 1 4194303 (zh (hw:=show Ext w26 w27 from hEw27) hT187 22 8388607 (some 77) vF (zaF (((tot 5:Nat):Int) !=((3:Nat):Int)) (zaY (by omega))) (zl (hw:=show Ext w26 w27 from hEw27) hT187 [(23,78,vF),(24,79,vF),(25,80,(vP w17.heap.size 1))] 3 67108863 ?_)))
 have hK30:=(((((((((((((hBw19.ext hEw20)).ext hEw21)).chg hCw22 (fun hs=>by have h:_=_:=hs;omega))).ext hEw23)).ext hEw24)).chg hCw25 (fun hs=>by have h:_=_:=hs;omega))).ext hEw26)
 refine zh (hw:=show Ext w26 w27 from hEw27) hT187 26 134217727 (some 81) (.slice a3 2 2) (zm (Instr.loadAt 24 (vP w17.heap.size 1)) (fun w' hC=>zo ((hK30.ext hC).cell rfl))) (zl (hw:=show Ext w26 w27 from hEw27) hT187 [(27,82,(vI 2))] 1 268435455 (zh (hw:=show Ext w26 w27 from hEw27) hT187 28 536870911 (some 83) vF (zaF (((2:Nat):Int) !=((2:Nat):Int)) (zaY (by omega))) (zl (hw:=show Ext w26 w27 from hEw27) hT187 [(29,84,vF),(30,85,vF),(31,86,(vP w20.heap.size 1))] 3 4294967295 ?_)))
 have hK31:=(((((((hBw22.ext hEw23)).ext hEw24)).chg hCw25 (fun hs=>by have h:_=_:=hs;omega))).ext hEw26)
 refine zh (hw:=show Ext w26 w27 from hEw27) hT187 32 8589934591 (some 87) (.slice a4 1 1) (zm (Instr.loadAt 24 (vP w20.heap.size 1)) (fun w' hC=>zo ((hK31.ext hC).cell rfl))) (zl (hw:=show Ext w26 w27 from hEw27) hT187 [(33,88,(vI 1))] 1 17179869183 (zh (hw:=show Ext w26 w27 from hEw27) hT187 34 34359738367 (some 89) vF (zaF (((1:Nat):Int) !=((1:Nat):Int)) (zaY (by omega))) (zl (hw:=show Ext w26 w27 from hEw27) hT187 [(35,90,vF)] 1 68719476735 (zL (zb (zn (zA (zb (zf ?_)))))))))
 refine zf (zah (Ext w27.drew) 12 [(92,64,0),(93,2475880078570760549798248448,1),(94,4951760157141521099596496896,2),(95,9903520314283042199192993792,4),(96,19807040628566084398385987584,8),(97,2,0),(98,79228162514264337593543950336,32),(99,158456325028528675187087900672,64),(100,316912650057057350374175801344,128),(101,633825300114114700748351602688,256),(102,1267650600228229401496703205376,512),(103,2574915281713590971790178385920,1040)] (fun hT233=> ?_))
 have hEw28:Ext w27 w27.drew:=Ext.drew w27
 generalize w27.drew=w28 at hEw28⊢
 have hzw28:=hEw28.size
 refine zl hT233 [(0,91,(vP w14.heap.size 1))] 1 1 (zh hT233 1 3 (some 92) (.slice a2 (tot 5) (tot 5)) (zm (Instr.loadAt 24 (vP w14.heap.size 1)) (fun w' hC=>zo (((((hK29.ext hEw27)).ext hEw28).ext hC).cell rfl))) ?_)
 obtain ⟨b1,o1,rfl⟩:=hK23.addr (by omega) (by decide)
 refine zh hT233 2 7 (some 93) (vP b1 (o1+2*274)) (zm (Instr.indexAt 24 (.slice (pA b1 o1) (tot 5) (tot 5)) (vI 2)) (fun w' hC=>zap (E:=47) (sz:=274) (by omega))) (zl hT233 [(3,94,(vP b1 (o1+2*274+142)))] 1 15 ?_)
 have hK32:=(((((((((((hK23.ext hEw23)).ext hEw24)).chg hCw25 (fun k h1 h2 hs=>by have h:k=_:=hs;omega))).ext hEw26)).ext hEw27)).ext hEw28)
 refine zh hT233 4 31 (some 95) (vA (e4C ((zaf ([(mkR 1 7),Rec.zero,Rec.zero,Rec.zero,Rec.zero]) ([1,0,0])).getD 2 Nod.zero).es)) (zm (Instr.loadAt 45 (vP b1 (o1+2*274+142))) (fun w' hC=>zI (vs:=e4C ((zaf ([(mkR 1 7),Rec.zero,Rec.zero,Rec.zero,Rec.zero]) ([1,0,0])).getD 2 Nod.zero).es) (((hK32.ext hC).at Nod.zero (by omega)).sub 142 (e4C ((zaf ([(mkR 1 7),Rec.zero,Rec.zero,Rec.zero,Rec.zero]) ([1,0,0])).getD 2 Nod.zero).es) (zeM _)) (by rw [zdi];kernel_rfl))) ?_
 have hK33:=(((((((((((((((((((((((((((((((((hK8.ext hEw12)).ext hEw13)).ext hEw14)).ext hEw15)).chg hCw16 (fun hs=>by have h:_=_:=hs;omega))).ext hEw17)).ext hEw18)).chg hCw19 (fun hs=>by have h:_=_:=hs;omega))).ext hEw20)).ext hEw21)).chg hCw22 (fun hs=>by have h:_=_:=hs;omega))).ext hEw23)).ext hEw24)).chg hCw25 (fun hs=>by have h:_=_:=hs;omega))).ext hEw26)).ext hEw27)).ext hEw28)
 refine zh hT233 5 63 (some 96) (vA (zt (mkR 1 7))) (zm (Instr.loadAt 33 (vP w1.heap.size 0)) (fun w' hC=>zI (vs:=zt (mkR 1 7)) ((hK33.ext hC).all) (by rw [zO];kernel_rfl))) (zh hT233 6 127 (some 97) (vA (r4C (R4.zero.set 0 (mkR 1 7)))) (zm (Instr.build 42 #[(0,(vA (zt (mkR 1 7))))]) (fun w' hC=>ziO (E:=33) (mkR 1 7))) (zh hT233 7 255 (some 98) (vA (zN (⟨0,0,(R4.zero.set 0 (mkR 1 7)),E4.zero,by decide,by decide⟩))) (zm (Instr.build 47 #[(2,(vA (r4C (R4.zero.set 0 (mkR 1 7)))))]) (fun w' hC=>zh3 (R4.zero.set 0 (mkR 1 7)))) (zu 8 511 (zk (some 99) (zev (⟨0,0,(R4.zero.set 0 (mkR 1 7)),E4.zero,by decide,by decide⟩) _) ?_))))
 rintro _ w29 ⟨rfl,hEw29⟩
 have hzw29:=hEw29.size
 refine ⟨.inr hEw29, ?_⟩
 refine zh (hw:=show Ext w28 w29 from hEw29) hT233 9 1023 (some 100) (vA (zaa (⟨2,(zQ (zP (⟨0,0,(R4.zero.set 0 (mkR 1 7)),E4.zero,by decide,by decide⟩))),by omega⟩))) (zm (Instr.build 44 #[(0,(vB 2)),(1,(vA (zC (zQ (zP (⟨0,0,(R4.zero.set 0 (mkR 1 7)),E4.zero,by decide,by decide⟩))))))]) (fun w' hC=>zfU 2 (zQ (zP (⟨0,0,(R4.zero.set 0 (mkR 1 7)),E4.zero,by decide,by decide⟩))) (by omega))) (zh (hw:=show Ext w28 w29 from hEw29) hT233 10 2047 (some 101) (vA (e4C (E4.zero.set 0 (⟨2,(zQ (zP (⟨0,0,(R4.zero.set 0 (mkR 1 7)),E4.zero,by decide,by decide⟩))),by omega⟩)))) (zm (Instr.build 45 #[(0,(vA (zaa (⟨2,(zQ (zP (⟨0,0,(R4.zero.set 0 (mkR 1 7)),E4.zero,by decide,by decide⟩))),by omega⟩))))]) (fun w' hC=>zjE (E:=44) (⟨2,(zQ (zP (⟨0,0,(R4.zero.set 0 (mkR 1 7)),E4.zero,by decide,by decide⟩))),by omega⟩))) ?_)
 refine zh (hw:=show Ext w28 w29 from hEw29) hT233 11 4095 (some 102) vF (zm (bo .neq 45 (.tmp 95) (.tmp 101) (vA (e4C ((zaf ([(mkR 1 7),Rec.zero,Rec.zero,Rec.zero,Rec.zero]) ([1,0,0])).getD 2 Nod.zero).es)) (vA (e4C (E4.zero.set 0 (⟨2,(zQ (zP (⟨0,0,(R4.zero.set 0 (mkR 1 7)),E4.zero,by decide,by decide⟩))),by omega⟩))))) (fun w' hC=>zar (r:=true) (T:=45) ((ze8 (dd:=9996) (T:=45) (t:=44) (t8:=5) (td:=23) (e:=5) (((zaf ([(mkR 1 7),Rec.zero,Rec.zero,Rec.zero,Rec.zero]) ([1,0,0])).getD 2 Nod.zero).es) (E4.zero.set 0 (⟨2,(zQ (zP (⟨0,0,(R4.zero.set 0 (mkR 1 7)),E4.zero,by decide,by decide⟩))),by omega⟩))).trans (congrArg (fun b=>Result.ok b _) (show ((((zaf ([(mkR 1 7),Rec.zero,Rec.zero,Rec.zero,Rec.zero]) ([1,0,0])).getD 2 Nod.zero).es).eqb (E4.zero.set 0 (⟨2,(zQ (zP (⟨0,0,(R4.zero.set 0 (mkR 1 7)),E4.zero,by decide,by decide⟩))),by omega⟩)))=true from (E4.eqb_iff _ _).2 (zqN (show (mkR 1 7).st≠0 by decide))))))) (zL (zb (zn (zA (zb (zf (ze ?_)))))))
 have hK34:=(((((((hBw25.ext hEw26)).ext hEw27)).ext hEw28)).ext hEw29)
 refine za (zi (some 104) (Instr.loadAt 23 (vP w23.heap.size 0)) (vA (zC ((zaV ([(mkR 1 7),Rec.zero,Rec.zero,Rec.zero,Rec.zero]) ([1,0,0]))))) (zI (vs:=zC ((zaV ([(mkR 1 7),Rec.zero,Rec.zero,Rec.zero,Rec.zero]) ([1,0,0])))) (hK34.all) (by rw [zab];kernel_rfl)) ?_)
 have hK35:=(((((hK30.ext hEw27)).ext hEw28)).ext hEw29)
 refine za (zi (some 105) (Instr.loadAt 26 (vP w17.heap.size 0)) (vA [(vI 0),(.slice a3 2 2)]) (zI (vs:= [(vI 0),(.slice a3 2 2)]) (hK35.all)) ?_)
 have hK36:=(((((((((((((((((((((((hFz5_0.ext hEw18)).chg hCw19 (fun k h1 h2 hs=>by have h:k=_:=hs;omega))).ext hEw20)).ext hEw21)).chg hCw22 (fun k h1 h2 hs=>by have h:k=_:=hs;omega))).ext hEw23)).ext hEw24)).chg hCw25 (fun k h1 h2 hs=>by have h:k=_:=hs;omega))).ext hEw26)).ext hEw27)).ext hEw28)).ext hEw29)
 have hK37:=(((((((((((((hK24.ext hEw23)).ext hEw24)).chg hCw25 (fun hs=>by have h:_=_:=hs;omega))).ext hEw26)).ext hEw27)).ext hEw28)).ext hEw29)
 have hK38:=(((((((((((((hK25.ext hEw23)).ext hEw24)).chg hCw25 (fun hs=>by have h:_=_:=hs;omega))).ext hEw26)).ext hEw27)).ext hEw28)).ext hEw29)
 have hK39:=(((((((((((((hK26.ext hEw23)).ext hEw24)).chg hCw25 (fun hs=>by have h:_=_:=hs;omega))).ext hEw26)).ext hEw27)).ext hEw28)).ext hEw29)
 have hK40:=(((((((((((((hK27.ext hEw23)).ext hEw24)).chg hCw25 (fun hs=>by have h:_=_:=hs;omega))).ext hEw26)).ext hEw27)).ext hEw28)).ext hEw29)
 refine za (zk (some 106) (zfz ((5:Nat):Int) ((zaV ([(mkR 1 7),Rec.zero,Rec.zero,Rec.zero,Rec.zero]) ([1,0,0]))) ((0:Nat):Int) _ hK36 hK37 hK38 hK39 hK40) ?_)
 rintro _ w30 ⟨rfl,hEw30⟩
 have hzw30:=hEw30.size
 rw [show zaU ((5:Nat):Int) ((zaV ([(mkR 1 7),Rec.zero,Rec.zero,Rec.zero,Rec.zero]) ([1,0,0]))) ((0:Nat):Int) (za7 5 (zaf ([(mkR 1 7),Rec.zero,Rec.zero,Rec.zero,Rec.zero]) ([1,0,0])) 0 2)=0 from by have hz:=(zgv (zbs 1 7) (b:=0) (by decide)).1;rw [zfC (zbs 1 7) (show (mkR 1 7).st≠0 by decide)] at hz;exact hz]
 rw [show zbd ((5:Nat):Int) ((zaV ([(mkR 1 7),Rec.zero,Rec.zero,Rec.zero,Rec.zero]) ([1,0,0]))) ((0:Nat):Int) (za7 5 (zaf ([(mkR 1 7),Rec.zero,Rec.zero,Rec.zero,Rec.zero]) ([1,0,0])) 0 2)=mkR 1 7 from by have hz:=(zgv (zbs 1 7) (b:=0) (by decide)).2;rw [zfC (zbs 1 7) (show (mkR 1 7).st≠0 by decide)] at hz;exact hz]
 refine zd 3 [(108,(vI 0)),(107,(vA (zt (mkR 1 7)))),(103,(.tuple #[(vA (zt (mkR 1 7))),(vI 0)]))] (za (zz (some 14) (Instr.alloc 33 true (.tuple #[])) (vP w30.heap.size 0) (zt Rec.zero) 33 ?_))
 intro w31 hBw31 hEw31
 have hzw31:=hEw31.size;have hlw31:=hBw31.lt
 refine za (zE 33 w30.heap.size 0 33 (vA (zt (mkR 1 7))) (zt Rec.zero) (zt (mkR 1 7)) hBw31 (by rw [zO];kernel_rfl) (by first |(simp;done)|(simp;omega)) (zau _) ?_)
 intro w32 hBw32 hCw32
 have hzw32:=hCw32.size
 rw [zq _ _ (by simp)] at hBw32
 refine zd 1 [(3,(vI 0))] (zg (zb (zf (ze ?_))))
 have hK41:=(((((hK34.ext hEw30)).ext hEw31)).chg hCw32 (fun hs=>by have h:_=_:=hs;omega))
 refine za (zi (some 110) (Instr.loadAt 23 (vP w23.heap.size 0)) (vA (zC ((zaV ([(mkR 1 7),Rec.zero,Rec.zero,Rec.zero,Rec.zero]) ([1,0,0]))))) (zI (vs:=zC ((zaV ([(mkR 1 7),Rec.zero,Rec.zero,Rec.zero,Rec.zero]) ([1,0,0])))) (hK41.all) (by rw [zab];kernel_rfl)) ?_)
 have hK42:=(((((((((((hK31.ext hEw27)).ext hEw28)).ext hEw29)).ext hEw30)).ext hEw31)).chg hCw32 (fun hs=>by have h:_=_:=hs;omega))
 refine za (zi (some 111) (Instr.loadAt 26 (vP w20.heap.size 0)) (vA [(vI 4),(.slice a4 1 1)]) (zI (vs:= [(vI 4),(.slice a4 1 1)]) (hK42.all)) ?_)
 have hK43:=(((((((((((((((((((((((hFz6_0.ext hEw21)).chg hCw22 (fun k h1 h2 hs=>by have h:k=_:=hs;omega))).ext hEw23)).ext hEw24)).chg hCw25 (fun k h1 h2 hs=>by have h:k=_:=hs;omega))).ext hEw26)).ext hEw27)).ext hEw28)).ext hEw29)).ext hEw30)).ext hEw31)).chg hCw32 (fun k h1 h2 hs=>by have h:k=_:=hs;omega))
 have hK44:=(((((hK37.ext hEw30)).ext hEw31)).chg hCw32 (fun hs=>by have h:_=_:=hs;omega))
 have hK45:=(((((hK38.ext hEw30)).ext hEw31)).chg hCw32 (fun hs=>by have h:_=_:=hs;omega))
 have hK46:=(((((hK39.ext hEw30)).ext hEw31)).chg hCw32 (fun hs=>by have h:_=_:=hs;omega))
 have hK47:=(((((hK40.ext hEw30)).ext hEw31)).chg hCw32 (fun hs=>by have h:_=_:=hs;omega))
 refine za (zk (some 112) (zfz ((5:Nat):Int) ((zaV ([(mkR 1 7),Rec.zero,Rec.zero,Rec.zero,Rec.zero]) ([1,0,0]))) ((4:Nat):Int) _ hK43 hK44 hK45 hK46 hK47) ?_)
 rintro _ w33 ⟨rfl,hEw33⟩
 have hzw33:=hEw33.size
 rw [show zaU ((5:Nat):Int) ((zaV ([(mkR 1 7),Rec.zero,Rec.zero,Rec.zero,Rec.zero]) ([1,0,0]))) ((4:Nat):Int) (za7 5 (zaf ([(mkR 1 7),Rec.zero,Rec.zero,Rec.zero,Rec.zero]) ([1,0,0])) 4 1)=0 from by have hz:=(zgv (zbs 1 7) (b:=4) (by decide)).1;rw [zfO (zbs 1 7)] at hz;exact hz]
 rw [show zbd ((5:Nat):Int) ((zaV ([(mkR 1 7),Rec.zero,Rec.zero,Rec.zero,Rec.zero]) ([1,0,0]))) ((4:Nat):Int) (za7 5 (zaf ([(mkR 1 7),Rec.zero,Rec.zero,Rec.zero,Rec.zero]) ([1,0,0])) 4 1)=Rec.zero from by have hz:=(zgv (zbs 1 7) (b:=4) (by decide)).2;rw [zfO (zbs 1 7)] at hz;exact hz]
 refine zd 3 [(114,(vI 0)),(113,(vA (zt (Rec.zero)))),(109,(.tuple #[(vA (zt (Rec.zero))),(vI 0)]))] (za (zz (some 15) (Instr.alloc 33 true (.tuple #[])) (vP w33.heap.size 0) (zt Rec.zero) 33 ?_))
 intro w34 hBw34 hEw34
 have hzw34:=hEw34.size;have hlw34:=hBw34.lt
 refine za (zE 33 w33.heap.size 0 33 (vA (zt (Rec.zero))) (zt Rec.zero) (zt (Rec.zero)) hBw34 (by rw [zO];kernel_rfl) (by first |(simp;done)|(simp;omega)) (zau _) ?_)
 intro w35 hBw35 hCw35
 have hzw35:=hCw35.size
 rw [zq _ _ (by simp)] at hBw35
 refine zd 1 [(5,(vI 0))] (zg (zb (zf (ze (za (zdM (some 116) 39 33 35 56 4 4 .i64 .i64 (vA (zt Rec.zero)) (by omega) (by omega) (by omega) ?_))))))
 rw [zgd (f:=zt) (x:=Rec.zero) rfl (zO _) (by decide)]
 intro w36 hBw36 hEw36
 have hzw36:=hEw36.size;have hlw36:=hBw36.lt
 have hmw36:Ms zt 35 w35.heap.size (w35.heap.size+1) w36 (pA w35.heap.size 0) 4 4 (List.replicate 4 Rec.zero):=Ms.of_pre (r:= []) (by rw [List.append_nil];exact hBw36) zO (by simp) (Nat.le_refl _) (by simp only [maxLen];omega) (Nat.le_refl _) (Nat.lt_succ_self _)
 refine za (zz (some 117) (Instr.buildSlice 40 3 #[(0,(vI 0)),(1,(vI 0)),(2,(vI 0))]) (.slice (pA w36.heap.size 0) 3 3) [(vI 0),(vI 0),(vI 0)] 3 ?_)
 intro w37 hBw37 hEw37
 have hzw37:=hEw37.size;have hlw37:=hBw37.lt
 have hSw37:Es (nv .i64) w36.heap.size (w36.heap.size+1) w37 (pA w36.heap.size 0) 3 3 ([0,0,0]):=Es.of_blk hBw37 rfl rfl (Nat.le_refl _) (by decide) (Nat.le_refl _) (Nat.lt_succ_self _)
 refine za (zk (some 118) (zma 5 (pA w35.heap.size 0) 4 4 (pA w36.heap.size 0) 3 3 _ (by first | omega | decide) (by first | omega | decide) (by first | omega | decide)) ?_)
 rintro _ w38 ⟨rfl,hEw38⟩
 have hzw38:=hEw38.size
 refine zd 4 [(7,(vI 1)),(120,(vI 1)),(119,(vA [(vI 0),(.slice none 0 0)])),(115,(.tuple #[(vA [(vI 0),(.slice none 0 0)]),(vI 1)]))] (zg (zb (zf (ze ?_))))
 have hK48:=(((((((((((hK41.ext hEw33)).ext hEw34)).chg hCw35 (fun hs=>by have h:_=_:=hs;omega))).ext hEw36)).ext hEw37)).ext hEw38)
 refine za (zi (some 122) (Instr.loadAt 23 (vP w23.heap.size 0)) (vA (zC ((zaV ([(mkR 1 7),Rec.zero,Rec.zero,Rec.zero,Rec.zero]) ([1,0,0]))))) (zI (vs:=zC ((zaV ([(mkR 1 7),Rec.zero,Rec.zero,Rec.zero,Rec.zero]) ([1,0,0])))) (hK48.all) (by rw [zab];kernel_rfl)) ?_)
 refine zd 1 [(123,(vA [(vI 0),(.slice none 0 0)]))] ?_
 have hK49:=(((((((((((hK44.ext hEw33)).ext hEw34)).chg hCw35 (fun hs=>by have h:_=_:=hs;omega))).ext hEw36)).ext hEw37)).ext hEw38)
 have hK50:=(((((((((((hK45.ext hEw33)).ext hEw34)).chg hCw35 (fun hs=>by have h:_=_:=hs;omega))).ext hEw36)).ext hEw37)).ext hEw38)
 have hK51:=(((((((((((hK46.ext hEw33)).ext hEw34)).chg hCw35 (fun hs=>by have h:_=_:=hs;omega))).ext hEw36)).ext hEw37)).ext hEw38)
 have hK52:=(((((((((((hK47.ext hEw33)).ext hEw34)).chg hCw35 (fun hs=>by have h:_=_:=hs;omega))).ext hEw36)).ext hEw37)).ext hEw38)
 refine za (zk (some 124) (zfz ((5:Nat):Int) ((zaV ([(mkR 1 7),Rec.zero,Rec.zero,Rec.zero,Rec.zero]) ([1,0,0]))) ((0:Nat):Int) _ (Ms.nil zN 0 0 _ (by simp)) hK49 hK50 hK51 hK52) ?_)
 rintro _ w39 ⟨rfl,hEw39⟩
 have hzw39:=hEw39.size
 rw [show zaU ((5:Nat):Int) ((zaV ([(mkR 1 7),Rec.zero,Rec.zero,Rec.zero,Rec.zero]) ([1,0,0]))) ((0:Nat):Int) ([])=1 from zdv (fun h=>absurd h.2.2.2.2.1 (by decide))]
 refine zd 4 [(9,(vI 1)),(126,(vI 1)),(125,(vA (zt (zbd ((5:Nat):Int) ((zaV ([(mkR 1 7),Rec.zero,Rec.zero,Rec.zero,Rec.zero]) ([1,0,0]))) ((0:Nat):Int) ([]))))),(121,(.tuple #[(vA (zt (zbd ((5:Nat):Int) ((zaV ([(mkR 1 7),Rec.zero,Rec.zero,Rec.zero,Rec.zero]) ([1,0,0]))) ((0:Nat):Int) ([])))),(vI 1)]))] (zg (zb (zf (ze (zd 2 [(128,(vI 0)),(127,(vI 0))] (za (zB (some 129) .i64 (IntKind.i64.wrap (((0:Nat):Int)+((0:Nat):Int))) 0 (zF (by omega) (by omega) (by omega)) ?_)))))))
 refine zd 2 [(131,vT),(130,vT)] ?_
 have hK53:=(((((((((((((hBw32.ext hEw33)).ext hEw34)).chg hCw35 (fun hs=>by have h:_=_:=hs;omega))).ext hEw36)).ext hEw37)).ext hEw38)).ext hEw39)
 refine za (zi (some 132) (Instr.loadAt 33 (vP w30.heap.size 0)) (vA (zt (mkR 1 7))) (zI (vs:=zt (mkR 1 7)) (hK53.all) (by rw [zO];kernel_rfl)) ?_)
 have hK54:=(((((((((((((((((((((hK33.ext hEw29)).ext hEw30)).ext hEw31)).chg hCw32 (fun hs=>by have h:_=_:=hs;omega))).ext hEw33)).ext hEw34)).chg hCw35 (fun hs=>by have h:_=_:=hs;omega))).ext hEw36)).ext hEw37)).ext hEw38)).ext hEw39)
 refine za (zi (some 133) (Instr.loadAt 33 (vP w1.heap.size 0)) (vA (zt (mkR 1 7))) (zI (vs:=zt (mkR 1 7)) (hK54.all) (by rw [zO];kernel_rfl)) ?_)
 refine za (zi (some 134) (bo .eql 33 (.tmp 132) (.tmp 133) (vA (zt (mkR 1 7))) (vA (zt (mkR 1 7)))) vT (zcR (r:=true) (T:=33) ((zbE (dd:=9997) (t:=33) (t8:=5) (tn:=31) (td:=23) (e:=5) (t32:=28) (t64:=29) (mkR 1 7) (mkR 1 7)).trans (congrArg (fun b=>Result.ok b _) (show ((mkR 1 7).eqb (mkR 1 7))=true from (Rec.eqb_iff _ _).2 rfl)))) ?_)
 refine zd 2 [(136,vT),(135,vT)] ?_
 have hK55:=(((((((hBw35.ext hEw36)).ext hEw37)).ext hEw38)).ext hEw39)
 refine za (zi (some 137) (Instr.loadAt 33 (vP w33.heap.size 0)) (vA (zt (Rec.zero))) (zI (vs:=zt (Rec.zero)) (hK55.all) (by rw [zO];kernel_rfl)) ?_)
 refine zd 1 [(138,(vA (zt Rec.zero)))] (za (zi (some 139) (bo .eql 33 (.tmp 137) (.tmp 138) (vA (zt (Rec.zero))) (vA (zt Rec.zero))) vT (zcR (r:=true) (T:=33) ((zbE (dd:=9997) (t:=33) (t8:=5) (tn:=31) (td:=23) (e:=5) (t32:=28) (t64:=29) (Rec.zero) Rec.zero).trans (congrArg (fun b=>Result.ok b _) (show ((Rec.zero).eqb Rec.zero)=true from (Rec.eqb_iff _ _).2 rfl)))) ?_))
 refine zd 10 [(0,vT),(148,vT),(147,vT),(146,(vI 1)),(145,vT),(144,vT),(143,vT),(142,(vI 1)),(141,vT),(140,vT)] (zg (zb (zp (zv vT ?_))))
 have hX1:Ext w w39:=(((((Ext.own (((Ext.own (((((((Ext.own (((Ext.own (((Ext.own (((Ext.own (((((Ext.own (((Ext.own (((((Ext.own (hEw1.trans hEw2) hCw3 (by omega)).trans hEw4).trans hEw5).trans hEw6).trans hEw7) hCw8 (by omega)).trans hEw9).trans hEw10) hCw11 (by omega)).trans hEw12).trans hEw13).trans hEw14).trans hEw15) hCw16 (by omega)).trans hEw17).trans hEw18) hCw19 (by omega)).trans hEw20).trans hEw21) hCw22 (by omega)).trans hEw23).trans hEw24) hCw25 (by omega)).trans hEw26).trans hEw27).trans hEw28).trans hEw29).trans hEw30).trans hEw31) hCw32 (by omega)).trans hEw33).trans hEw34) hCw35 (by omega)).trans hEw36).trans hEw37).trans hEw38).trans hEw39)
 exact ⟨rfl,hX1⟩
end Go.Proofs.YtgdpdnokcnhgnaaGreatDoor
namespace Go.Proofs.YtgdpdnokcnhgnaaGreatDoor
open Go Go.RowKit Go.Cs
set_option maxRecDepth 100000
theorem zhF (n:Int) (root:Dig) (b:Int) {lo_p hi_p:Nat} {a_p:Option Addr} {n_p c_p:Nat} {p:List Nod} (w:World) (h_p:Ms zN 274 lo_p hi_p w a_p n_p c_p p) (hg0:Gl 0 [vI 45,vI 33] w) (hg1:Gl 2 (w8C zbc) w) (hg2:Gl 3 (zV kA) w) (hg3:Gl 1 [.iface 199 (.agg #[.pointer (some ⟨4,99,none⟩)])] w):
  Calls Tryz.prog 3 #[(.int .i64 n),(vA (zC root)),(vA [(.int .i64 b),(.slice a_p n_p c_p)])] w (Ret fun r w'=>r=vT∧Ext w w'):=by
 refine zK (n:=44) (σ:= [(0,(.int .i64 n)),(1,(vA (zC root))),(2,(vA [(.int .i64 b),(.slice a_p n_p c_p)]))]) Tryz.func3 rfl ?_
 replace h_p:=h_p.now;have hle_p:=h_p.le
 have hgl0:=hg0.lt
 have hgl1:=hg1.lt
 have hgl2:=hg2.lt
 have hgl3:=hg3.lt
 have hlp:=h_p.len_eq;have hlep:=h_p.le
 refine zf (ze (za (zz (some 4) (Instr.box 23 (vA (zC root))) (vP w.heap.size 0) (zC root) 23 ?_)))
 intro w1 hBw1 hEw1
 have hzw1:=hEw1.size;have hlw1:=hBw1.lt
 refine za (zz (some 5) (Instr.box 26 (vA [(.int .i64 b),(.slice a_p n_p c_p)])) (vP w1.heap.size 0) ([(.int .i64 b),(.slice a_p n_p c_p)]) 26 ?_)
 intro w2 hBw2 hEw2
 have hzw2:=hEw2.size;have hlw2:=hBw2.lt
 refine zd 1 [(6,vF)] (zg (zb (zf (zf (ze (zd 1 [(11,(vP w1.heap.size 1))] (za (zi (some 12) (Instr.loadAt 24 (vP w1.heap.size 1)) (.slice a_p n_p c_p) (zo (hBw2.cell rfl)) ?_))))))))
 refine zd 1 [(13,(vI n_p))] (za (zG (some 14) (decide (((n_p:Nat):Int)>((8:Nat):Int))) (fun hc14=> ?_) (fun hc14=> ?_)))
 ·replace hc14:n_p>8:=by have:=zal hc14;omega
  refine zg (zb (zx (zf (ze (za (zk (some 15) (zii _ (((hg0.ext hEw1)).ext hEw2) (((hg1.ext hEw1)).ext hEw2) (((hg2.ext hEw1)).ext hEw2) (((hg3.ext hEw1)).ext hEw2)) ?_))))))
  rintro _ w3 ⟨rfl,hEw3⟩
  have hzw3:=hEw3.size
  exact zd 1 [(6,vT)] (zg (zb (zp (zj (zv vT (⟨rfl,((hEw1.trans hEw2).trans hEw3)⟩))))))
 ·replace hc14:¬(n_p>8):=by have:=zak hc14;omega
  refine zg (zb (zn (zA (zb (zf (ze (zd 1 [(17,(.int .i64 n))] (za (zi (some 18) (Instr.loadAt 23 (vP w.heap.size 0)) (vA (zC root)) (zI (vs:=zC root) ((hBw1.ext hEw2).all) (by rw [zab];kernel_rfl)) ?_)))))))))
  refine za (zi (some 19) (Instr.loadAt 26 (vP w1.heap.size 0)) (vA [(.int .i64 b),(.slice a_p n_p c_p)]) (zI (vs:= [(.int .i64 b),(.slice a_p n_p c_p)]) (hBw2.all)) ?_)
  refine za (zk (some 20) (zfz n root b _ (((h_p.ext hEw1)).ext hEw2) (((hg0.ext hEw1)).ext hEw2) (((hg1.ext hEw1)).ext hEw2) (((hg2.ext hEw1)).ext hEw2) (((hg3.ext hEw1)).ext hEw2)) ?_)
  rintro _ w4 ⟨rfl,hEw4⟩
  have hzw4:=hEw4.size
  refine zd 3 [(22,(vI (zaU n root b p))),(21,(vA (zt (zbd n root b p)))),(16,(.tuple #[(vA (zt (zbd n root b p))),(vI (zaU n root b p))]))] (za (zz (some 7) (Instr.alloc 33 true (.tuple #[])) (vP w4.heap.size 0) (zt Rec.zero) 33 ?_))
  intro w5 hBw5 hEw5
  have hzw5:=hEw5.size;have hlw5:=hBw5.lt
  refine za (zE 33 w4.heap.size 0 33 (vA (zt (zbd n root b p))) (zt Rec.zero) (zt (zbd n root b p)) hBw5 (by rw [zO];kernel_rfl) (by first |(simp;done)|(simp;omega)) (zau _) ?_)
  intro w6 hBw6 hCw6
  have hzw6:=hCw6.size
  rw [zq _ _ (by simp)] at hBw6
  refine zd 1 [(8,(vI (zaU n root b p)))] (zg (zb (zf (ze (zd 1 [(24,(.int .i64 n))] ?_)))))
  have hK1:=(((((((hBw1.ext hEw2)).ext hEw4)).ext hEw5)).chg hCw6 (fun hs=>by have h:_=_:=hs;omega))
  refine za (zi (some 25) (Instr.loadAt 23 (vP w.heap.size 0)) (vA (zC root)) (zI (vs:=zC root) (hK1.all) (by rw [zab];kernel_rfl)) ?_)
  refine zd 1 [(26,(vP w1.heap.size 0))] ?_
  have hK2:=(((((hBw2.ext hEw4)).ext hEw5)).chg hCw6 (fun hs=>by have h:_=_:=hs;omega))
  refine za (zi (some 27) (Instr.loadAt 3 (vP w1.heap.size 0)) (.int .i64 b) (zo (hK2.cell rfl)) ?_)
  refine zd 1 [(28,(vP w1.heap.size 1))] (za (zi (some 29) (Instr.loadAt 24 (vP w1.heap.size 1)) (.slice a_p n_p c_p) (zo (hK2.cell rfl)) ?_))
  have hK3:=(((((((((h_p.ext hEw1)).ext hEw2)).ext hEw4)).ext hEw5)).chg hCw6 (fun k h1 h2 hs=>by have h:k=_:=hs;omega))
  refine za (zk (some 30) (zmN n root b _ hK3) ?_)
  rintro _ w7 ⟨rfl,hEw7⟩
  have hzw7:=hEw7.size
  refine zd 3 [(32,(vI (zaU n root b p))),(31,(vA (zt (zbd n root b p)))),(23,(.tuple #[(vA (zt (zbd n root b p))),(vI (zaU n root b p))]))] (za (zz (some 9) (Instr.alloc 33 true (.tuple #[])) (vP w7.heap.size 0) (zt Rec.zero) 33 ?_))
  intro w8 hBw8 hEw8
  have hzw8:=hEw8.size;have hlw8:=hBw8.lt
  refine za (zE 33 w7.heap.size 0 33 (vA (zt (zbd n root b p))) (zt Rec.zero) (zt (zbd n root b p)) hBw8 (by rw [zO];kernel_rfl) (by first |(simp;done)|(simp;omega)) (zau _) ?_)
  intro w9 hBw9 hCw9
  have hzw9:=hCw9.size
  rw [zq _ _ (by simp)] at hBw9
  refine zd 1 [(10,(vI (zaU n root b p)))] (zg (zb (zf (ze (zd 2 [(34,(vI (zaU n root b p))),(33,(vI (zaU n root b p)))] (za (zai (some 35) (((zaU n root b p:Nat):Int)==((zaU n root b p:Nat):Int)) true (zbm (by omega)) ?_)))))))
  refine zd 1 [(36,vT)] ?_
  have hK4:=(((((hBw6.ext hEw7)).ext hEw8)).chg hCw9 (fun hs=>by have h:_=_:=hs;omega))
  refine za (zi (some 37) (Instr.loadAt 33 (vP w4.heap.size 0)) (vA (zt (zbd n root b p))) (zI (vs:=zt (zbd n root b p)) (hK4.all) (by rw [zO];kernel_rfl)) ?_)
  refine za (zi (some 38) (Instr.loadAt 33 (vP w7.heap.size 0)) (vA (zt (zbd n root b p))) (zI (vs:=zt (zbd n root b p)) (hBw9.all) (by rw [zO];kernel_rfl)) ?_)
  refine za (zi (some 39) (bo .eql 33 (.tmp 37) (.tmp 38) (vA (zt (zbd n root b p))) (vA (zt (zbd n root b p)))) vT (zcR (r:=true) (T:=33) ((zbE (dd:=9997) (t:=33) (t8:=5) (tn:=31) (td:=23) (e:=5) (t32:=28) (t64:=29) (zbd n root b p) (zbd n root b p)).trans (congrArg (fun b=>Result.ok b _) (show ((zbd n root b p).eqb (zbd n root b p))=true from (Rec.eqb_iff _ _).2 rfl)))) ?_)
  refine zd 2 [(41,vT),(40,vT)] ?_
  have hK5:=(((((((((((((((hg0.ext hEw1)).ext hEw2)).ext hEw4)).ext hEw5)).chg hCw6 (fun hs=>by have h:_=_:=hs;omega))).ext hEw7)).ext hEw8)).chg hCw9 (fun hs=>by have h:_=_:=hs;omega))
  have hK6:=(((((((((((((((hg1.ext hEw1)).ext hEw2)).ext hEw4)).ext hEw5)).chg hCw6 (fun hs=>by have h:_=_:=hs;omega))).ext hEw7)).ext hEw8)).chg hCw9 (fun hs=>by have h:_=_:=hs;omega))
  have hK7:=(((((((((((((((hg2.ext hEw1)).ext hEw2)).ext hEw4)).ext hEw5)).chg hCw6 (fun hs=>by have h:_=_:=hs;omega))).ext hEw7)).ext hEw8)).chg hCw9 (fun hs=>by have h:_=_:=hs;omega))
  have hK8:=(((((((((((((((hg3.ext hEw1)).ext hEw2)).ext hEw4)).ext hEw5)).chg hCw6 (fun hs=>by have h:_=_:=hs;omega))).ext hEw7)).ext hEw8)).chg hCw9 (fun hs=>by have h:_=_:=hs;omega))
  refine za (zk (some 42) (zii _ hK5 hK6 hK7 hK8) ?_)
  rintro _ w10 ⟨rfl,hEw10⟩
  have hzw10:=hEw10.size
  refine zd 2 [(6,vT),(43,vT)] (zg (zb (zp (zv vT ?_))))
  have hX1:Ext w w10:=((Ext.own (((Ext.own (((hEw1.trans hEw2).trans hEw4).trans hEw5) hCw6 (by omega)).trans hEw7).trans hEw8) hCw9 (by omega)).trans hEw10)
  exact ⟨rfl,hX1⟩
end Go.Proofs.YtgdpdnokcnhgnaaGreatDoor
namespace Go.Cs
open Go Go.ChangeShapes Go.WideShapes Go.ChangeAt Go.RowKit
section
variable {H:Type} {enc:TypeId×Value→H} {P:Program} {W:World} {base:Nat} {sp:Nat→Bool} {held:Bool}
def Rd (enc:TypeId×Value→H) (P:Program) (W:World) (base:Nat) (sp:Nat→Bool) (held:Bool) (t:TypeId) (cs:List Value):Prop:=∃fuel r,DataW.trod enc P W base sp held fuel t cs=some r
theorem zet {α β:Type} {f:α→Option β}:∀{xs:List α} {ys:List β},xs.mapM f=some ys→∀x∈xs,∃y,f x=some y
 | [],_,_,x,hx=>by simp at hx
 | a::xs,ys,h,x,hx=>by
  simp only [List.mapM_cons,Option.bind_eq_bind,Option.bind_eq_some_iff] at h
  obtain ⟨y,hy,zs,hz,_⟩:=h
  rcases List.mem_cons.1 hx with rfl | hx
  ·exact ⟨y,hy⟩
  ·exact zet hz x hx
theorem zjY {t e:TypeId} {n:Nat} {r:Reach} {b:Nat} {v:Value} (hu:P.underlying t=some (.array n e)) (h:Value.okWide P W r b t v):∃cs,v= .agg cs∧True:=by
 simp only [Value.okWide,hu] at h
 obtain ⟨cs,h1,_⟩:=h
 exact ⟨cs,h1,trivial⟩
theorem zcW {t:TypeId} {k:IntKind} {cs:List Value} (h:Rd enc P W base sp held t cs) (ht:P.underlying t=some (.int k)):∃n,cs= [.int k n]∧(Lit.int k n).wf=true:=by
 obtain ⟨fuel,r,hf⟩:=h
 obtain ⟨n,h1,_,h3⟩:=DataW.trod_int ht hf
 exact ⟨n,h1,h3⟩
theorem zb1 {t:TypeId} {cs:List Value} {x:Bool×TypeId×Nat} {xs:List (Bool×TypeId×Nat)} (h:Rd enc P W base sp held t cs) (hF:zaw P t=x::xs):
  cs.length=P.cellsOf t∧∀y∈x::xs,Rd enc P W base sp held y.2.1 ((cs.drop y.2.2).take (P.cellsOf y.2.1)):=by
 obtain ⟨fuel,r,hf⟩:=h
 have hu:=zc1 ⟨x,xs,hF⟩
 cases fuel with
 | zero=>simp [DataW.trod] at hf
 | succ fuel=>
  rw [DataW.trod.eq_def] at hf
  simp only [hu] at hf
  split at hf
  ·next hl=>
   refine ⟨hl,fun y hy=> ?_⟩
   simp only [Option.map_eq_some_iff] at hf
   obtain ⟨zs,hz,_⟩:=hf
   rw [←hF,zaw,List.mem_map] at hy
   obtain ⟨f,hf1,rfl⟩:=hy
   obtain ⟨z,hz2⟩:=zet hz f hf1
   exact ⟨fuel,z,hz2⟩
  ·cases hf
theorem zda {t e:TypeId} {n:Nat} {cs:List Value} (h:Rd enc P W base sp held t cs) (hu:P.underlying t=some (.array n e)):
  cs.length=P.cellsOf t∧∀i,i<n→Rd enc P W base sp held e ((cs.drop (i*P.cellsOf e)).take (P.cellsOf e)):=by
 obtain ⟨fuel,r,hf⟩:=h
 cases fuel with
 | zero=>simp [DataW.trod] at hf
 | succ fuel=>
  rw [DataW.trod.eq_def] at hf
  simp only [hu] at hf
  split at hf
  ·next hl=>
   refine ⟨hl,fun i hi=> ?_⟩
   simp only [Option.map_eq_some_iff] at hf
   obtain ⟨zs,hz,_⟩:=hf
   obtain ⟨z,hz2⟩:=zet hz i (List.mem_range.2 hi)
   exact ⟨fuel,z,hz2⟩
  ·cases hf
theorem zhh {t e:TypeId} {cs:List Value} (h:Rd enc P W base sp held t cs) (hu:P.underlying t=some (.array 32 e)) (he:P.underlying e=some (.int .u8)) (h1:P.cellsOf e=1) (h32:P.cellsOf t=32):∃d:Dig,cs=zC d:=by
 obtain ⟨hl,hi⟩:=zda h hu
 rw [h32] at hl
 refine ⟨⟨cs.map (fun v=>match v with | .int _ n=>UInt8.ofNat n.toNat | _=>0),by simp [hl]⟩, ?_⟩
 refine List.ext_getElem (by simp [zC,hl]) (fun i h2 h3=> ?_)
 obtain ⟨n,hn,hw⟩:=zcW (hi i (by omega)) he
 rw [h1,Nat.mul_one] at hn
 have hg:cs[i]= .int .u8 n:=by
  have:=congrArg (fun z=>z[0]?) hn
  simp [List.getElem?_take,List.getElem?_drop,h2] at this
  exact this
 have hb:=bounds_u8 hw
 simp only [zC,u8s,List.getElem_map,hg]
 rw [UInt8.toNat_ofNat',Nat.mod_eq_of_lt (by omega)]
 congr 1;omega
theorem zbT {t:TypeId} {k:IntKind} {cs:List Value} (h:Rd enc P W base sp held t cs) (ht:P.underlying t=some (.int k)) (h0:∀n,(Lit.int k n).wf=true→0≤n∧n<2^k.bits):∃n:Nat,cs= [.int k (n:Int)]∧n<2^k.bits:=by
 obtain ⟨n,h1,h2⟩:=zcW h ht
 obtain ⟨h3,h4⟩:=h0 n h2
 obtain ⟨m,rfl⟩:=Int.eq_ofNat_of_zero_le h3
 exact ⟨m,h1,by exact_mod_cast h4⟩
theorem zav {α:Type} (cs:List α) (a b:Nat):(cs.drop a).take b++cs.drop (a+b)=cs.drop a:=by
 rw [←List.drop_drop,List.take_append_drop]
theorem w8 (n:Int) (h:(Lit.int .u8 n).wf=true):0≤n∧n<2^IntKind.u8.bits:=by have:=bounds_u8 h;exact ⟨by omega,by show n<2^8;omega⟩
theorem w32 (n:Int) (h:(Lit.int .u32 n).wf=true):0≤n∧n<2^IntKind.u32.bits:=by have:=bounds_u32 h;exact ⟨by omega,by show n<2^32;omega⟩
theorem w64 (n:Int) (h:(Lit.int .u64 n).wf=true):0≤n∧n<2^IntKind.u64.bits:=by have:=bounds_u64 h;exact ⟨by omega,by show n<2^64;omega⟩
theorem zqY {t t32 t64:TypeId} {cs:List Value} (h:Rd enc P W base sp held t cs) (hF:zaw P t= [(true,t32,0),(true,t64,1)]) (h1:P.underlying t32=some (.int .u32)) (h2:P.underlying t64=some (.int .u64))
  (c1:P.cellsOf t32=1) (c2:P.cellsOf t64=1) (c:P.cellsOf t=2):∃x:Non,cs=zbN x:=by
 obtain ⟨hl,hf⟩:=zb1 h hF
 obtain ⟨a,ha,ha2⟩:=zbT (hf (true,t32,0) (by simp)) h1 w32
 obtain ⟨b,hb,hb2⟩:=zbT (hf (true,t64,1) (by simp)) h2 w64
 simp only [c1,c2] at ha hb
 refine ⟨⟨a,b,ha2,hb2⟩, ?_⟩
 have e1:=zav cs 0 1
 have e2:=zav cs 1 1
 rw [ha] at e1;rw [hb,List.drop_eq_nil_of_le (by omega)] at e2
 rw [List.drop_zero] at e1
 rw [←e1,←e2];rfl
theorem zm2 {t t8 tn td e t32 t64:TypeId} {cs:List Value} (h:Rd enc P W base sp held t cs) (hF:zaw P t= [(true,t8,0),(true,tn,1),(true,td,3)]) (h8:P.underlying t8=some (.int .u8)) (c8:P.cellsOf t8=1)
  (hFn:zaw P tn= [(true,t32,0),(true,t64,1)]) (h1:P.underlying t32=some (.int .u32)) (h2:P.underlying t64=some (.int .u64)) (c1:P.cellsOf t32=1) (c2:P.cellsOf t64=1) (cn:P.cellsOf tn=2)
  (hu:P.underlying td=some (.array 32 e)) (he:P.underlying e=some (.int .u8)) (ce:P.cellsOf e=1) (cd:P.cellsOf td=32) (c:P.cellsOf t=35):∃x:Rec,cs=zt x:=by
 obtain ⟨hl,hf⟩:=zb1 h hF
 obtain ⟨a,ha,ha2⟩:=zbT (hf (true,t8,0) (by simp)) h8 w8
 obtain ⟨x,hx⟩:=zqY (hf (true,tn,1) (by simp)) hFn h1 h2 c1 c2 cn
 obtain ⟨d,hd⟩:=zhh (hf (true,td,3) (by simp)) hu he ce cd
 simp only [c8,cn,cd] at ha hx hd
 refine ⟨⟨a,x,d,ha2⟩, ?_⟩
 have e1:=zav cs 0 1
 have e2:=zav cs 1 2
 have e3:=zav cs 3 32
 rw [ha] at e1;rw [hx] at e2;rw [hd,List.drop_eq_nil_of_le (by omega)] at e3
 rw [List.drop_zero] at e1
 rw [←e1,←e2,←e3];simp [zt,zbN]
theorem zm7 {t t8 td e:TypeId} {cs:List Value} (h:Rd enc P W base sp held t cs) (hF:zaw P t= [(true,t8,0),(true,td,1)]) (h8:P.underlying t8=some (.int .u8)) (c8:P.cellsOf t8=1)
  (hu:P.underlying td=some (.array 32 e)) (he:P.underlying e=some (.int .u8)) (ce:P.cellsOf e=1) (cd:P.cellsOf td=32) (c:P.cellsOf t=33):∃x:Ent,cs=zaa x:=by
 obtain ⟨hl,hf⟩:=zb1 h hF
 obtain ⟨a,ha,ha2⟩:=zbT (hf (true,t8,0) (by simp)) h8 w8
 obtain ⟨d,hd⟩:=zhh (hf (true,td,1) (by simp)) hu he ce cd
 simp only [c8,cd] at ha hd
 refine ⟨⟨a,d,ha2⟩, ?_⟩
 have e1:=zav cs 0 1
 have e3:=zav cs 1 32
 rw [ha] at e1;rw [hd,List.drop_eq_nil_of_le (by omega)] at e3
 rw [List.drop_zero] at e1
 rw [←e1,←e3];simp [zaa]
theorem w16 (n:Int) (h:(Lit.int .u16 n).wf=true):0≤n∧n<2^IntKind.u16.bits:=by
 simp [Lit.wf,IntKind.min,IntKind.max,IntKind.signed,IntKind.bits] at h
 exact ⟨by omega,by show n<2^16;omega⟩
end
end Go.Cs
namespace Go.Cs
open Go Go.ChangeShapes Go.WideShapes Go.ChangeAt Go.RowKit
theorem zgE {α:Type} {f:α→List Value} {sz:Nat} (hf:∀x,(f x).length=sz) (d:α):∀(l:List α) (k:Nat),0<sz→(l.flatMap f)[k]? =if k<l.length*sz then (f (l.getD (k/sz) d))[k%sz]? else none
 | [],k,hz=>by simp
 | x::l,k,hz=>by
  rw [List.flatMap_cons]
  rcases Nat.lt_or_ge k sz with h | h
  ·rw [List.getElem?_append_left (by rw [hf];exact h),Nat.div_eq_of_lt h,Nat.mod_eq_of_lt h,if_pos]
   ·simp
   ·rw [List.length_cons,Nat.add_mul,Nat.one_mul];omega
  ·rw [List.getElem?_append_right (by rw [hf];exact h),hf,zgE hf d l (k-sz) hz]
   have e1:k/sz=(k-sz)/sz+1:=by rw [←Nat.add_div_right _ hz,Nat.sub_add_cancel h]
   have e2:k%sz=(k-sz)%sz:=by rw [←Nat.mod_eq_sub_mod h]
   rw [e1,e2,List.getD_cons_succ,List.length_cons,Nat.add_mul,Nat.one_mul]
   by_cases h2:k<l.length*sz+sz
   ·rw [if_pos (by omega),if_pos h2]
   ·rw [if_neg (by omega),if_neg h2]
section
variable {H:Type} {enc:TypeId×Value→H} {P:Program} {W:World} {base:Nat} {sp:Nat→Bool} {held:Bool}
theorem zeW {α:Type} {f:α→List Value} {t e:TypeId} {sz:Nat} {cs:List Value} (hx:∀us,Rd enc P W base sp held e us→∃x,us=f x) (hf:∀x,(f x).length=sz) (h:Rd enc P W base sp held t cs) (hu:P.underlying t=some (.slice e)) (he:P.cellsOf e=sz) (hz:0<sz):
  ∃a len cap l,cs= [.slice a len cap]∧Ms f sz 0 W.heap.size W a len cap l:=by
 obtain ⟨fuel,r,hr⟩:=h
 rcases Go.Deep.open_slice hu hr with ⟨rfl,_⟩|⟨a,len,cap,m,n,D,Pl,rfl,hb,hl,hm,hmm,_,hi⟩
 ·exact ⟨none,0,0, [],rfl,Ms.nil f _ _ _ hf⟩
 ·have hlm:len≤m:=by subst hmm;split<;>omega
  rw [he] at hi
  rcases Nat.eq_zero_or_pos len with h0 | h0
  ·subst h0
   exact ⟨some a,0,cap, [],rfl,⟨⟨hl,hm, .inl rfl⟩,rfl,hf⟩⟩
  ·have one:∀i,i<len→∃x,W.cells? base (a.add (i*sz)) sz=some (f x):=fun i hlt=>by
    obtain ⟨cs',h1,h2⟩:=hi i (by omega)
    obtain ⟨x,rfl⟩:=hx cs' ⟨n,_,h2⟩
    exact ⟨x,h1⟩
   obtain ⟨x0,hx0⟩:=one 0 h0
   haveI:Inhabited α:=⟨x0⟩
   obtain ⟨g,hg⟩:=Go.Deep.choose_lt one
   have hsp:a.spot=none∧a.block<W.heap.size:=by
    have h3:=(World.cells?_some hx0).2.2 0 hz
    rw [Nat.zero_mul] at h3
    have e0:(a.add 0).add 0=a:=by simp [Addr.add]
    rw [e0,List.getElem?_eq_getElem (by rw [hf];exact hz)] at h3
    refine ⟨?_,World.block_lt_of_cell? W a h3⟩
    cases hs:a.spot with
    | none=>rfl
    | some k=>
     exfalso
     have h4:=(World.cells?_some (hg 0 h0)).2.2
     simp only [World.cell?,hs] at h3
     split at h3<;>simp at h3
   obtain ⟨b,o,s⟩:=a
   simp only at hsp
   obtain ⟨rfl,hlt⟩:=hsp
   refine ⟨_,len,cap,(List.range len).map g,rfl,⟨hl,hm, .inr ⟨rfl,Nat.zero_le _,hlt,hlt,fun k v hk=> ?_⟩⟩,by simp,hf⟩
   rw [zgE hf x0 _ k hz] at hk
   simp only [List.length_map,List.length_range] at hk
   split at hk
   ·next hks=>
    have hq:k/sz<len:=Nat.div_lt_of_lt_mul (by rw [Nat.mul_comm];exact hks)
    have hg1:((List.range len).map g).getD (k/sz) x0=g (k/sz):=by simp [List.getD,hq]
    rw [hg1] at hk
    have h5:=(World.cells?_some (hg (k/sz) hq)).2.2 (k%sz) (Nat.mod_lt _ hz)
    rw [hk,Addr.add_lit,Addr.add_lit] at h5
    rw [←h5]
    have:=Nat.div_add_mod k sz
    rw [Nat.mul_comm] at this
    simp only [Nat.add_assoc,this]
   ·cases hk
end
end Go.Cs
namespace Go.Cs
open Go Go.ChangeShapes Go.WideShapes Go.ChangeAt Go.RowKit
section
variable {H:Type} {enc:TypeId×Value→H} {P:Program} {W:World} {base:Nat} {sp:Nat→Bool} {held:Bool}
theorem zkR {α:Type} {f:α→List Value} {t e:TypeId} {n sz:Nat} {cs:List Value} (hx:∀us,Rd enc P W base sp held e us→∃x,us=f x) (h:Rd enc P W base sp held t cs) (hu:P.underlying t=some (.array n e)) (he:P.cellsOf e=sz) (ht:P.cellsOf t=n*sz):
  ∃l:List α,l.length=n∧cs=l.flatMap f:=by
 obtain ⟨hl,hi⟩:=zda h hu
 have step:∀m,m≤n→∃l:List α,l.length=m∧cs.take (m*sz)=l.flatMap f:=by
  intro m
  induction m with
  | zero=>intro _;exact ⟨[],rfl,by simp⟩
  | succ m ih=>
   intro hm
   obtain ⟨l,h1,h2⟩:=ih (by omega)
   obtain ⟨x,h3⟩:=hx _ (hi m (by omega))
   rw [he] at h3
   exact ⟨l++ [x],by simp [h1],by rw [Nat.add_mul,Nat.one_mul,List.take_add,h2,h3];simp⟩
 obtain ⟨l,h1,h2⟩:=step n (Nat.le_refl _)
 exact ⟨l,h1,by rw [←h2,List.take_of_length_le (by omega)]⟩
theorem zfg {t e:TypeId} {k:IntKind} {fuel n:Nat} {cs:List Value} {p:List MemPlace} {ns:List Int} (h:DataW.trod enc P W base sp held fuel t cs=some (.agg (ns.map fun z=> .lit (.int k z)),p)) (hu:P.underlying t=some (.array n e)) (he:P.underlying e=some (.int k)) (ce:P.cellsOf e=1) (ct:P.cellsOf t=n):
  cs=ns.map fun z=> .int k z:=by
 obtain ⟨xs,m,rfl,hx,hl,hn,hi⟩:=DataW.trod_array hu h
 simp only [Prod.mk.injEq,DataW.agg.injEq] at hx
 have hlen:ns.length=n:=by rw [←hn,show xs.length=(xs.map fun x=>x.1).length from by simp,←hx.1,List.length_map]
 refine List.ext_getElem (by simp;omega) fun i h1 h2=> ?_
 have h3:i<xs.length:=by omega
 have h4:=hi i (by omega)
 rw [List.getElem?_eq_getElem h3,ce,Nat.mul_one] at h4
 obtain ⟨z,e1,e2,_⟩:=DataW.trod_int he h4
 have e3:cs[i]= .int k z:=by
  have:=congrArg (fun y=>y[0]?) e1
  simp [List.getElem?_take,List.getElem?_drop,h1] at this
  exact this
 have e4:=congrArg (fun y=>y[i]?) hx.1
 simp only [List.getElem?_map,List.getElem?_eq_getElem h3,e2,List.getElem?_eq_getElem (show i<ns.length by omega),Option.map_some,Option.some.injEq,DataW.lit.injEq,Lit.int.injEq,true_and] at e4
 rw [e3];simp [e4]
theorem ziL {name:String} {g:Nat} {cs:Array Value} {vs:List Value} (hg:P.globalNamed name=some g) (hv:W.var? P name=some cs) (hcs:cs.toList=vs):Gl g vs W:=by
 have hc:=fun i=>World.var?_cell hg hv i
 refine ⟨fun i v hi=> ?_, ?_⟩
 ·rw [Nat.zero_add,hc i,←hi,←hcs];simp
 ·simp only [World.var?,hg,Option.bind_some] at hv
  rcases Nat.lt_or_ge g W.heap.size with h | h
  ·exact h
  ·rw [Array.getElem?_eq_none h] at hv;simp at hv
theorem zqA {N R E r t8 tn td e t32 t64 en:TypeId} {cs:List Value} (h:Rd enc P W base sp held N cs) (hN:zaw P N= [(true,t8,0),(true,t32,1),(true,R,2),(true,E,142)])
  (hR:P.underlying R=some (.array 4 r)) (hE:P.underlying E=some (.array 4 en)) (h8:P.underlying t8=some (.int .u8)) (c8:P.cellsOf t8=1) (hF:zaw P r= [(true,t8,0),(true,tn,1),(true,td,3)]) (hFe:zaw P en= [(true,t8,0),(true,td,1)])
  (hFn:zaw P tn= [(true,t32,0),(true,t64,1)]) (h1:P.underlying t32=some (.int .u32)) (h2:P.underlying t64=some (.int .u64)) (c1:P.cellsOf t32=1) (c2:P.cellsOf t64=1) (cn:P.cellsOf tn=2)
  (hu:P.underlying td=some (.array 32 e)) (he:P.underlying e=some (.int .u8)) (ce:P.cellsOf e=1) (cd:P.cellsOf td=32) (cr:P.cellsOf r=35) (cen:P.cellsOf en=33) (cR:P.cellsOf R=140) (cE:P.cellsOf E=132) (c:P.cellsOf N=274):∃x:Nod,cs=zN x:=by
 obtain ⟨hl,hf⟩:=zb1 h hN
 obtain ⟨a,ha,ha2⟩:=zbT (hf (true,t8,0) (by simp)) h8 w8
 obtain ⟨b,hb,hb2⟩:=zbT (hf (true,t32,1) (by simp)) h1 w32
 obtain ⟨rs,hr1,hr2⟩:=zkR (f:=zt) (fun us hh=>zm2 hh hF h8 c8 hFn h1 h2 c1 c2 cn hu he ce cd cr) (hf (true,R,2) (by simp)) hR cr cR
 obtain ⟨es,he1,he2⟩:=zkR (f:=zaa) (fun us hh=>zm7 hh hFe h8 c8 hu he ce cd cen) (hf (true,E,142) (by simp)) hE cen cE
 simp only [c8,c1,cR,cE] at ha hb hr2 he2
 refine ⟨⟨a,b,⟨rs,hr1⟩,⟨es,he1⟩,ha2,hb2⟩, ?_⟩
 have e1:=zav cs 0 1
 have e2:=zav cs 1 1
 have e3:=zav cs 2 140
 have e4:=zav cs 142 132
 rw [ha] at e1;rw [hb] at e2;rw [hr2] at e3;rw [he2,List.drop_eq_nil_of_le (by omega)] at e4
 rw [List.drop_zero] at e1
 rw [←e1,←e2,←e3,←e4];simp [zN,r4C,e4C]
end
end Go.Cs
namespace Go.Cs
open Go Go.ChangeShapes Go.WideShapes Go.ChangeAt Go.RowKit
section
variable {H:Type} {enc:TypeId×Value→H} {P:Program} {W:World} {base:Nat} {sp:Nat→Bool} {held:Bool}
end
end Go.Cs
namespace Go.Cs
open Go Go.ChangeShapes Go.WideShapes Go.ChangeAt Go.RowKit
theorem ziT {cs p q:List Value} {o a:Nat} (h:(cs.drop o).take a=p) (h2:cs.drop (o+a)=q):cs.drop o=p++q:=by
 rw [←h,←h2,←List.drop_drop,List.take_append_drop]
theorem zpn {cs:List Value} {o:Nat} (h:cs.length≤o):cs.drop o= []:=List.drop_eq_nil_of_le h
section
variable {H:Type} {enc:TypeId×Value→H} {P:Program} {W:World} {base:Nat} {sp:Nat→Bool} {held:Bool}
end
end Go.Cs
