/- Lemmas and walks: what each function does, by its own code. No condition beyond those of each statement. -/
import Derived.Test.YtgdpdnokcnhgnaaGreatDoorK1
import Derived.ProofKit
import Derived.OpenShut
import Derived.ChangeOld
import Derived.Deep.Slices
import Derived.LaidMore
import Derived.Stop.Joined
set_option linter.all false
set_option linter.unusedVariables false
namespace Go.Proofs.YtgdpdnokcnhgnaaGreatDoor
open Go Go.RowKit Go.Cs
set_option maxRecDepth 100000
set_option maxHeartbeats 8000000 in
theorem zh6 (n:Nat) {lo_l hi_l:Nat} {a_l:Option Addr} {n_l c_l:Nat} {l:List Rec} {lo_s hi_s:Nat} {a_s:Option Addr} {n_s c_s:Nat} {s:List Nat} (w:World) (h_l:Ms zE 35 lo_l hi_l w a_l n_l c_l l) (h_s:Es (nv .i64) lo_s hi_s w a_s n_s c_s s) (hp0:OkM l s) (hp1:n=n_l) (hg0:Gl 0 [vI 45,vI 33] w) (hg1:Gl 2 (w8C za2) w) (hg2:Gl 3 (zR kA) w):
  Calls Tryz.prog 16 #[(vI n),(.slice a_l n_l c_l),(.slice a_s n_s c_s)] w (Ret fun r w'=>∃a1,r=(.tuple #[(vA [(vI n),(.slice a1 (tot n) (tot n))]),(vI 0)])∧OwM zK 274 w.heap.size w'.heap.size w' a1 (tot n) (tot n) 47 (zaa l s)∧Ext w w'):=by
 refine zL (n:=177) (σ:= [(0,(vI n)),(1,(.slice a_l n_l c_l)),(2,(.slice a_s n_s c_s))]) Tryz.func16 rfl ?_
 replace h_l:=h_l.now;have hle_l:=h_l.le
 replace h_s:=h_s.now;have hle_s:=h_s.le
 have hgl0:=hg0.lt
 have hgl1:=hg1.lt
 have hgl2:=hg2.lt
 have hlen:=h_l.len_eq
 have hls:=h_s.len_eq
 have hnl:n=l.length:=by omega
 have ho1:=hp0.n1;have ho2:=hp0.n2;have ho4:=hp0.len;rw [←hnl] at ho1 ho2 ho4
 have h5:=zaz n
 have hts:=zbN ho2
 have hle:=h_l.le;have hle2:=h_s.le
 refine zf (ze (zb (zt (some 6) (Instr.alloc 50 true (.tuple #[])) (vP w.heap.size 0) ([(vI 0),(.slice none 0 0)]) 50 ?_)))
 intro w1 hBw1 hEw1
 have hzw1:=hEw1.size;have hlw1:=hBw1.lt
 refine zd 1 [(7,(vI 0))] (zg (zc (zf (ze (zd 1 [(28,(vI n))] (zb (zi (some 29) (ziS n _ (by omega) (by omega)) ?_)))))))
 rintro _ w2 ⟨a1,ca1,a2,ca2,rfl,hFz1_0,hFz1_1,hEw2⟩
 have hzw2:=hEw2.size
 have hlea1:=hFz1_0.le
 have hlea2:=hFz1_1.le
 refine zd 3 [(31,(vI 0)),(30,(vA [(vI n),(.slice a1 (hgt n+1) ca1),(.slice a2 (hgt n+1) ca2)])),(27,(.tuple #[(vA [(vI n),(.slice a1 (hgt n+1) ca1),(.slice a2 (hgt n+1) ca2)]),(vI 0)]))] (zb (zt (some 8) (Instr.alloc 106 true (.tuple #[])) (vP w2.heap.size 0) ([(vI 0),(.slice none 0 0),(.slice none 0 0)]) 106 ?_))
 intro w3 hBw3 hEw3
 have hzw3:=hEw3.size;have hlw3:=hBw3.lt
 refine zb (zz 106 w2.heap.size 0 106 (vA [(vI n),(.slice a1 (hgt n+1) ca1),(.slice a2 (hgt n+1) ca2)]) ([(vI 0),(.slice none 0 0),(.slice none 0 0)]) ([(vI n),(.slice a1 (hgt n+1) ca1),(.slice a2 (hgt n+1) ca2)]) hBw3 (by kernel_rfl) (by first | decide |(simp;done)|(simp;omega)) (by simp [Value.oneCell']) ?_)
 intro w4 hBw4 hCw4
 have hzw4:=hCw4.size
 rw [zm _ _ (by kernel_rfl)] at hBw4
 refine zd 1 [(9,(vI 0))] (zg (zc (zf (zf (ze (zd 1 [(32,(vI 0))] (zb (zat (some 33) (((0:Nat):Int) !=((0:Nat):Int)) false (zaL (by omega)) ?_))))))))
 refine zg (zc (zr (zy (zc (zf (ze (zd 1 [(10,(.func (.func 46) #[] #[]))] (zg (zc ?_)))))))))
 refine zf (zf (ze (zd 3 [(38,(vI n)),(37,(vI n_l)),(36,(.slice a_l n_l c_l))] ?_)))
 have hK1:=(((((((h_s.ext hEw1)).ext hEw2)).ext hEw3)).chg hCw4 (fun k h1 h2 hs=>by have h:k=_:=hs;omega))
 have hIs:=(hK1).ints
 refine zb (zat (some 39) (((n_l:Nat):Int) !=((n:Nat):Int)) false (zaL (by omega)) ?_)
 refine zd 3 [(42,(vI n_s)),(41,(.slice a_s n_s c_s)),(40,vF)] (zb (zj (some 43) (Instr.loadAt 106 (vP w2.heap.size 0)) (vA [(vI n),(.slice a1 (hgt n+1) ca1),(.slice a2 (hgt n+1) ca2)]) (zD (vs:= [(vI n),(.slice a1 (hgt n+1) ca1),(.slice a2 (hgt n+1) ca2)]) (hBw4.all)) ?_))
 refine zb (zi (some 44) (zfF n _ (((hFz1_0.ext hEw3)).chg hCw4 (fun k h1 h2 hs=>by have h:k=_:=hs;omega)) (((hFz1_1.ext hEw3)).chg hCw4 (fun k h1 h2 hs=>by have h:k=_:=hs;omega)) (by first | rfl | assumption) (by first | rfl | assumption) (by omega) (by omega)) ?_)
 rintro _ w5 ⟨rfl,hEw5⟩
 have hzw5:=hEw5.size
 refine zb (zat (some 45) (((n_s:Nat):Int) !=((tot n:Nat):Int)) false (zaL (by omega)) ?_)
 refine zd 4 [(49,(.func (.func 46) #[] #[])),(48,(.slice a_s n_s c_s)),(47,vF),(46,vF)] (zb (zi (some 50) (zqg _ (hIs.ext hEw5) (fun i=>by rw [zix];have:=hp0.sl i;omega)) ?_))
 rintro _ w6 ⟨rfl,hEw6⟩
 have hzw6:=hEw6.size
 refine zd 1 [(51,vF)] (zg (zc (zr (zy (zc (zf (zf (ze (zd 3 [(55,(vI 0)),(54,(vI n_l)),(53,(.slice a_l n_l c_l))] ?_)))))))))
 refine zg (zc (zI (zah (X:=Nat) (fun i=> [(55,(vI i))]) [7,12,13,56,57,58,59,60,61,62,63,64,65] (fun i w7=>i≤n_l∧Ext w6 w7) (fun i=>n_l-i) 0 (by kernel_rfl) ⟨Nat.zero_le _,Ext.refl _⟩ ?_)))
 rintro i dw7 w7 ⟨hi,hE0⟩
 have hz0:=hE0.size
 refine zf (ze (zb (zO (some 56) (decide (((i:Nat):Int)<((n_l:Nat):Int))) (fun hc56=> ?_) (fun hc56=> ?_))))
 ·replace hc56:i<n_l:=by have:=zak hc56;omega
  refine zg (zc (zf (zF (zy (zc (zf (zI (zf (ze ?_)))))))))
  obtain ⟨b1,o1,rfl⟩:=h_l.addr (by omega) (by decide)
  refine zb (zj (some 57) (Instr.indexAt 39 (.slice (pA b1 o1) n_l c_l) (vI i)) (vP b1 (o1+i*35)) (zap (E:=33) (sz:=35) (by omega)) ?_)
  have hK2:=(((((((((((((h_l.ext hEw1)).ext hEw2)).ext hEw3)).chg hCw4 (fun k h1 h2 hs=>by have h:k=_:=hs;omega))).ext hEw5)).ext hEw6)).ext hE0)
  refine zb (zj (some 58) (Instr.loadAt 33 (vP b1 (o1+i*35))) (vA (zE (l.getD i Rec.zero))) (zD (vs:=zE (l.getD i Rec.zero)) (hK2.at Rec.zero (by omega)) (by rw [zY];kernel_rfl)) ?_)
  refine zb (zt (some 12) (Instr.alloc 33 true (.tuple #[])) (vP w7.heap.size 0) (zE Rec.zero) 33 ?_)
  intro w8 hBw8 hEw8
  have hzw8:=hEw8.size;have hlw8:=hBw8.lt
  refine zb (zz 33 w7.heap.size 0 33 (vA (zE (l.getD i Rec.zero))) (zE Rec.zero) (zE (l.getD i Rec.zero)) hBw8 (by rw [zY];kernel_rfl) (by first |(simp;done)|(simp;omega)) (zaU _) ?_)
  intro w9 hBw9 hCw9
  have hzw9:=hCw9.size
  rw [zm _ _ (by simp)] at hBw9
  refine zg (zc (zf (ze (zb (zj (some 59) (Instr.loadAt 33 (vP w7.heap.size 0)) (vA (zE (l.getD i Rec.zero))) (zD (vs:=zE (l.getD i Rec.zero)) (hBw9.all) (by rw [zY];kernel_rfl)) ?_)))))
  refine zb (zi (some 60) (zen (l.getD i Rec.zero) _) ?_)
  rintro _ w10 ⟨rfl,hEw10⟩
  have hzw10:=hEw10.size
  rw [show zaB (l.getD i Rec.zero)=0 from hp0.rc i (by omega)]
  refine zd 1 [(13,(vI 0))] (zg (zc (zf (ze (zd 1 [(61,(vI 0))] (zb (zat (some 62) (((0:Nat):Int) !=((0:Nat):Int)) false (zaL (by omega)) ?_)))))))
  refine zg (zc (zr (zy (zp (zc (ze (zb (zv (some 65) .i64 (IntKind.i64.wrap (((i:Nat):Int)+((1:Nat):Int))) (i+1) (zG (by omega) (by omega) (by omega)) ?_))))))))
  refine zd 1 [(55,(vI (i+1)))] (zg (zC ?_))
  have hX1:Ext w6 w10:=((Ext.own (hE0.trans hEw8) hCw9 (by omega)).trans hEw10)
  refine zS (i+1) ?_ ?_
  ·exact ⟨by omega,hX1⟩
  ·first | omega |(dsimp only;omega)
 ·replace hc56:¬(i<n_l):=by have:=zal hc56;omega
  refine zg (zc (zf (zr (zaf (zH (zH (zT (zc (zf ?_)))))))))
  refine ze (zd 1 [(66,(vI n))] ?_)
  have hK3:=(((((hBw4.ext hEw5)).ext hEw6)).ext hE0)
  refine zb (zj (some 67) (Instr.loadAt 106 (vP w2.heap.size 0)) (vA [(vI n),(.slice a1 (hgt n+1) ca1),(.slice a2 (hgt n+1) ca2)]) (zD (vs:= [(vI n),(.slice a1 (hgt n+1) ca1),(.slice a2 (hgt n+1) ca2)]) (hK3.all)) ?_)
  have hK4:=(((((((((hFz1_0.ext hEw3)).chg hCw4 (fun k h1 h2 hs=>by have h:k=_:=hs;omega))).ext hEw5)).ext hEw6)).ext hE0)
  have hK5:=(((((((((hFz1_1.ext hEw3)).chg hCw4 (fun k h1 h2 hs=>by have h:k=_:=hs;omega))).ext hEw5)).ext hEw6)).ext hE0)
  refine zb (zi (some 68) (zfF n _ hK4 hK5 (by first | rfl | assumption) (by first | rfl | assumption) (by omega) (by omega)) ?_)
  rintro _ w11 ⟨rfl,hEw11⟩
  have hzw11:=hEw11.size
  refine zb (zcU (some 69) 24 47 274 368 (tot n) (tot n) .i64 .i64 (vA (zK Nod.zero)) (by omega) (by omega) (by omega) ?_)
  rw [zeX (f:=zK) (x:=Nod.zero) rfl (zW _) (by decide)]
  intro w12 hBw12 hEw12
  have hzw12:=hEw12.size;have hlw12:=hBw12.lt
  have hmw12:Ms zK 274 w11.heap.size (w11.heap.size+1) w12 (pA w11.heap.size 0) (tot n) (tot n) (List.replicate (tot n) Nod.zero):=Ms.of_pre (r:= []) (by rw [List.append_nil];exact hBw12) zW (by simp) (Nat.le_refl _) (by simp only [maxLen];omega) (Nat.le_refl _) (Nat.lt_succ_self _)
  refine zd 1 [(70,(vA [(vI n),(.slice (pA w11.heap.size 0) (tot n) (tot n))]))] (zb (zt (some 14) (Instr.alloc 50 true (.tuple #[])) (vP w12.heap.size 0) ([(vI 0),(.slice none 0 0)]) 50 ?_))
  intro w13 hBw13 hEw13
  have hzw13:=hEw13.size;have hlw13:=hBw13.lt
  refine zb (zz 50 w12.heap.size 0 50 (vA [(vI n),(.slice (pA w11.heap.size 0) (tot n) (tot n))]) ([(vI 0),(.slice none 0 0)]) ([(vI n),(.slice (pA w11.heap.size 0) (tot n) (tot n))]) hBw13 (by kernel_rfl) (by first | decide |(simp;done)|(simp;omega)) (by simp [Value.oneCell']) ?_)
  intro w14 hBw14 hCw14
  have hzw14:=hCw14.size
  rw [zm _ _ (by kernel_rfl)] at hBw14
  refine zg (zc (zf (zf (ze (zd 1 [(71,(vP w2.heap.size 1))] ?_)))))
  have hK6:=(((((((hK3.ext hEw11)).ext hEw12)).ext hEw13)).chg hCw14 (fun hs=>by have h:_=_:=hs;omega))
  refine zb (zj (some 72) (Instr.loadAt 40 (vP w2.heap.size 1)) (.slice a1 (hgt n+1) ca1) (zo (hK6.cell rfl)) ?_)
  refine zd 2 [(74,(vI 0)),(73,(vI (hgt n+1)))] (zg (zc (zI ?_)))
  have hK7:=(((((((((((((((((((hBw1.ext hEw2)).ext hEw3)).chg hCw4 (fun hs=>by have h:_=_:=hs;omega))).ext hEw5)).ext hEw6)).ext hE0)).ext hEw11)).ext hEw12)).ext hEw13)).chg hCw14 (fun hs=>by have h:_=_:=hs;omega))
  have hK8:=(((((((hK4.ext hEw11)).ext hEw12)).ext hEw13)).chg hCw14 (fun k h1 h2 hs=>by have h:k=_:=hs;omega))
  have hK9:=(((((((hK5.ext hEw11)).ext hEw12)).ext hEw13)).chg hCw14 (fun k h1 h2 hs=>by have h:k=_:=hs;omega))
  have hX2:Ext w w14:=(Ext.own (((((((Ext.own ((hEw1.trans hEw2).trans hEw3) hCw4 (by omega)).trans hEw5).trans hEw6).trans hE0).trans hEw11).trans hEw12).trans hEw13) hCw14 (by omega))
  refine zah (X:=Nat) (fun v=> [(74,(vI v))]) [15,16,17,75,76,77,78,79,80,81,82,83,84,85,86,87,88,89,90,91,92,93,94,95,96] (fun v w15=>v≤hgt n+1∧Blk w15 w11.heap.size ((TX n (gF v 0)).flatMap zK) 47∧Blk w15 w.heap.size ([(vI 0),(.slice none 0 0)]) 50∧Blk w15 w2.heap.size ([(vI n),(.slice a1 (hgt n+1) ca1),(.slice a2 (hgt n+1) ca2)]) 106∧Blk w15 w12.heap.size ([(vI n),(.slice (pA w11.heap.size 0) (tot n) (tot n))]) 50∧Es (nv .i64) w1.heap.size w2.heap.size w15 a1 (hgt n+1) ca1 (za7 n (hgt n+1))∧Es (nv .i64) w1.heap.size w2.heap.size w15 a2 (hgt n+1) ca2 (zcy n (hgt n+1))∧Ext w w15) (fun v=>hgt n+1-v) 0 (by kernel_rfl) ⟨Nat.zero_le _,by rw [←zo7];exact (((hBw12.ext hEw13)).chg hCw14 (fun hs=>by have h:_=_:=hs;omega)),hK7,hK6,hBw14,hK8,hK9,hX2⟩ ?_
  rintro v dw15 w15 ⟨hv,hR1,hkhR16,hkhR18,hkhR114,hs1hR1,hs2hR1,hEhR1⟩
  have hzhR1:=hEhR1.size;have hlhR1:=hR1.lt
  have hmhR1:=Ms.of_row hR1 zW (len:=tot n) (zbb _ _).symm (by simp only [maxLen];omega)
  have hlkhR16:=hkhR16.lt
  have hlkhR18:=hkhR18.lt
  have hlkhR114:=hkhR114.lt
  have hcn:=zcF n v
  have hgc:v<hgt n+1→gt (za7 n (hgt n+1)) v=cnt n v:=fun hh=>zeC hh
  refine zf (ze (zb (zO (some 75) (decide (((v:Nat):Int)<((hgt n+1:Nat):Int))) (fun hc75=> ?_) (fun hc75=> ?_))))
  ·replace hc75:v<hgt n+1:=by have:=zak hc75;omega
   replace hgc:=hgc (by omega)
   refine zg (zc (zf (zF (zy (zc (zf (zI (zf (ze ?_)))))))))
   refine zd 1 [(76,(vI v))] ?_
   obtain ⟨b2,o2,rfl⟩:=hs1hR1.addr (by omega)
   refine zb (zj (some 77) (Instr.indexAt 40 (.slice (pA b2 o2) (hgt n+1) ca1) (vI v)) (vP b2 (o2+v*1)) (zap (E:=3) (sz:=1) (by omega)) ?_)
   refine zb (zj (some 78) (Instr.loadAt 3 (vP b2 (o2+v*1))) (vI (gt (za7 n (hgt n+1)) v)) (zo (hs1hR1.celln (by omega))) ?_)
   refine zd 2 [(16,(vI (gt (za7 n (hgt n+1)) v))),(15,(vI v))] (zg (zc (zf (ze (zd 2 [(80,(vI 0)),(79,(vI (gt (za7 n (hgt n+1)) v)))] (zg (zc (zI (zah (X:=Nat) (fun j=> [(80,(vI j))]) [17,81,82,83,84,85,86,87,88,89,90,91,92,93,94,95] (fun j w16=>j≤cnt n v∧Blk w16 w11.heap.size ((TX n (gF v j)).flatMap zK) 47∧Blk w16 w.heap.size ([(vI 0),(.slice none 0 0)]) 50∧Blk w16 w2.heap.size ([(vI n),(.slice (pA b2 o2) (hgt n+1) ca1),(.slice a2 (hgt n+1) ca2)]) 106∧Blk w16 w12.heap.size ([(vI n),(.slice (pA w11.heap.size 0) (tot n) (tot n))]) 50∧Es (nv .i64) w1.heap.size w2.heap.size w16 (pA b2 o2) (hgt n+1) ca1 (za7 n (hgt n+1))∧Es (nv .i64) w1.heap.size w2.heap.size w16 a2 (hgt n+1) ca2 (zcy n (hgt n+1))∧Ext w w16) (fun j=>cnt n v-j) 0 (by kernel_rfl) ⟨Nat.zero_le _,by exact hR1,hkhR16,hkhR18,hkhR114,hs1hR1,hs2hR1,hEhR1⟩ ?_)))))))))
   rintro j dw16 w16 ⟨hj,hR2,hkhR26,hkhR28,hkhR214,hs1hR2,hs2hR2,hEhR2⟩
   have hzhR2:=hEhR2.size;have hlhR2:=hR2.lt
   have hmhR2:=Ms.of_row hR2 zW (len:=tot n) (zbb _ _).symm (by simp only [maxLen];omega)
   have hlkhR26:=hkhR26.lt
   have hlkhR28:=hkhR28.lt
   have hlkhR214:=hkhR214.lt
   refine zf (ze (zb (zO (some 81) (decide (((j:Nat):Int)<((gt (za7 n (hgt n+1)) v:Nat):Int))) (fun hc81=> ?_) (fun hc81=> ?_))))
   ·replace hc81:j<gt (za7 n (hgt n+1)) v:=by have:=zak hc81;omega
    have hjc:j<cnt n v:=by omega
    have hpl:=zbe (n:=n) (l:=v) (j:=j) (by omega) hjc
    refine zg (zc (zf (zF (zy (zc (zf (zI (zf (ze ?_)))))))))
    refine zd 2 [(17,(vI j)),(82,(vI j))] (zg (zc (zag (Ext w16.drew) 13 [(84,16384,0),(85,9671406556917033397649408,1),(86,256,0),(87,32768,0),(88,131072,0),(89,270799383593676935134183424,28),(90,32768,0),(91,618970019642690137449562112,64),(92,131072,0),(93,2475880078570760549798248448,256),(94,6189700196426901374495621120,672),(95,328827822935179135520079872,2047),(0,29710560942849126597578981376,4095)] (fun hT259=> ?_))))
    have hEw17:Ext w16 w16.drew:=Ext.drew w16
    generalize w16.drew=w17 at hEw17⊢
    have hzw17:=hEw17.size
    refine zk hT259 [(0,83,(vP w12.heap.size 1))] 1 1 (zh hT259 1 3 (some 84) (.slice (pA w11.heap.size 0) (tot n) (tot n)) (zl (Instr.loadAt 24 (vP w12.heap.size 1)) (fun w' hC=>zo (((hkhR214.ext hEw17).ext hC).cell rfl))) (zh hT259 2 7 (some 85) (vA [(vI n),(.slice (pA b2 o2) (hgt n+1) ca1),(.slice a2 (hgt n+1) ca2)]) (zl (Instr.loadAt 106 (vP w2.heap.size 0)) (fun w' hC=>zD (vs:= [(vI n),(.slice (pA b2 o2) (hgt n+1) ca1),(.slice a2 (hgt n+1) ca2)]) (((hkhR28.ext hEw17).ext hC).all))) (zk hT259 [(3,86,(vI v)),(4,87,(vI j)),(6,89,(vI v))] 3 95 (zh hT259 7 223 (some 90) (vB v) (zq .u8 (IntKind.u8.wrap ((v:Nat):Int)) (zba rfl rfl (by show _<2^8;omega))) (zk hT259 [(8,91,(vI j))] 1 479 (zh hT259 9 991 (some 92) (vW j) (zq .u32 (IntKind.u32.wrap ((j:Nat):Int)) (zba rfl rfl (by show _<2^32;omega))) (zn 5 1023 (zi (some 88) (zcs n v j _ (hs1hR2.ext hEw17) (hs2hR2.ext hEw17) (by first | rfl | assumption) (by first | rfl | assumption) (by omega) (by omega) (by omega) (by omega)) ?_))))))))
    rintro _ w18 ⟨rfl,hEw18⟩
    have hzw18:=hEw18.size
    refine ⟨.inr hEw18, ?_⟩
    refine zn 10 2047 (zi (some 93) (zpS v j _ (by omega) (by omega)) ?_)
    rintro _ w19 ⟨rfl,hEw19⟩
    have hzw19:=hEw19.size
    have hX3:Ext w17 w19:=(hEw18.trans hEw19)
    refine ⟨.inr hX3, ?_⟩
    refine zh (hw:=hX3) hT259 11 4095 (some 94) (vP w11.heap.size (0+(num n v+j)*274)) (zl (Instr.indexAt 24 (.slice (pA w11.heap.size 0) (tot n) (tot n)) (vI (num n v+j))) (fun w' hC=>zap (E:=47) (sz:=274) (by omega))) ?_
    have hK10:=(((((hR2.ext hEw17)).ext hEw18)).ext hEw19)
    refine zn 12 8191 (zz 47 w11.heap.size (0+(num n v+j)*274) 47 (vA (zK (Nod.mt v j))) ((TX n (gF v j)).flatMap zK) (zK (Nod.mt v j)) hK10 (by rw [zW];kernel_rfl) (by rw [zaD zW];(try simp only [List.length_cons,List.length_nil,List.length_set]);have:=(show List.length (TX n (gF v j))=tot n from zbb _ _);have hln:=zW (Nod.mt v j);omega) (zcG _) ?_)
    have hK11:=(((((hR2.ext hEw17)).ext hEw18)).ext hEw19)
    intro w20 hBw20 hCw20
    have hzw20:=hCw20.size
    rw [show (zad ((TX n (gF v j)).flatMap zK) (0+(num n v+j)*274) (zK (Nod.mt v j)):List Value)=(TX n (gF v (j+1))).flatMap zK from (zbG zW _ _ _ (by rw [zbb];try omega)).trans (congrArg (fun z=>List.flatMap zK z) (show ((TX n (gF v j)).set (num n v+j) (Nod.mt v j))=(TX n (gF v (j+1))) from zqS (by omega) hjc))] at hBw20
    have hmw20:Ms zK 274 w11.heap.size (w11.heap.size+1) w20 (pA w11.heap.size 0) (tot n) (tot n) (TX n (gF v (j+1))):=Ms.of_pre (r:= []) (by rw [List.append_nil];exact hBw20) zW (by rw [zbb];try omega) (by omega) (by simp only [maxLen];omega) (by omega) (by omega)
    refine ⟨.inl (by kernel_rfl), ?_⟩
    refine zJ (zp (zc (ze (zb (zv (some 95) .i64 (IntKind.i64.wrap (((j:Nat):Int)+((1:Nat):Int))) (j+1) (zG (by omega) (by omega) (by omega)) ?_)))))
    refine zd 1 [(80,(vI (j+1)))] (zg (zC ?_))
    have hK12:=(((((((hkhR26.ext hEw17)).ext hEw18)).ext hEw19)).chg hCw20 (fun hs=>by have h:_=_:=hs;omega))
    have hK13:=(((((((hkhR28.ext hEw17)).ext hEw18)).ext hEw19)).chg hCw20 (fun hs=>by have h:_=_:=hs;omega))
    have hK14:=(((((((hkhR214.ext hEw17)).ext hEw18)).ext hEw19)).chg hCw20 (fun hs=>by have h:_=_:=hs;omega))
    have hK15:=(((((((hs1hR2.ext hEw17)).ext hEw18)).ext hEw19)).chg hCw20 (fun k h1 h2 hs=>by have h:k=_:=hs;omega))
    have hK16:=(((((((hs2hR2.ext hEw17)).ext hEw18)).ext hEw19)).chg hCw20 (fun k h1 h2 hs=>by have h:k=_:=hs;omega))
    have hX4:Ext w w20:=(Ext.own (((hEhR2.trans hEw17).trans hEw18).trans hEw19) hCw20 (by omega))
    refine zS (j+1) ?_ ?_
    ·exact ⟨by omega,by exact hBw20,hK12,hK13,hK14,hK15,hK16,hX4⟩
    ·first | omega |(dsimp only;omega)
   ·replace hc81:¬(j<gt (za7 n (hgt n+1)) v):=by have:=zal hc81;omega
    obtain rfl:j=cnt n v:=by omega
    refine zg (zc (zf (zr (zaf (zH (zH (zT (zp (zc ?_)))))))))
    refine ze (zb (zv (some 96) .i64 (IntKind.i64.wrap (((v:Nat):Int)+((1:Nat):Int))) (v+1) (zG (by omega) (by omega) (by omega)) ?_))
    refine zd 1 [(74,(vI (v+1)))] (zg (zC (zS (v+1) ?_ ?_)))
    ·exact ⟨by omega,by rw [←zoq];exact hR2,hkhR26,hkhR28,hkhR214,hs1hR2,hs2hR2,hEhR2⟩
    ·first | omega |(dsimp only;omega)
  ·replace hc75:¬(v<hgt n+1):=by have:=zal hc75;omega
   obtain rfl:v=hgt n+1:=by omega
   refine zg (zc (zf (zr (zaf (zH (zH (zT (zc (zf ?_)))))))))
   refine zf (ze (zd 3 [(99,(vI 0)),(98,(vI n_l)),(97,(.slice a_l n_l c_l))] (zg (zc (zI (zah (X:=Nat) (fun i=> [(99,(vI i))]) [18,19,100,101,102,103,104,105,106,107,108,109,110,111,112,113,114] (fun i w21=>i≤n∧Blk w21 w11.heap.size ((TX n (gB l s i 1 0)).flatMap zK) 47∧Blk w21 w.heap.size ([(vI 0),(.slice none 0 0)]) 50∧Blk w21 w2.heap.size ([(vI n),(.slice a1 (hgt n+1) ca1),(.slice a2 (hgt n+1) ca2)]) 106∧Blk w21 w12.heap.size ([(vI n),(.slice (pA w11.heap.size 0) (tot n) (tot n))]) 50∧Es (nv .i64) w1.heap.size w2.heap.size w21 a1 (hgt n+1) ca1 (za7 n (hgt n+1))∧Es (nv .i64) w1.heap.size w2.heap.size w21 a2 (hgt n+1) ca2 (zcy n (hgt n+1))∧Ext w w21) (fun i=>n-i) 0 (by kernel_rfl) ⟨Nat.zero_le _,by rw [←zpX l s];exact hR1,hkhR16,hkhR18,hkhR114,hs1hR1,hs2hR1,hEhR1⟩ ?_))))))
   rintro i dw21 w21 ⟨hi,hR3,hkhR36,hkhR38,hkhR314,hs1hR3,hs2hR3,hEhR3⟩
   have hzhR3:=hEhR3.size;have hlhR3:=hR3.lt
   have hmhR3:=Ms.of_row hR3 zW (len:=tot n) (zbb _ _).symm (by simp only [maxLen];omega)
   have hlkhR36:=hkhR36.lt
   have hlkhR38:=hkhR38.lt
   have hlkhR314:=hkhR314.lt
   refine zf (ze (zb (zO (some 100) (decide (((i:Nat):Int)<((n_l:Nat):Int))) (fun hc100=> ?_) (fun hc100=> ?_))))
   ·replace hc100:i<n_l:=by have:=zak hc100;omega
    have hi4:i/4<cnt n 0:=zbv (n:=n) (i:=i) (by omega) 0
    have hpl:=zbe (n:=n) (l:=0) (j:=i/4) (by omega) hi4
    refine zg (zc (zf (zF (zy (zc (zf (zI (zf (ze ?_)))))))))
    refine zd 1 [(101,(vI i))] ?_
    obtain ⟨b3,o3,rfl⟩:=h_l.addr (by omega) (by decide)
    refine zb (zj (some 102) (Instr.indexAt 39 (.slice (pA b3 o3) n_l c_l) (vI i)) (vP b3 (o3+i*35)) (zap (E:=33) (sz:=35) (by omega)) ?_)
    refine zb (zj (some 103) (Instr.loadAt 33 (vP b3 (o3+i*35))) (vA (zE (l.getD i Rec.zero))) (zD (vs:=zE (l.getD i Rec.zero)) ((h_l.ext hEhR3).at Rec.zero (by omega)) (by rw [zY];kernel_rfl)) ?_)
    refine zb (zt (some 19) (Instr.alloc 33 true (.tuple #[])) (vP w21.heap.size 0) (zE Rec.zero) 33 ?_)
    intro w22 hBw22 hEw22
    have hzw22:=hEw22.size;have hlw22:=hBw22.lt
    refine zd 1 [(18,(vI i))] (zb (zz 33 w21.heap.size 0 33 (vA (zE (l.getD i Rec.zero))) (zE Rec.zero) (zE (l.getD i Rec.zero)) hBw22 (by rw [zY];kernel_rfl) (by first |(simp;done)|(simp;omega)) (zaU _) ?_))
    intro w23 hBw23 hCw23
    have hzw23:=hCw23.size
    rw [zm _ _ (by simp)] at hBw23
    refine zg (zc (zag (Chg (fun k=>k=w11.heap.size) w23.drew) 11 [(105,16384,0),(106,20282409603651670423947251286016,1),(107,262144,0),(108,81129638414606681695789005144064,4),(109,262144,0),(110,324518553658426726783156020576256,16),(111,524288,0),(112,202824096036516704239472512860160,10),(113,2596148429267413814265248164610048,128),(114,5841333965851681082096808370372608,383),(0,11682667931703362164193616740745216,639)] (fun hT380=> ?_)))
    have hEw24:Ext w23 w23.drew:=Ext.drew w23
    generalize w23.drew=w24 at hEw24⊢
    have hzw24:=hEw24.size
    have hX5:Chg (fun k=>k=w11.heap.size) w24 w24:=(Chg.refl (fun k=>k=w11.heap.size) w24)
    refine zk (hw:=hX5) hT380 [(0,104,(vP w12.heap.size 1))] 1 1 ?_
    have hK17:=(((((hkhR314.ext hEw22)).chg hCw23 (fun hs=>by have h:_=_:=hs;omega))).ext hEw24)
    refine zh (hw:=hX5) hT380 1 3 (some 105) (.slice (pA w11.heap.size 0) (tot n) (tot n)) (zl (Instr.loadAt 24 (vP w12.heap.size 1)) (fun w' hC=>zo ((hK17.chg hC (fun hs=>by have h:_=_:=hs;omega)).cell rfl))) (zk (hw:=hX5) hT380 [(2,106,(vI i))] 1 7 (zh (hw:=hX5) hT380 3 15 (some 107) (vI (i/4)) (zq .i64 (IntKind.i64.wrap (((i:Nat):Int).tdiv ((4:Nat):Int))) (zG (ze3 _ _) (by omega) (by omega))) (zk (hw:=hX5) hT380 [(4,108,(vI i))] 1 31 (zh (hw:=hX5) hT380 5 63 (some 109) (vI (i%4)) (zq .i64 (((i:Nat):Int).tmod ((4:Nat):Int)) (zcP _ _)) (zh (hw:=hX5) hT380 6 127 (some 110) (vA (zE (l.getD i Rec.zero))) (zl (Instr.loadAt 33 (vP w21.heap.size 0)) (fun w' hC=>zD (vs:=zE (l.getD i Rec.zero)) (((hBw23.ext hEw24).chg hC (fun hs=>by have h:_=_:=hs;omega)).all) (by rw [zY];kernel_rfl))) (zh (hw:=hX5) hT380 7 255 (some 111) (vP w11.heap.size (0+(i/4)*274)) (zl (Instr.indexAt 24 (.slice (pA w11.heap.size 0) (tot n) (tot n)) (vI (i/4))) (fun w' hC=>zap (E:=47) (sz:=274) (by omega))) (zk (hw:=hX5) hT380 [(8,112,(vP w11.heap.size (0+(i/4)*274+2)))] 1 511 (zh (hw:=hX5) hT380 9 1023 (some 113) (vP w11.heap.size (0+(i/4)*274+2+(i%4)*35)) (zl (Instr.indexAt 42 (vP w11.heap.size (0+(i/4)*274+2)) (vI (i%4))) (fun w' hC=>zX (E:=33) (sz:=35) (m:=4) (by omega))) ?_))))))))
    have hK18:=(((((hR3.ext hEw22)).chg hCw23 (fun hs=>by have h:_=_:=hs;omega))).ext hEw24)
    refine zn 10 2047 (zz 33 w11.heap.size (0+(i/4)*274+2+(i%4)*35) 47 (vA (zE (l.getD i Rec.zero))) ((TX n (gB l s i 1 0)).flatMap zK) (zE (l.getD i Rec.zero)) hK18 (by rw [zY];kernel_rfl) (by (try simp only [List.length_append]);rw [zaD zW];have:=(show List.length (TX n (gB l s i 1 0))=tot n from zbb _ _);have hq:i/4<List.length (TX n (gB l s i 1 0)):=(by rw [zbb];try omega);rw [zY];omega) (zaU _) ?_)
    have hK19:=(((((hR3.ext hEw22)).chg hCw23 (fun hs=>by have h:_=_:=hs;omega))).ext hEw24)
    intro w25 hBw25 hCw25
    have hzw25:=hCw25.size
    rw [show (zad ((TX n (gB l s i 1 0)).flatMap zK) (0+(i/4)*274+2+(i%4)*35) (zE (l.getD i Rec.zero)):List Value)=(TX n (gB l s (i+1) 1 0)).flatMap zK from ((show zad ((TX n (gB l s i 1 0)).flatMap zK) (0+(i/4)*274+2+(i%4)*35) (zE (l.getD i Rec.zero))=((TX n (gB l s i 1 0)).set (i/4) (((TX n (gB l s i 1 0)).getD (i/4) Nod.zero).setR (i%4) (l.getD i Rec.zero))).flatMap zK from by have hz:=(zfN zW Nod.zero (((TX n (gB l s i 1 0)).getD (i/4) Nod.zero).setR (i%4) (l.getD i Rec.zero)) (TX n (gB l s i 1 0)) (i/4) (2+(i%4)*35) (zE (l.getD i Rec.zero)) [] (by rw [zbb];try omega) (nod_setR (by omega)) (by rw [zY];omega));rw [List.append_nil,List.append_nil] at hz;rw [show 0+(i/4)*274+2+(i%4)*35=(i/4)*274+(2+(i%4)*35) from by omega];exact hz)).trans (congrArg (fun z=>List.flatMap zK z) (show ((TX n (gB l s i 1 0)).set (i/4) (((TX n (gB l s i 1 0)).getD (i/4) Nod.zero).setR (i%4) (l.getD i Rec.zero)))=(TX n (gB l s (i+1) 1 0)) from zpI hi4))] at hBw25
    have hmw25:Ms zK 274 w11.heap.size (w11.heap.size+1) w25 (pA w11.heap.size 0) (tot n) (tot n) (TX n (gB l s (i+1) 1 0)):=Ms.of_pre (r:= []) (by rw [List.append_nil];exact hBw25) zW (by rw [zbb];try omega) (by omega) (by simp only [maxLen];omega) (by omega) (by omega)
    have hX6:Chg (fun k=>k=w11.heap.size) w24 w25:=(Chg.then (Chg.refl (fun k=>k=w11.heap.size) w24) hCw25 (fun k hk hs=>by have h:k=_:=hs;first | exact hs | exact .inl h | exact .inr h |(exfalso;omega)))
    refine ⟨.inr hX6, ?_⟩
    refine zJ (zp (zc (ze (zb (zv (some 114) .i64 (IntKind.i64.wrap (((i:Nat):Int)+((1:Nat):Int))) (i+1) (zG (by omega) (by omega) (by omega)) ?_)))))
    refine zd 1 [(99,(vI (i+1)))] (zg (zC ?_))
    have hK20:=(((((((hkhR36.ext hEw22)).chg hCw23 (fun hs=>by have h:_=_:=hs;omega))).ext hEw24)).chg hCw25 (fun hs=>by have h:_=_:=hs;omega))
    have hK21:=(((((((hkhR38.ext hEw22)).chg hCw23 (fun hs=>by have h:_=_:=hs;omega))).ext hEw24)).chg hCw25 (fun hs=>by have h:_=_:=hs;omega))
    have hK22:=(((((((hs1hR3.ext hEw22)).chg hCw23 (fun k h1 h2 hs=>by have h:k=_:=hs;omega))).ext hEw24)).chg hCw25 (fun k h1 h2 hs=>by have h:k=_:=hs;omega))
    have hK23:=(((((((hs2hR3.ext hEw22)).chg hCw23 (fun k h1 h2 hs=>by have h:k=_:=hs;omega))).ext hEw24)).chg hCw25 (fun k h1 h2 hs=>by have h:k=_:=hs;omega))
    have hX7:Ext w w25:=(Ext.own ((Ext.own (hEhR3.trans hEw22) hCw23 (by omega)).trans hEw24) hCw25 (by omega))
    refine zS (i+1) ?_ ?_
    ·exact ⟨by omega,by exact hBw25,hK20,hK21,((hK17).chg hCw25 (fun hs=>by have h:_=_:=hs;omega)),hK22,hK23,hX7⟩
    ·first | omega |(dsimp only;omega)
   ·replace hc100:¬(i<n_l):=by have:=zal hc100;omega
    obtain rfl:n=i:=by omega
    refine zg (zc (zf (zr (zaf (zH (zH (zT (zc (zf ?_)))))))))
    refine zf (ze (zd 1 [(20,(vI 1))] (zg (zc (zI (zah (X:=Nat) (fun v=> [(20,(vI v))]) [21,22,23,24,25,26,115,116,117,118,119,120,121,122,123,124,125,126,127,128,129,130,131,132,133,134,135,136,137,138,139,140,141,142,143,144,145,146,147,148,149,150,151,152,153,154,155,156,157,158,159,160,161,162,163,164,165,166,167,168,169,170,171,172,173,174,175] (fun v w26=>(1≤v∧v≤hgt n+1)∧Blk w26 w11.heap.size ((TX n (gB l s n v 0)).flatMap zK) 47∧Blk w26 w.heap.size ([(vI 0),(.slice none 0 0)]) 50∧Blk w26 w2.heap.size ([(vI n),(.slice a1 (hgt n+1) ca1),(.slice a2 (hgt n+1) ca2)]) 106∧Blk w26 w12.heap.size ([(vI n),(.slice (pA w11.heap.size 0) (tot n) (tot n))]) 50∧Es (nv .i64) w1.heap.size w2.heap.size w26 a1 (hgt n+1) ca1 (za7 n (hgt n+1))∧Es (nv .i64) w1.heap.size w2.heap.size w26 a2 (hgt n+1) ca2 (zcy n (hgt n+1))∧Ext w w26) (fun v=>hgt n+1-v) 1 (by kernel_rfl) ⟨⟨Nat.le_refl _,by omega⟩,by exact hR3,hkhR36,hkhR38,hkhR314,hs1hR3,hs2hR3,hEhR3⟩ ?_))))))
    rintro v dw26 w26 ⟨hv,hR4,hkhR46,hkhR48,hkhR414,hs1hR4,hs2hR4,hEhR4⟩
    have hzhR4:=hEhR4.size;have hlhR4:=hR4.lt
    have hmhR4:=Ms.of_row hR4 zW (len:=tot n) (zbb _ _).symm (by simp only [maxLen];omega)
    have hlkhR46:=hkhR46.lt
    have hlkhR48:=hkhR48.lt
    have hlkhR414:=hkhR414.lt
    have hcm:=zcF n (v-1)
    have hcn:=zcF n v
    have hup:=zc9 (n:=n) (l:=v) (by omega)
    have hgc:gt (za7 n (hgt n+1)) (v-1)=cnt n (v-1):=zeC (by omega)
    refine zf (zf (ze (zd 2 [(116,(vP w2.heap.size 1)),(115,(vI v))] (zb (zj (some 117) (Instr.loadAt 40 (vP w2.heap.size 1)) (.slice a1 (hgt n+1) ca1) (zo (hkhR48.cell rfl)) ?_)))))
    refine zd 1 [(118,(vI (hgt n+1)))] (zb (zO (some 119) (decide (((v:Nat):Int)<((hgt n+1:Nat):Int))) (fun hc119=> ?_) (fun hc119=> ?_)))
    ·replace hc119:v<hgt n+1:=by have:=zak hc119;omega
     refine zg (zc (zF (zy (zc (zf (zI (zf (ze (zd 1 [(122,(vP w2.heap.size 1))] ?_)))))))))
     refine zb (zj (some 123) (Instr.loadAt 40 (vP w2.heap.size 1)) (.slice a1 (hgt n+1) ca1) (zo (hkhR48.cell rfl)) ?_)
     refine zd 1 [(124,(vI v))] (zb (zv (some 125) .i64 (IntKind.i64.wrap (((v:Nat):Int)-((1:Nat):Int))) (v-1) (zG (by omega) (by omega) (by omega)) ?_))
     obtain ⟨b4,o4,rfl⟩:=hs1hR4.addr (by omega)
     refine zb (zj (some 126) (Instr.indexAt 40 (.slice (pA b4 o4) (hgt n+1) ca1) (vI (v-1))) (vP b4 (o4+(v-1)*1)) (zap (E:=3) (sz:=1) (by omega)) ?_)
     refine zb (zj (some 127) (Instr.loadAt 3 (vP b4 (o4+(v-1)*1))) (vI (gt (za7 n (hgt n+1)) (v-1))) (zo (hs1hR4.celln (by omega))) ?_)
     refine zd 1 [(128,(vI 0))] (zg (zc (zI (zah (X:=Nat) (fun c=> [(128,(vI c))]) [21,22,23,24,25,26,129,130,131,132,133,134,135,136,137,138,139,140,141,142,143,144,145,146,147,148,149,150,151,152,153,154,155,156,157,158,159,160,161,162,163,164,165,166,167,168,169,170,171,172,173,174,175] (fun c w27=>c≤cnt n (v-1)∧Blk w27 w11.heap.size ((TX n (gB l s n v c)).flatMap zK) 47∧Blk w27 w.heap.size ([(vI 0),(.slice none 0 0)]) 50∧Blk w27 w2.heap.size ([(vI n),(.slice (pA b4 o4) (hgt n+1) ca1),(.slice a2 (hgt n+1) ca2)]) 106∧Blk w27 w12.heap.size ([(vI n),(.slice (pA w11.heap.size 0) (tot n) (tot n))]) 50∧Es (nv .i64) w1.heap.size w2.heap.size w27 (pA b4 o4) (hgt n+1) ca1 (za7 n (hgt n+1))∧Es (nv .i64) w1.heap.size w2.heap.size w27 a2 (hgt n+1) ca2 (zcy n (hgt n+1))∧Ext w w27) (fun c=>cnt n (v-1)-c) 0 (by kernel_rfl) ⟨Nat.zero_le _,by exact hR4,hkhR46,hkhR48,hkhR414,hs1hR4,hs2hR4,hEhR4⟩ ?_))))
     rintro c dw27 w27 ⟨hc,hR5,hkhR56,hkhR58,hkhR514,hs1hR5,hs2hR5,hEhR5⟩
     have hzhR5:=hEhR5.size;have hlhR5:=hR5.lt
     have hmhR5:=Ms.of_row hR5 zW (len:=tot n) (zbb _ _).symm (by simp only [maxLen];omega)
     have hlkhR56:=hkhR56.lt
     have hlkhR58:=hkhR58.lt
     have hlkhR514:=hkhR514.lt
     refine zf (ze (zb (zO (some 129) (decide (((c:Nat):Int)<((gt (za7 n (hgt n+1)) (v-1):Nat):Int))) (fun hc129=> ?_) (fun hc129=> ?_))))
     ·replace hc129:c<gt (za7 n (hgt n+1)) (v-1):=by have:=zak hc129;omega
      have hcc:c<cnt n (v-1):=by omega
      have hplc:=zbe (n:=n) (l:=v-1) (j:=c) (by omega) hcc
      have hnd:((TX n (gB l s n v c)).getD (num n (v-1)+c) Nod.zero)=zaG l s (v-1) c:=zpv hnl (by omega) (by omega) hcc
      have hus:=zpT (l:=v-1) hp0 hnl (by omega) hcc
      rw [←hnd] at hus
      have hchk:zar ((TX n (gB l s n v c)).getD (num n (v-1)+c) Nod.zero)=0:=by rw [hnd];exact zjN hp0 (by rw [←hnl];omega) (by rw [←hnl];exact hcc)
      have hc4:c/4<cnt n v:=zjc.2 (by rw [hup];omega)
      have hpl4:=zbe (n:=n) (l:=v) (j:=c/4) (by omega) hc4
      have hsl:gt s (num n (v-1)+c)≤1:=hp0.sl _
      refine zg (zc (zf (zF (zy (zc (zf (zI (zf (ze ?_)))))))))
      refine zd 2 [(21,(vI c)),(130,(vI c))] (zg (zc (zf (ze (zb (zj (some 131) (Instr.loadAt 106 (vP w2.heap.size 0)) (vA [(vI n),(.slice (pA b4 o4) (hgt n+1) ca1),(.slice a2 (hgt n+1) ca2)]) (zD (vs:= [(vI n),(.slice (pA b4 o4) (hgt n+1) ca1),(.slice a2 (hgt n+1) ca2)]) (hkhR58.all)) ?_))))))
      refine zd 1 [(132,(vI v))] (zb (zv (some 133) .i64 (IntKind.i64.wrap (((v:Nat):Int)-((1:Nat):Int))) (v-1) (zG (by omega) (by omega) (by omega)) ?_))
      refine zd 1 [(134,(vI c))] (zb (zi (some 135) (zcs n (v-1) c _ hs1hR5 hs2hR5 (by first | rfl | assumption) (by first | rfl | assumption) (by omega) (by omega) (by omega) (by omega)) ?_))
      rintro _ w28 ⟨rfl,hEw28⟩
      have hzw28:=hEw28.size
      refine zd 1 [(22,(vI (num n (v-1)+c)))] (zg (zc (zf (ze (zd 1 [(136,(vP w12.heap.size 1))] (zb (zj (some 137) (Instr.loadAt 24 (vP w12.heap.size 1)) (.slice (pA w11.heap.size 0) (tot n) (tot n)) (zo ((hkhR514.ext hEw28).cell rfl)) ?_)))))))
      refine zd 1 [(138,(vI (num n (v-1)+c)))] (zb (zj (some 139) (Instr.indexAt 24 (.slice (pA w11.heap.size 0) (tot n) (tot n)) (vI (num n (v-1)+c))) (vP w11.heap.size (0+(num n (v-1)+c)*274)) (zap (E:=47) (sz:=274) (by omega)) ?_))
      refine zb (zj (some 140) (Instr.loadAt 47 (vP w11.heap.size (0+(num n (v-1)+c)*274))) (vA (zK ((TX n (gB l s n v c)).getD (num n (v-1)+c) Nod.zero))) (zD (vs:=zK ((TX n (gB l s n v c)).getD (num n (v-1)+c) Nod.zero)) ((hmhR5.ext hEw28).at Nod.zero (by omega)) (by rw [zW];kernel_rfl)) ?_)
      refine zb (zi (some 141) (zmv ((TX n (gB l s n v c)).getD (num n (v-1)+c) Nod.zero) _) ?_)
      rintro _ w29 ⟨rfl,hEw29⟩
      have hzw29:=hEw29.size
      refine zb (zO (some 142) (decide (((usd ((TX n (gB l s n v c)).getD (num n (v-1)+c) Nod.zero) 4:Nat):Int)>((0:Nat):Int))) (fun hc142=> ?_) (fun hc142=> ?_))
      ·replace hc142:usd ((TX n (gB l s n v c)).getD (num n (v-1)+c) Nod.zero) 4>0:=by have:=zak hc142;omega
       have hem:=hus.1 hc142
       refine zg (zc (zF (zf (ze (zd 1 [(144,(vP w12.heap.size 1))] (zb (zj (some 145) (Instr.loadAt 24 (vP w12.heap.size 1)) (.slice (pA w11.heap.size 0) (tot n) (tot n)) (zo ((((hkhR514.ext hEw28)).ext hEw29).cell rfl)) ?_)))))))
       refine zd 1 [(146,(vI (num n (v-1)+c)))] (zb (zj (some 147) (Instr.indexAt 24 (.slice (pA w11.heap.size 0) (tot n) (tot n)) (vI (num n (v-1)+c))) (vP w11.heap.size (0+(num n (v-1)+c)*274)) (zap (E:=47) (sz:=274) (by omega)) ?_))
       refine zb (zj (some 148) (Instr.loadAt 47 (vP w11.heap.size (0+(num n (v-1)+c)*274))) (vA (zK ((TX n (gB l s n v c)).getD (num n (v-1)+c) Nod.zero))) (zD (vs:=zK ((TX n (gB l s n v c)).getD (num n (v-1)+c) Nod.zero)) ((((hmhR5.ext hEw28)).ext hEw29).at Nod.zero (by omega)) (by rw [zW];kernel_rfl)) ?_)
       have hK24:=(((((hg0.ext hEhR5)).ext hEw28)).ext hEw29)
       have hK25:=(((((hg1.ext hEhR5)).ext hEw28)).ext hEw29)
       have hK26:=(((((hg2.ext hEhR5)).ext hEw28)).ext hEw29)
       refine zb (zi (some 149) (zdA ((TX n (gB l s n v c)).getD (num n (v-1)+c) Nod.zero) _ (by assumption) hK24 hK25 hK26) ?_)
       rintro _ w30 ⟨rfl,hEw30⟩
       have hzw30:=hEw30.size
       refine zd 3 [(151,(vI 0)),(150,(vA (zw (zN (zM ((TX n (gB l s n v c)).getD (num n (v-1)+c) Nod.zero)))))),(143,(.tuple #[(vA (zw (zN (zM ((TX n (gB l s n v c)).getD (num n (v-1)+c) Nod.zero))))),(vI 0)]))] (zb (zt (some 23) (Instr.alloc 23 true (.tuple #[])) (vP w30.heap.size 0) (zw Dig.zero) 23 ?_))
       intro w31 hBw31 hEw31
       have hzw31:=hEw31.size;have hlw31:=hBw31.lt
       refine zb (zz 23 w30.heap.size 0 23 (vA (zw (zN (zM ((TX n (gB l s n v c)).getD (num n (v-1)+c) Nod.zero))))) (zw Dig.zero) (zw (zN (zM ((TX n (gB l s n v c)).getD (num n (v-1)+c) Nod.zero)))) hBw31 (by rw [zac];kernel_rfl) (by first |(simp;done)|(simp;omega)) (zaT _) ?_)
       intro w32 hBw32 hCw32
       have hzw32:=hCw32.size
       rw [zm _ _ (by simp)] at hBw32
       refine zd 1 [(24,(vI 0))] (zg (zc (zf (ze (zd 2 [(154,(vI (num n (v-1)+c))),(153,(.slice a_s n_s c_s))] ?_)))))
       obtain ⟨b5,o5,rfl⟩:=h_s.addr (by omega)
       refine zb (zj (some 155) (Instr.indexAt 40 (.slice (pA b5 o5) n_s c_s) (vI (num n (v-1)+c))) (vP b5 (o5+(num n (v-1)+c)*1)) (zap (E:=3) (sz:=1) (by omega)) ?_)
       have hK27:=(((((((((((h_s.ext hEhR5)).ext hEw28)).ext hEw29)).ext hEw30)).ext hEw31)).chg hCw32 (fun k h1 h2 hs=>by have h:k=_:=hs;omega))
       refine zb (zj (some 156) (Instr.loadAt 3 (vP b5 (o5+(num n (v-1)+c)*1))) (vI (gt s (num n (v-1)+c))) (zo (hK27.celln (by omega))) ?_)
       refine zb (zi (some 157) (znP (gt s (num n (v-1)+c)) _ (by omega)) ?_)
       rintro _ w33 ⟨rfl,hEw33⟩
       have hzw33:=hEw33.size
       refine zd 5 [(26,(vI 0)),(25,(vB ((gt s (num n (v-1)+c))+1))),(159,(vI 0)),(158,(vB ((gt s (num n (v-1)+c))+1))),(152,(.tuple #[(vB ((gt s (num n (v-1)+c))+1)),(vI 0)]))] (zg (zc (zag (Chg (fun k=>k=w11.heap.size) w33.drew) 16 [(161,16384,0),(162,1461501637330902918203684832716283019655932542976,1),(163,256,0),(164,1048576,0),(165,2097152,0),(166,23384026197294446691258957323460528314494920687616,16),(167,64306072042559728400962132639516452864861031890944,44),(168,2097152,0),(169,187072209578355573530071658587684226515959365500928,128),(170,33554432,0),(171,8388608,0),(172,2244866514940266882360859903052210718191512386011136,1536),(173,96459108063839592601443198959274679297291547836416,66),(174,5986310706507378352962293074805895248510699696029696,4096),(175,12346765832171467852984729466787158950053318123061248,12287),(0,26938398179283202588330318836626528618298148632133632,20479)] (fun hT576=> ?_))))
       have hEw34:Ext w33 w33.drew:=Ext.drew w33
       generalize w33.drew=w34 at hEw34⊢
       have hzw34:=hEw34.size
       have hX8:Chg (fun k=>k=w11.heap.size) w34 w34:=(Chg.refl (fun k=>k=w11.heap.size) w34)
       refine zk (hw:=hX8) hT576 [(0,160,(vP w12.heap.size 1))] 1 1 ?_
       have hK28:=(((((((((((((hkhR514.ext hEw28)).ext hEw29)).ext hEw30)).ext hEw31)).chg hCw32 (fun hs=>by have h:_=_:=hs;omega))).ext hEw33)).ext hEw34)
       refine zh (hw:=hX8) hT576 1 3 (some 161) (.slice (pA w11.heap.size 0) (tot n) (tot n)) (zl (Instr.loadAt 24 (vP w12.heap.size 1)) (fun w' hC=>zo ((hK28.chg hC (fun hs=>by have h:_=_:=hs;omega)).cell rfl))) ?_
       have hK29:=(((((((((((((hkhR58.ext hEw28)).ext hEw29)).ext hEw30)).ext hEw31)).chg hCw32 (fun hs=>by have h:_=_:=hs;omega))).ext hEw33)).ext hEw34)
       refine zh (hw:=hX8) hT576 2 7 (some 162) (vA [(vI n),(.slice (pA b4 o4) (hgt n+1) ca1),(.slice a2 (hgt n+1) ca2)]) (zl (Instr.loadAt 106 (vP w2.heap.size 0)) (fun w' hC=>zD (vs:= [(vI n),(.slice (pA b4 o4) (hgt n+1) ca1),(.slice a2 (hgt n+1) ca2)]) ((hK29.chg hC (fun hs=>by have h:_=_:=hs;omega)).all))) (zk (hw:=hX8) hT576 [(3,163,(vI v)),(4,164,(vI c))] 2 31 (zh (hw:=hX8) hT576 5 63 (some 165) (vI (c/4)) (zq .i64 (IntKind.i64.wrap (((c:Nat):Int).tdiv ((4:Nat):Int))) (zG (ze3 _ _) (by omega) (by omega))) (zk (hw:=hX8) hT576 [(7,167,(vI c))] 1 191 (zh (hw:=hX8) hT576 8 447 (some 168) (vI (c%4)) (zq .i64 (((c:Nat):Int).tmod ((4:Nat):Int)) (zcP _ _)) (zk (hw:=hX8) hT576 [(9,169,(vB ((gt s (num n (v-1)+c))+1)))] 1 959 (zh (hw:=hX8) hT576 10 1983 (some 170) (vA (zw (zN (zM ((TX n (gB l s n v c)).getD (num n (v-1)+c) Nod.zero))))) (zl (Instr.loadAt 23 (vP w30.heap.size 0)) (fun w' hC=>zD (vs:=zw (zN (zM ((TX n (gB l s n v c)).getD (num n (v-1)+c) Nod.zero)))) (((((hBw32.ext hEw33)).ext hEw34).chg hC (fun hs=>by have h:_=_:=hs;omega)).all) (by rw [zac];kernel_rfl))) ?_))))))
       refine zh (hw:=hX8) hT576 11 4031 (some 171) (vA (zai (⟨(gt s (num n (v-1)+c))+1,(zN (zM ((TX n (gB l s n v c)).getD (num n (v-1)+c) Nod.zero))),by omega⟩))) (zl (Instr.build 44 #[(0,(vB ((gt s (num n (v-1)+c))+1))),(1,(vA (zw (zN (zM ((TX n (gB l s n v c)).getD (num n (v-1)+c) Nod.zero))))))]) (fun w' hC=>zfP ((gt s (num n (v-1)+c))+1) (zN (zM ((TX n (gB l s n v c)).getD (num n (v-1)+c) Nod.zero))) (by omega))) ?_
       have hK30:=(((((((((((((hs1hR5.ext hEw28)).ext hEw29)).ext hEw30)).ext hEw31)).chg hCw32 (fun k h1 h2 hs=>by have h:k=_:=hs;omega))).ext hEw33)).ext hEw34)
       have hK31:=(((((((((((((hs2hR5.ext hEw28)).ext hEw29)).ext hEw30)).ext hEw31)).chg hCw32 (fun k h1 h2 hs=>by have h:k=_:=hs;omega))).ext hEw33)).ext hEw34)
       refine zn 6 4095 (zi (some 166) (zcs n v (c/4) _ hK30 hK31 (by first | rfl | assumption) (by first | rfl | assumption) (by omega) (by omega) (by omega) (by omega)) ?_)
       rintro _ w35 ⟨rfl,hEw35⟩
       have hzw35:=hEw35.size
       have hX9:Chg (fun k=>k=w11.heap.size) w34 w35:=((Chg.refl (fun k=>k=w11.heap.size) w34).trans hEw35.chg)
       refine ⟨.inr hX9, ?_⟩
       refine zh (hw:=hX9) hT576 12 8191 (some 172) (vP w11.heap.size (0+(num n v+(c/4))*274)) (zl (Instr.indexAt 24 (.slice (pA w11.heap.size 0) (tot n) (tot n)) (vI (num n v+(c/4)))) (fun w' hC=>zap (E:=47) (sz:=274) (by omega))) (zk (hw:=hX9) hT576 [(13,173,(vP w11.heap.size (0+(num n v+(c/4))*274+142)))] 1 16383 (zh (hw:=hX9) hT576 14 32767 (some 174) (vP w11.heap.size (0+(num n v+(c/4))*274+142+(c%4)*33)) (zl (Instr.indexAt 45 (vP w11.heap.size (0+(num n v+(c/4))*274+142)) (vI (c%4))) (fun w' hC=>zX (E:=44) (sz:=33) (m:=4) (by omega))) ?_))
       have hK32:=(((((((((((((((hR5.ext hEw28)).ext hEw29)).ext hEw30)).ext hEw31)).chg hCw32 (fun hs=>by have h:_=_:=hs;omega))).ext hEw33)).ext hEw34)).ext hEw35)
       refine zn 15 65535 (zz 44 w11.heap.size (0+(num n v+(c/4))*274+142+(c%4)*33) 47 (vA (zai (⟨(gt s (num n (v-1)+c))+1,(zN (zM ((TX n (gB l s n v c)).getD (num n (v-1)+c) Nod.zero))),by omega⟩))) ((TX n (gB l s n v c)).flatMap zK) (zai (⟨(gt s (num n (v-1)+c))+1,(zN (zM ((TX n (gB l s n v c)).getD (num n (v-1)+c) Nod.zero))),by omega⟩)) hK32 (by rw [zaS];kernel_rfl) (by (try simp only [List.length_append]);rw [zaD zW];have:=(show List.length (TX n (gB l s n v c))=tot n from zbb _ _);have hq:num n v+(c/4)<List.length (TX n (gB l s n v c)):=(by rw [zbb];try omega);rw [zaS];omega) (zdq _) ?_)
       have hK33:=(((((((((((((((hR5.ext hEw28)).ext hEw29)).ext hEw30)).ext hEw31)).chg hCw32 (fun hs=>by have h:_=_:=hs;omega))).ext hEw33)).ext hEw34)).ext hEw35)
       intro w36 hBw36 hCw36
       have hzw36:=hCw36.size
       rw [show (zad ((TX n (gB l s n v c)).flatMap zK) (0+(num n v+(c/4))*274+142+(c%4)*33) (zai (⟨(gt s (num n (v-1)+c))+1,(zN (zM ((TX n (gB l s n v c)).getD (num n (v-1)+c) Nod.zero))),by omega⟩)):List Value)=(TX n (gB l s n v (c+1))).flatMap zK from ((show zad ((TX n (gB l s n v c)).flatMap zK) (0+(num n v+(c/4))*274+142+(c%4)*33) (zai (⟨(gt s (num n (v-1)+c))+1,(zN (zM ((TX n (gB l s n v c)).getD (num n (v-1)+c) Nod.zero))),by omega⟩))=((TX n (gB l s n v c)).set (num n v+(c/4)) (((TX n (gB l s n v c)).getD (num n v+(c/4)) Nod.zero).setE (c%4) (⟨(gt s (num n (v-1)+c))+1,(zN (zM ((TX n (gB l s n v c)).getD (num n (v-1)+c) Nod.zero))),by omega⟩))).flatMap zK from by have hz:=(zfN zW Nod.zero (((TX n (gB l s n v c)).getD (num n v+(c/4)) Nod.zero).setE (c%4) (⟨(gt s (num n (v-1)+c))+1,(zN (zM ((TX n (gB l s n v c)).getD (num n (v-1)+c) Nod.zero))),by omega⟩)) (TX n (gB l s n v c)) (num n v+(c/4)) (142+(c%4)*33) (zai (⟨(gt s (num n (v-1)+c))+1,(zN (zM ((TX n (gB l s n v c)).getD (num n (v-1)+c) Nod.zero))),by omega⟩)) [] (by rw [zbb];try omega) (nod_setE (by omega)) (by rw [zaS];omega));rw [List.append_nil,List.append_nil] at hz;rw [show 0+(num n v+(c/4))*274+142+(c%4)*33=(num n v+(c/4))*274+(142+(c%4)*33) from by omega];exact hz)).trans (congrArg (fun z=>List.flatMap zK z) (show ((TX n (gB l s n v c)).set (num n v+(c/4)) (((TX n (gB l s n v c)).getD (num n v+(c/4)) Nod.zero).setE (c%4) (⟨(gt s (num n (v-1)+c))+1,(zN (zM ((TX n (gB l s n v c)).getD (num n (v-1)+c) Nod.zero))),by omega⟩)))=(TX n (gB l s n v (c+1))) from zp7 (by omega) (by omega) hc4 (zpb hnl hem rfl (by rw [hnd]))))] at hBw36
       have hmw36:Ms zK 274 w11.heap.size (w11.heap.size+1) w36 (pA w11.heap.size 0) (tot n) (tot n) (TX n (gB l s n v (c+1))):=Ms.of_pre (r:= []) (by rw [List.append_nil];exact hBw36) zW (by rw [zbb];try omega) (by omega) (by simp only [maxLen];omega) (by omega) (by omega)
       have hX10:Chg (fun k=>k=w11.heap.size) w34 w36:=(Chg.then ((Chg.refl (fun k=>k=w11.heap.size) w34).trans hEw35.chg) hCw36 (fun k hk hs=>by have h:k=_:=hs;first | exact hs | exact .inl h | exact .inr h |(exfalso;omega)))
       refine ⟨.inr hX10, ?_⟩
       refine zJ (zp (zc (ze (zb (zv (some 175) .i64 (IntKind.i64.wrap (((c:Nat):Int)+((1:Nat):Int))) (c+1) (zG (by omega) (by omega) (by omega)) ?_)))))
       refine zd 1 [(128,(vI (c+1)))] (zg (zC ?_))
       have hK34:=(((((((((((((((((hkhR56.ext hEw28)).ext hEw29)).ext hEw30)).ext hEw31)).chg hCw32 (fun hs=>by have h:_=_:=hs;omega))).ext hEw33)).ext hEw34)).ext hEw35)).chg hCw36 (fun hs=>by have h:_=_:=hs;omega))
       have hX11:Ext w w36:=(Ext.own ((((Ext.own ((((hEhR5.trans hEw28).trans hEw29).trans hEw30).trans hEw31) hCw32 (by omega)).trans hEw33).trans hEw34).trans hEw35) hCw36 (by omega))
       refine zS (c+1) ?_ ?_
       ·exact ⟨by omega,by exact hBw36,hK34,(((hK29.ext hEw35)).chg hCw36 (fun hs=>by have h:_=_:=hs;omega)),(((hK28.ext hEw35)).chg hCw36 (fun hs=>by have h:_=_:=hs;omega)),(((hK30.ext hEw35)).chg hCw36 (fun k h1 h2 hs=>by have h:k=_:=hs;omega)),(((hK31.ext hEw35)).chg hCw36 (fun k h1 h2 hs=>by have h:k=_:=hs;omega)),hX11⟩
       ·first | omega |(dsimp only;omega)
      ·replace hc142:¬(usd ((TX n (gB l s n v c)).getD (num n (v-1)+c) Nod.zero) 4>0):=by have:=zal hc142;omega
       have hem:=hus.2 (by omega)
       refine zg (zc (zr (zy (zp (zc (ze (zb (zv (some 175) .i64 (IntKind.i64.wrap (((c:Nat):Int)+((1:Nat):Int))) (c+1) (zG (by omega) (by omega) (by omega)) ?_))))))))
       refine zd 1 [(128,(vI (c+1)))] (zg (zC (zS (c+1) ?_ ?_)))
       ·exact ⟨by omega,by rw [←zoW (zfz hem)];exact (((hR5.ext hEw28)).ext hEw29),(((hkhR56.ext hEw28)).ext hEw29),(((hkhR58.ext hEw28)).ext hEw29),(((hkhR514.ext hEw28)).ext hEw29),(((hs1hR5.ext hEw28)).ext hEw29),(((hs2hR5.ext hEw28)).ext hEw29),((hEhR5.trans hEw28).trans hEw29)⟩
       ·first | omega |(dsimp only;omega)
     ·replace hc129:¬(c<gt (za7 n (hgt n+1)) (v-1)):=by have:=zal hc129;omega
      obtain rfl:c=cnt n (v-1):=by omega
      refine zg (zc (zf (zr (zaf (zH (zH (zT (zp (zc ?_)))))))))
      refine ze (zd 1 [(120,(vI v))] (zb (zv (some 121) .i64 (IntKind.i64.wrap (((v:Nat):Int)+((1:Nat):Int))) (v+1) (zG (by omega) (by omega) (by omega)) ?_)))
      refine zd 1 [(20,(vI (v+1)))] (zg (zC (zS (v+1) ?_ ?_)))
      ·exact ⟨by omega,by rw [←zl7 hnl (by omega)];exact hR5,hkhR56,hkhR58,hkhR514,hs1hR5,hs2hR5,hEhR5⟩
      ·first | omega |(dsimp only;omega)
    ·replace hc119:¬(v<hgt n+1):=by have:=zal hc119;omega
     obtain rfl:v=hgt n+1:=by omega
     refine zg (zc (zr (zaf (zH (zH (zT (zc (zf (ze ?_)))))))))
     refine zb (zj (some 176) (Instr.loadAt 50 (vP w12.heap.size 0)) (vA [(vI n),(.slice (pA w11.heap.size 0) (tot n) (tot n))]) (zD (vs:= [(vI n),(.slice (pA w11.heap.size 0) (tot n) (tot n))]) (hkhR414.all)) ?_)
     refine zb (zz 50 w.heap.size 0 50 (vA [(vI n),(.slice (pA w11.heap.size 0) (tot n) (tot n))]) ([(vI 0),(.slice none 0 0)]) ([(vI n),(.slice (pA w11.heap.size 0) (tot n) (tot n))]) hkhR46 (by kernel_rfl) (by first | decide |(simp;done)|(simp;omega)) (by simp [Value.oneCell']) ?_)
     intro w37 hBw37 hCw37
     have hzw37:=hCw37.size
     rw [zm _ _ (by kernel_rfl)] at hBw37
     exact zd 1 [(7,(vI 0))] (zg (zc (zx (zas (show zab Tryz.prog 177 _ _ (.cell 6 50) (vA [(vI n),(.slice (pA w11.heap.size 0) (tot n) (tot n))]) from ⟨⟨w.heap.size,0,none⟩,(by kernel_rfl),zP (T:=50) (vs:= [(vI n),(.slice (pA w11.heap.size 0) (tot n) (tot n))]) (hBw37).all (by kernel_rfl)⟩) (show zab Tryz.prog 177 _ _ (.tmp 7) (vI 0) by (show _=_;kernel_rfl)) (⟨_,rfl,OwM.of_full (by rw [←zoy hnl];exact ((hR4).chg hCw37 (fun hs=>by have h:_=_:=hs;omega))) zW (by rw [zge,←hnl]) (by simp only [maxLen];omega) (by omega) (by omega),(Ext.own hEhR4 hCw37 (by omega))⟩)))))
end Go.Proofs.YtgdpdnokcnhgnaaGreatDoor
namespace Go.Proofs.YtgdpdnokcnhgnaaGreatDoor
open Go Go.RowKit Go.Cs
set_option maxRecDepth 100000
theorem zmW (n:Nat) (a_l:Option Addr) (n_l c_l:Nat) (a_s:Option Addr) (n_s c_s:Nat) (w:World) (hp0:1≤n) (hp1:n≤4096) (hp2:n_l≠n):
  Calls Tryz.prog 16 #[(vI n),(.slice a_l n_l c_l),(.slice a_s n_s c_s)] w (Ret fun r w'=>r=(.tuple #[(vA [(vI 0),(.slice none 0 0)]),(vI 1)])∧Ext w w'):=by
 refine zL (n:=177) (σ:= [(0,(vI n)),(1,(.slice a_l n_l c_l)),(2,(.slice a_s n_s c_s))]) Tryz.func16 rfl ?_
 have h5:=zaz n
 refine zf (ze (zb (zt (some 6) (Instr.alloc 50 true (.tuple #[])) (vP w.heap.size 0) ([(vI 0),(.slice none 0 0)]) 50 ?_)))
 intro w1 hBw1 hEw1
 have hzw1:=hEw1.size;have hlw1:=hBw1.lt
 refine zd 1 [(7,(vI 0))] (zg (zc (zf (ze (zd 1 [(28,(vI n))] (zb (zi (some 29) (ziS n _ (by omega) (by omega)) ?_)))))))
 rintro _ w2 ⟨a1,ca1,a2,ca2,rfl,hFz1_0,hFz1_1,hEw2⟩
 have hzw2:=hEw2.size
 have hlea1:=hFz1_0.le
 have hlea2:=hFz1_1.le
 refine zd 3 [(31,(vI 0)),(30,(vA [(vI n),(.slice a1 (hgt n+1) ca1),(.slice a2 (hgt n+1) ca2)])),(27,(.tuple #[(vA [(vI n),(.slice a1 (hgt n+1) ca1),(.slice a2 (hgt n+1) ca2)]),(vI 0)]))] (zb (zt (some 8) (Instr.alloc 106 true (.tuple #[])) (vP w2.heap.size 0) ([(vI 0),(.slice none 0 0),(.slice none 0 0)]) 106 ?_))
 intro w3 hBw3 hEw3
 have hzw3:=hEw3.size;have hlw3:=hBw3.lt
 refine zb (zz 106 w2.heap.size 0 106 (vA [(vI n),(.slice a1 (hgt n+1) ca1),(.slice a2 (hgt n+1) ca2)]) ([(vI 0),(.slice none 0 0),(.slice none 0 0)]) ([(vI n),(.slice a1 (hgt n+1) ca1),(.slice a2 (hgt n+1) ca2)]) hBw3 (by kernel_rfl) (by first | decide |(simp;done)|(simp;omega)) (by simp [Value.oneCell']) ?_)
 intro w4 hBw4 hCw4
 have hzw4:=hCw4.size
 rw [zm _ _ (by kernel_rfl)] at hBw4
 refine zd 1 [(9,(vI 0))] (zg (zc (zf (zf (ze (zd 1 [(32,(vI 0))] (zb (zat (some 33) (((0:Nat):Int) !=((0:Nat):Int)) false (zaL (by omega)) ?_))))))))
 refine zg (zc (zr (zy (zc (zf (ze (zd 1 [(10,(.func (.func 46) #[] #[]))] (zg (zc ?_)))))))))
 refine zf (zf (ze (zd 3 [(38,(vI n)),(37,(vI n_l)),(36,(.slice a_l n_l c_l))] (zb (zat (some 39) (((n_l:Nat):Int) !=((n:Nat):Int)) true (zcq (by omega)) ?_)))))
 refine zd 12 [(51,vT),(50,undef),(49,undef),(48,undef),(47,vT),(46,vT),(45,undef),(44,undef),(43,undef),(42,undef),(41,undef),(40,vT)] (zg (zc (zF (zf (ze (zd 1 [(52,(vA [(vI 0),(.slice none 0 0)]))] ?_))))))
 have hK1:=(((((hBw1.ext hEw2)).ext hEw3)).chg hCw4 (fun hs=>by have h:_=_:=hs;omega))
 refine zb (zz 50 w.heap.size 0 50 (vA [(vI 0),(.slice none 0 0)]) ([(vI 0),(.slice none 0 0)]) ([(vI 0),(.slice none 0 0)]) hK1 (by kernel_rfl) (by first | decide |(simp;done)|(simp;omega)) (by simp [Value.oneCell']) ?_)
 have hK2:=(((((hBw1.ext hEw2)).ext hEw3)).chg hCw4 (fun hs=>by have h:_=_:=hs;omega))
 intro w5 hBw5 hCw5
 have hzw5:=hCw5.size
 rw [zm _ _ (by kernel_rfl)] at hBw5
 refine zd 1 [(7,(vI 1))] (zg (zc (zx (zu (zas (show zab Tryz.prog 177 _ _ (.cell 6 50) (vA [(vI 0),(.slice none 0 0)]) from ⟨⟨w.heap.size,0,none⟩,(by kernel_rfl),zP (T:=50) (vs:= [(vI 0),(.slice none 0 0)]) (hBw5).all (by kernel_rfl)⟩) (show zab Tryz.prog 177 _ _ (.tmp 7) (vI 1) by (show _=_;kernel_rfl)) ?_)))))
 have hX1:Ext w w5:=(Ext.own (Ext.own ((hEw1.trans hEw2).trans hEw3) hCw4 (by omega)) hCw5 (by omega))
 exact ⟨rfl,hX1⟩
end Go.Proofs.YtgdpdnokcnhgnaaGreatDoor
namespace Go.Proofs.YtgdpdnokcnhgnaaGreatDoor
open Go Go.RowKit Go.Cs
set_option maxRecDepth 100000
theorem zh7 {lo_x hi_x:Nat} {a_x:Option Addr} {n_x c_x:Nat} {x:List Nod} (w:World) (h_x:Ms zK 274 lo_x hi_x w a_x n_x c_x x):
  Calls Tryz.prog 58 #[(.slice a_x n_x c_x)] w (Ret fun r w'=>∃a0,r=(.slice a0 n_x n_x)∧Ms zK 274 lo_x w'.heap.size w' a0 n_x n_x x∧w=w'):=by
 refine zL (n:=9) (σ:= [(0,(.slice a_x n_x c_x))]) Tryz.func58 rfl ?_
 replace h_x:=h_x.now;have hle_x:=h_x.le
 refine zf (ze (zd 1 [(2,(.slice none 0 0))] (zg (zc (zf (ze (zd 5 [(7,(vI n_x)),(6,(.slice a_x n_x c_x)),(5,(vI n_x)),(4,(.slice a_x n_x c_x)),(3,(.slice a_x n_x c_x))] ?_)))))))
 obtain ⟨a1,hR1,hS1⟩:=h_x.slice Tryz.prog 24 47 0 n_x n_x none (some (vI n_x)) (some (vI n_x))
 refine zb (zj (some 8) (Instr.sliceAt 24 (.slice a_x n_x c_x) none (some (vI n_x)) (some (vI n_x))) (.slice a1 (n_x-0) (n_x-0)) (hR1 _) ?_)
 refine zd 1 [(2,(.slice a1 (n_x-0) (n_x-0)))] (zg (zc (zx (zB (.slice a1 (n_x-0) (n_x-0)) ?_))))
 have hfin:=hS1
 rw [List.drop_zero,Nat.sub_zero,show x.take n_x=x from by rw [h_x.len_eq,List.take_length]] at hfin
 exact ⟨_,rfl,hfin.mono (Nat.le_refl _) (by omega),rfl⟩
set_option maxHeartbeats 4000000 in
theorem zgC (n:Nat) {lo_t hi_t:Nat} {a_t:Option Addr} {n_t c_t:Nat} {t:List Nod} (b:Nat) (w:World) (h_t:Ms zK 274 lo_t hi_t w a_t n_t c_t t) (hp0:1≤n) (hp1:n≤4096) (hp2:n_t=tot n) (hp3:zbJ n t=0) (hp4:b<n) (hg0:Gl 0 [vI 45,vI 33] w) (hg1:Gl 2 (w8C za2) w) (hg2:Gl 3 (zR kA) w) (hg3:Gl 1 [.iface 199 (.agg #[.pointer (some ⟨4,99,none⟩)])] w):
  Calls Tryz.prog 25 #[(vA [(vI n),(.slice a_t n_t c_t)]),(vI b)] w (Ret fun r w'=>∃a1,r=(.tuple #[(vA [(vI b),(.slice a1 (mny n t b) (mny n t b))]),(vI 0)])∧Ms zK 274 w.heap.size w'.heap.size w' a1 (mny n t b) (mny n t b) (zaR n t b (mny n t b))∧Ext w w'):=by
 refine zL (n:=83) (σ:= [(0,(vA [(vI n),(.slice a_t n_t c_t)])),(1,(vI b))]) Tryz.func25 rfl ?_
 replace h_t:=h_t.now;have hle_t:=h_t.le
 have hgl0:=hg0.lt
 have hgl1:=hg1.lt
 have hgl2:=hg2.lt
 have hgl3:=hg3.lt
 have h5:=zaz n
 have hlt:=h_t.len_eq
 have hts:=zbN hp1
 have hle:=h_t.le
 refine zf (ze (zb (zt (some 2) (Instr.box 50 (vA [(vI n),(.slice a_t n_t c_t)])) (vP w.heap.size 0) ([(vI n),(.slice a_t n_t c_t)]) 50 ?_)))
 intro w1 hBw1 hEw1
 have hzw1:=hEw1.size;have hlw1:=hBw1.lt
 refine zb (zt (some 4) (Instr.alloc 26 true (.tuple #[])) (vP w1.heap.size 0) ([(vI 0),(.slice none 0 0)]) 26 ?_)
 intro w2 hBw2 hEw2
 have hzw2:=hEw2.size;have hlw2:=hBw2.lt
 refine zd 1 [(5,(vI 0))] (zg (zc (zf (ze (zb (zj (some 14) (Instr.loadAt 50 (vP w.heap.size 0)) (vA [(vI n),(.slice a_t n_t c_t)]) (zD (vs:= [(vI n),(.slice a_t n_t c_t)]) ((hBw1.ext hEw2).all)) ?_))))))
 refine zb (zi (some 15) (zhS n _ (((h_t.ext hEw1)).ext hEw2) (by omega) (by omega) (by omega) (((hg0.ext hEw1)).ext hEw2) (((hg1.ext hEw1)).ext hEw2) (((hg2.ext hEw1)).ext hEw2) (((hg3.ext hEw1)).ext hEw2)) ?_)
 rintro _ w3 ⟨a1,ca1,a2,ca2,rfl,hFz1_0,hFz1_1,hEw3⟩
 have hzw3:=hEw3.size
 have hlea1:=hFz1_0.le
 have hlea2:=hFz1_1.le
 rw [show zbJ n t=0 from hp3]
 refine zd 3 [(17,(vI 0)),(16,(vA [(vI n),(.slice a1 (hgt n+1) ca1),(.slice a2 (hgt n+1) ca2)])),(13,(.tuple #[(vA [(vI n),(.slice a1 (hgt n+1) ca1),(.slice a2 (hgt n+1) ca2)]),(vI 0)]))] (zb (zt (some 6) (Instr.alloc 106 true (.tuple #[])) (vP w3.heap.size 0) ([(vI 0),(.slice none 0 0),(.slice none 0 0)]) 106 ?_))
 intro w4 hBw4 hEw4
 have hzw4:=hEw4.size;have hlw4:=hBw4.lt
 refine zb (zz 106 w3.heap.size 0 106 (vA [(vI n),(.slice a1 (hgt n+1) ca1),(.slice a2 (hgt n+1) ca2)]) ([(vI 0),(.slice none 0 0),(.slice none 0 0)]) ([(vI n),(.slice a1 (hgt n+1) ca1),(.slice a2 (hgt n+1) ca2)]) hBw4 (by kernel_rfl) (by first | decide |(simp;done)|(simp;omega)) (by simp [Value.oneCell']) ?_)
 intro w5 hBw5 hCw5
 have hzw5:=hCw5.size
 rw [zm _ _ (by kernel_rfl)] at hBw5
 refine zd 1 [(7,(vI 0))] (zg (zc (zf (zf (ze (zd 1 [(18,(vI 0))] (zb (zat (some 19) (((0:Nat):Int) !=((0:Nat):Int)) false (zaL (by omega)) ?_))))))))
 refine zg (zc (zr (zy (zc (zf (ze (zd 1 [(23,(vP w.heap.size 0))] ?_)))))))
 have hK1:=(((((((hBw1.ext hEw2)).ext hEw3)).ext hEw4)).chg hCw5 (fun hs=>by have h:_=_:=hs;omega))
 refine zb (zj (some 24) (Instr.loadAt 3 (vP w.heap.size 0)) (vI n) (zo (hK1.cell rfl)) ?_)
 refine zd 1 [(25,(vI b))] (zb (zi (some 26) (zhn n b _ (by omega) (by omega) (by omega)) ?_))
 rintro _ w6 ⟨a3,rfl,hFz2_0,hEw6⟩
 have hzw6:=hEw6.size
 have hlea3:=hFz2_0.le
 refine zd 5 [(7,(vI 0)),(8,(.slice a3 (hgt n+1) (hgt n+1))),(28,(vI 0)),(27,(.slice a3 (hgt n+1) (hgt n+1))),(22,(.tuple #[(.slice a3 (hgt n+1) (hgt n+1)),(vI 0)]))] (zg (zc (zf (zf (ze (zd 1 [(29,(vI 0))] (zb (zat (some 30) (((0:Nat):Int) !=((0:Nat):Int)) false (zaL (by omega)) ?_))))))))
 refine zg (zc (zr (zy (zc (zf (ze (zd 2 [(34,(vA [(vI b),(.slice none 0 0)])),(33,(vI b))] (zb (zt (some 9) (Instr.alloc 26 true (.tuple #[])) (vP w6.heap.size 0) ([(vI 0),(.slice none 0 0)]) 26 ?_)))))))))
 intro w7 hBw7 hEw7
 have hzw7:=hEw7.size;have hlw7:=hBw7.lt
 refine zb (zz 26 w6.heap.size 0 26 (vA [(vI b),(.slice none 0 0)]) ([(vI 0),(.slice none 0 0)]) ([(vI b),(.slice none 0 0)]) hBw7 (by kernel_rfl) (by first | decide |(simp;done)|(simp;omega)) (by simp [Value.oneCell']) ?_)
 intro w8 hBw8 hCw8
 have hzw8:=hCw8.size
 rw [zm _ _ (by kernel_rfl)] at hBw8
 refine zg (zc (zf (zf (ze (zd 3 [(37,(vI 0)),(36,(vI (hgt n+1))),(35,(.slice a3 (hgt n+1) (hgt n+1)))] (zg (zc (zI (zah (X:=Nat×Option Addr×Nat) (fun ⟨i,ao,cp⟩=> [(37,(vI i))]) [10,11,12,38,39,40,41,42,43,44,45,46,47,48,49,50,51,52,53,54,55,56,57,58,59,60,61,62,63,64,65,66,67,68,69,70,71,72,73,74,75,76,77] (fun ⟨i,ao,cp⟩ w9=>i≤hgt n+1∧(∀k,k<i→k<hgt n→¬((zcM n t b k).es.get (idx b (hgt n-k-1)%4)).st=0)∧OwM zK 274 w8.heap.size w9.heap.size w9 ao i cp 47 (zaR n t b i)∧Blk w9 w6.heap.size ([(vI b),(.slice ao i cp)]) 26∧Chg (fun k=>k=w6.heap.size) w8 w9) (fun ⟨i,ao,cp⟩=>hgt n+1-i) (0,none,0) (by kernel_rfl) ⟨Nat.zero_le _,fun k h=>absurd h (Nat.not_lt_zero _),OwM.nil _ _ _ _ _ _ zW,hBw8,Chg.refl _ _⟩ ?_)))))))))
 rintro ⟨i,ao,cp⟩ dw9 w9 ⟨hi,hns,hO,hB9,hEl⟩
 have hzl:=hEl.size;have hl9:=hB9.lt
 have hmO:=hO.ms;have hleO:=hmO.le
 refine zf (ze (zb (zO (some 38) (decide (((i:Nat):Int)<((hgt n+1:Nat):Int))) (fun hc38=> ?_) (fun hc38=> ?_))))
 ·replace hc38:i<hgt n+1:=by have:=zak hc38;omega
  have hij:=zbv (n:=n) (i:=b) (by omega) (hgt n-i)
  have hpl:=zbe (n:=n) (l:=hgt n-i) (j:=idx b (hgt n-i)) (by omega) hij
  have hib:=zfV b (hgt n-i)
  refine zg (zc (zf (zF (zy (zc (zf (zI (zf (ze ?_)))))))))
  refine zd 1 [(39,(vI i))] ?_
  obtain ⟨b1,o1,rfl⟩:=hFz2_0.addr (by omega) (by decide)
  refine zb (zj (some 40) (Instr.indexAt 94 (.slice (pA b1 o1) (hgt n+1) (hgt n+1)) (vI i)) (vP b1 (o1+i*2)) (zap (E:=70) (sz:=2) (by omega)) ?_)
  have hK2:=(((((hFz2_0.ext hEw7)).chg hCw8 (fun k h1 h2 hs=>by have h:k=_:=hs;omega))).chg hEl (fun k h1 h2 hs=>by have h:k=_:=hs;omega))
  refine zb (zj (some 41) (Instr.loadAt 70 (vP b1 (o1+i*2))) (vA [(vI (hgt n-i)),(vI (idx b (hgt n-i)))]) (zD (vs:= [(vI (hgt n-i)),(vI (idx b (hgt n-i)))]) (by have hz:=hK2.at (0,0) (show i<hgt n+1 by omega);rw [zdz (by omega)] at hz;exact hz)) ?_)
  refine zb (zt (some 11) (Instr.alloc 70 true (.tuple #[])) (vP w9.heap.size 0) ([(vI 0),(vI 0)]) 70 ?_)
  intro w10 hBw10 hEw10
  have hzw10:=hEw10.size;have hlw10:=hBw10.lt
  refine zd 1 [(10,(vI i))] (zb (zz 70 w9.heap.size 0 70 (vA [(vI (hgt n-i)),(vI (idx b (hgt n-i)))]) ([(vI 0),(vI 0)]) ([(vI (hgt n-i)),(vI (idx b (hgt n-i)))]) hBw10 (by kernel_rfl) (by first | decide |(simp;done)|(simp;omega)) (by simp [Value.oneCell']) ?_))
  intro w11 hBw11 hCw11
  have hzw11:=hCw11.size
  rw [zm _ _ (by kernel_rfl)] at hBw11
  refine zg (zc (zf (zag (Ext w11.drew) 12 [(43,4,0),(44,4398046511104,1),(45,64,0),(46,2048,0),(47,35184372088832,8),(48,2048,0),(49,140737488355328,32),(50,369435906932736,84),(51,571746046443520,130),(52,1125899906842624,256),(13,0,0),(0,2251799813689344,2047)] (fun hT145=> ?_))))
  have hEw12:Ext w11 w11.drew:=Ext.drew w11
  generalize w11.drew=w12 at hEw12⊢
  have hzw12:=hEw12.size
  refine zk hT145 [(0,42,(vP w.heap.size 1))] 1 1 ?_
  have hK3:=(((((((((((((hK1.ext hEw6)).ext hEw7)).chg hCw8 (fun hs=>by have h:_=_:=hs;omega))).chg hEl (fun hs=>by have h:_=_:=hs;omega))).ext hEw10)).chg hCw11 (fun hs=>by have h:_=_:=hs;omega))).ext hEw12)
  refine zh hT145 1 3 (some 43) (.slice a_t n_t c_t) (zl (Instr.loadAt 24 (vP w.heap.size 1)) (fun w' hC=>zo ((hK3.ext hC).cell rfl))) ?_
  have hK4:=(((((((((((((hBw5.ext hEw6)).ext hEw7)).chg hCw8 (fun hs=>by have h:_=_:=hs;omega))).chg hEl (fun hs=>by have h:_=_:=hs;omega))).ext hEw10)).chg hCw11 (fun hs=>by have h:_=_:=hs;omega))).ext hEw12)
  refine zh hT145 2 7 (some 44) (vA [(vI n),(.slice a1 (hgt n+1) ca1),(.slice a2 (hgt n+1) ca2)]) (zl (Instr.loadAt 106 (vP w3.heap.size 0)) (fun w' hC=>zD (vs:= [(vI n),(.slice a1 (hgt n+1) ca1),(.slice a2 (hgt n+1) ca2)]) ((hK4.ext hC).all))) (zk hT145 [(3,45,(vP w9.heap.size 0))] 1 15 (zh hT145 4 31 (some 46) (vI (hgt n-i)) (zl (Instr.loadAt 3 (vP w9.heap.size 0)) (fun w' hC=>zo (((hBw11.ext hEw12).ext hC).cell rfl))) (zk hT145 [(5,47,(vP w9.heap.size 1))] 1 63 (zh hT145 6 127 (some 48) (vI (idx b (hgt n-i))) (zl (Instr.loadAt 3 (vP w9.heap.size 1)) (fun w' hC=>zo (((hBw11.ext hEw12).ext hC).cell rfl))) (zay 7 10 255 1151 ?_ ?_)))))
  ·have hK5:=(((((((((((((((((hFz1_0.ext hEw4)).chg hCw5 (fun k h1 h2 hs=>by have h:k=_:=hs;omega))).ext hEw6)).ext hEw7)).chg hCw8 (fun k h1 h2 hs=>by have h:k=_:=hs;omega))).chg hEl (fun k h1 h2 hs=>by have h:k=_:=hs;omega))).ext hEw10)).chg hCw11 (fun k h1 h2 hs=>by have h:k=_:=hs;omega))).ext hEw12)
   have hK6:=(((((((((((((((((hFz1_1.ext hEw4)).chg hCw5 (fun k h1 h2 hs=>by have h:k=_:=hs;omega))).ext hEw6)).ext hEw7)).chg hCw8 (fun k h1 h2 hs=>by have h:k=_:=hs;omega))).chg hEl (fun k h1 h2 hs=>by have h:k=_:=hs;omega))).ext hEw10)).chg hCw11 (fun k h1 h2 hs=>by have h:k=_:=hs;omega))).ext hEw12)
   refine zi (some 49) (zcs n (hgt n-i) (idx b (hgt n-i)) _ hK5 hK6 (by first | rfl | assumption) (by first | rfl | assumption) (by omega) (by omega) (by omega) (by omega)) ?_
   rintro _ w13 ⟨rfl,hEw13⟩
   have hzw13:=hEw13.size
   refine ⟨.inr hEw13, ?_⟩
   obtain ⟨b2,o2,rfl⟩:=h_t.addr (by omega) (by decide)
   refine zh (hw:=hEw13) hT145 8 511 (some 50) (vP b2 (o2+(num n (hgt n-i)+(idx b (hgt n-i)))*274)) (zl (Instr.indexAt 24 (.slice (pA b2 o2) n_t c_t) (vI (num n (hgt n-i)+(idx b (hgt n-i))))) (fun w' hC=>zap (E:=47) (sz:=274) (by omega))) ?_
   have hK7:=(((((((((((((((((((((((h_t.ext hEw1)).ext hEw2)).ext hEw3)).ext hEw4)).chg hCw5 (fun k h1 h2 hs=>by have h:k=_:=hs;omega))).ext hEw6)).ext hEw7)).chg hCw8 (fun k h1 h2 hs=>by have h:k=_:=hs;omega))).chg hEl (fun k h1 h2 hs=>by have h:k=_:=hs;omega))).ext hEw10)).chg hCw11 (fun k h1 h2 hs=>by have h:k=_:=hs;omega))).ext hEw12)
   refine zh (hw:=hEw13) hT145 9 1023 (some 51) (vA (zK (t.getD (num n (hgt n-i)+(idx b (hgt n-i))) Nod.zero))) (zl (Instr.loadAt 47 (vP b2 (o2+(num n (hgt n-i)+(idx b (hgt n-i)))*274))) (fun w' hC=>zD (vs:=zK (t.getD (num n (hgt n-i)+(idx b (hgt n-i))) Nod.zero)) ((hK7.ext hC).at Nod.zero (by omega)) (by rw [zW];kernel_rfl))) (zn 10 2047 (zt (some 12) (Instr.alloc 47 true (.tuple #[])) (vP w13.heap.size 0) (zK Nod.zero) 47 ?_))
   intro w14 hBw14 hEw14
   have hzw14:=hEw14.size;have hlw14:=hBw14.lt
   have hX1:Ext w12 w14:=(hEw13.trans hEw14)
   refine ⟨.inr hX1, ?_⟩
   refine zn 11 4095 (zz 47 w13.heap.size 0 47 (vA (zK (t.getD (num n (hgt n-i)+(idx b (hgt n-i))) Nod.zero))) (zK Nod.zero) (zK (t.getD (num n (hgt n-i)+(idx b (hgt n-i))) Nod.zero)) hBw14 (by rw [zW];kernel_rfl) (by first |(simp;done)|(simp;omega)) (zcG _) ?_)
   intro w15 hBw15 hCw15
   have hzw15:=hCw15.size
   rw [zm _ _ (by simp)] at hBw15
   refine ⟨.inl (by kernel_rfl), ?_⟩
   refine zJ (zc (zf (ze (zd 1 [(52,(vP w6.heap.size 1))] ?_))))
   have hK8:=(((((((((((hB9.ext hEw10)).chg hCw11 (fun hs=>by have h:_=_:=hs;omega))).ext hEw12)).ext hEw13)).ext hEw14)).chg hCw15 (fun hs=>by have h:_=_:=hs;omega))
   refine zb (zj (some 53) (Instr.loadAt 24 (vP w6.heap.size 1)) (.slice ao i cp) (zo (hK8.cell rfl)) ?_)
   refine zb (zj (some 54) (Instr.loadAt 47 (vP w13.heap.size 0)) (vA (zK (t.getD (num n (hgt n-i)+(idx b (hgt n-i))) Nod.zero))) (zD (vs:=zK (t.getD (num n (hgt n-i)+(idx b (hgt n-i))) Nod.zero)) (hBw15.all) (by rw [zW];kernel_rfl)) ?_)
   refine zb (zt (some 55) (Instr.buildSlice 24 1 #[(0,(vA (zK (t.getD (num n (hgt n-i)+(idx b (hgt n-i))) Nod.zero))))]) (.slice (pA w15.heap.size 0) 1 1) (([(t.getD (num n (hgt n-i)+(idx b (hgt n-i))) Nod.zero)]:List Nod).flatMap zK) 47 ?_ (hr:=zgw (f:=zK) (sz:=274) (z:=(vA (zK Nod.zero))) [(t.getD (num n (hgt n-i)+(idx b (hgt n-i))) Nod.zero)] zW (by decide) rfl (Nat.succ_pos _) (show 274≤2^24 from by decide) rfl))
   intro w16 hBw16 hEw16
   have hzw16:=hEw16.size;have hlw16:=hBw16.lt
   have hmw16:Ms zK 274 w15.heap.size (w15.heap.size+1) w16 (pA w15.heap.size 0) 1 1 [(t.getD (num n (hgt n-i)+(idx b (hgt n-i))) Nod.zero)]:=Ms.of_pre (r:= []) (by rw [List.append_nil];exact hBw16) zW rfl (Nat.le_refl _) (by decide) (Nat.le_refl _) (Nat.lt_succ_self _)
   have hK9:=(((((((((((((hO.ext hEw10)).chg hCw11 (fun k h1 h2 hs=>by have h:k=_:=hs;omega))).ext hEw12)).ext hEw13)).ext hEw14)).chg hCw15 (fun k h1 h2 hs=>by have h:k=_:=hs;omega))).ext hEw16)
   refine zb (zhp (some 56) 24 24 47 368 (vA (zK Nod.zero)) hK9 hmw16 zcG ?_ (by rw [Value.cells,List.size_toArray,zW]) (by decide))
   intro a4 c1 w17 hOw17 hCw17
   have hzw17:=hCw17.size
   have hSw17:=hOw17.ms;have hlea4:=hSw17.le
   refine zd 1 [(57,(vP w6.heap.size 1))] ?_
   have hK10:=(((((((((((((hO.ext hEw10)).chg hCw11 (fun k h1 h2 hs=>by have h:k=_:=hs;omega))).ext hEw12)).ext hEw13)).ext hEw14)).chg hCw15 (fun k h1 h2 hs=>by have h:k=_:=hs;omega))).ext hEw16)
   refine zb (zV 24 w6.heap.size 1 26 (.slice a4 (i+1) c1) ([(vI b),(.slice ao i cp)]) (((hK8.ext hEw16)).chg hCw17 (fun hs=>by have hn:=hK10.ne hs;omega)) (by first | decide |(simp;done)|(simp;omega)) ?_)
   have hK11:=(((((((((((((hO.ext hEw10)).chg hCw11 (fun k h1 h2 hs=>by have h:k=_:=hs;omega))).ext hEw12)).ext hEw13)).ext hEw14)).chg hCw15 (fun k h1 h2 hs=>by have h:k=_:=hs;omega))).ext hEw16)
   intro w18 hBw18 hCw18
   have hzw18:=hCw18.size
   rw [show (([(vI b),(.slice ao i cp)]).set 1 (.slice a4 (i+1) c1):List Value)= [(vI b),(.slice a4 (i+1) c1)] from rfl] at hBw18
   refine zg (zc (zf (ze (zd 1 [(58,(vI i))] (zb (zv (some 59) .i64 (IntKind.i64.wrap (((i:Nat):Int)+((1:Nat):Int))) (i+1) (zG (by omega) (by omega) (by omega)) ?_))))))
   refine zd 2 [(61,(vI (hgt n+1))),(60,(.slice (pA b1 o1) (hgt n+1) (hgt n+1)))] (zb (zO (some 62) (decide (((i+1:Nat):Int)<((hgt n+1:Nat):Int))) (fun hc62=> ?_) (fun hc62=> ?_)))
   ·replace hc62:i+1<hgt n+1:=by have:=zak hc62;omega
    have hq3:((zdd n b).getD (i+1) (0,0)).2=idx b (hgt n-i-1):=by rw [zdz (by omega)];rfl
    have hib2:=zfV b (hgt n-i-1)
    refine zd 3 [(65,(vI i)),(64,(.slice (pA b1 o1) (hgt n+1) (hgt n+1))),(63,vT)] (zb (zv (some 66) .i64 (IntKind.i64.wrap (((i:Nat):Int)+((1:Nat):Int))) (i+1) (zG (by omega) (by omega) (by omega)) ?_))
    refine zb (zj (some 67) (Instr.indexAt 94 (.slice (pA b1 o1) (hgt n+1) (hgt n+1)) (vI (i+1))) (vP b1 (o1+(i+1)*2)) (zap (E:=70) (sz:=2) (by omega)) ?_)
    refine zd 1 [(68,(vP b1 (o1+(i+1)*2+1)))] ?_
    have hK12:=(((((((((((((hO.ext hEw10)).chg hCw11 (fun k h1 h2 hs=>by have h:k=_:=hs;omega))).ext hEw12)).ext hEw13)).ext hEw14)).chg hCw15 (fun k h1 h2 hs=>by have h:k=_:=hs;omega))).ext hEw16)
    have hK13:=(((((((((((((((((hK2.ext hEw10)).chg hCw11 (fun k h1 h2 hs=>by have h:k=_:=hs;omega))).ext hEw12)).ext hEw13)).ext hEw14)).chg hCw15 (fun k h1 h2 hs=>by have h:k=_:=hs;omega))).ext hEw16)).chg hCw17 (fun k h1 h2 hs=>by have hn:=hK12.ne hs;omega))).chg hCw18 (fun k h1 h2 hs=>by have h:k=_:=hs;omega))
    refine zb (zj (some 69) (Instr.loadAt 3 (vP b1 (o1+(i+1)*2+1))) (vI (((zdd n b).getD (i+1) (0,0)).2)) (zo (hK13.cell (j:=1) (0,0) (by omega) rfl)) ?_)
    refine zb (zv (some 70) .i64 (((((zdd n b).getD (i+1) (0,0)).2:Nat):Int).tmod ((4:Nat):Int)) (idx b (hgt n-i-1)%4) ((zcP _ _).trans (by rw [hq3])) ?_)
    refine zd 1 [(71,(vP w13.heap.size 142))] (zb (zj (some 72) (Instr.indexAt 45 (vP w13.heap.size 142) (vI (idx b (hgt n-i-1)%4))) (vP w13.heap.size (142+(idx b (hgt n-i-1)%4)*33)) (zX (E:=44) (sz:=33) (m:=4) (by omega)) ?_))
    refine zd 1 [(73,(vP w13.heap.size (142+(idx b (hgt n-i-1)%4)*33)))] ?_
    have hK14:=(((((((((((((hO.ext hEw10)).chg hCw11 (fun k h1 h2 hs=>by have h:k=_:=hs;omega))).ext hEw12)).ext hEw13)).ext hEw14)).chg hCw15 (fun k h1 h2 hs=>by have h:k=_:=hs;omega))).ext hEw16)
    have hK15:=(((((hBw15.ext hEw16)).chg hCw17 (fun hs=>by have hn:=hK14.ne hs;omega))).chg hCw18 (fun hs=>by have h:_=_:=hs;omega))
    refine zb (zj (some 74) (Instr.loadAt 5 (vP w13.heap.size (142+(idx b (hgt n-i-1)%4)*33))) (vB (((t.getD (num n (hgt n-i)+(idx b (hgt n-i))) Nod.zero).es.get (idx b (hgt n-i-1)%4)).st)) (zo (hK15.cell (zic (by omega)))) ?_)
    refine zb (zO (some 75) ((((((t.getD (num n (hgt n-i)+(idx b (hgt n-i))) Nod.zero).es.get (idx b (hgt n-i-1)%4)).st:Nat):Int)==((0:Nat):Int))) (fun hc75=> ?_) (fun hc75=> ?_))
    ·replace hc75:((t.getD (num n (hgt n-i)+(idx b (hgt n-i))) Nod.zero).es.get (idx b (hgt n-i-1)%4)).st=0:=by have:=zbL hc75;omega
     have hmn:mny n t b=i+1:=zmR (by omega) (show ((zcM n t b i).es.get (idx b (hgt n-i-1)%4)).st=0 from hc75) (fun k hk=>hns k hk (by omega))
     refine zd 1 [(76,vT)] (zg (zc (zF (zaf (zdK (by decide) (zH (zH (zT (zc ?_)))))))))
     refine zf (ze (zd 1 [(78,(vP w6.heap.size 1))] (zb (zj (some 79) (Instr.loadAt 24 (vP w6.heap.size 1)) (.slice a4 (i+1) c1) (zo (hBw18.cell rfl)) ?_))))
     refine zb (zi (some 80) (zh7 _ ((hSw17).chg hCw18 (fun k h1 h2 hs=>by have h:k=_:=hs;omega))) ?_)
     rintro _ _ ⟨a5,rfl,hFz4_0,rfl⟩
     have hlea5:=hFz4_0.le
     refine zd 1 [(81,(vP w6.heap.size 1))] (zb (zV 24 w6.heap.size 1 26 (.slice a5 (i+1) (i+1)) ([(vI b),(.slice a4 (i+1) c1)]) hBw18 (by first | decide |(simp;done)|(simp;omega)) ?_))
     intro w19 hBw19 hCw19
     have hzw19:=hCw19.size
     rw [show (([(vI b),(.slice a4 (i+1) c1)]).set 1 (.slice a5 (i+1) (i+1)):List Value)= [(vI b),(.slice a5 (i+1) (i+1))] from rfl] at hBw19
     refine zg (zc (zf (ze (zb (zj (some 82) (Instr.loadAt 26 (vP w6.heap.size 0)) (vA [(vI b),(.slice a5 (i+1) (i+1))]) (zD (vs:= [(vI b),(.slice a5 (i+1) (i+1))]) (hBw19.all)) ?_)))))
     have hK16:=(((((((((((((hO.ext hEw10)).chg hCw11 (fun k h1 h2 hs=>by have h:k=_:=hs;omega))).ext hEw12)).ext hEw13)).ext hEw14)).chg hCw15 (fun k h1 h2 hs=>by have h:k=_:=hs;omega))).ext hEw16)
     have hK17:=(((((((((((((((((((((((((((((((((hBw2.ext hEw3)).ext hEw4)).chg hCw5 (fun hs=>by have h:_=_:=hs;omega))).ext hEw6)).ext hEw7)).chg hCw8 (fun hs=>by have h:_=_:=hs;omega))).chg hEl (fun hs=>by have h:_=_:=hs;omega))).ext hEw10)).chg hCw11 (fun hs=>by have h:_=_:=hs;omega))).ext hEw12)).ext hEw13)).ext hEw14)).chg hCw15 (fun hs=>by have h:_=_:=hs;omega))).ext hEw16)).chg hCw17 (fun hs=>by have hn:=hK16.ne hs;omega))).chg hCw18 (fun hs=>by have h:_=_:=hs;omega))).chg hCw19 (fun hs=>by have h:_=_:=hs;omega))
     refine zb (zz 26 w1.heap.size 0 26 (vA [(vI b),(.slice a5 (i+1) (i+1))]) ([(vI 0),(.slice none 0 0)]) ([(vI b),(.slice a5 (i+1) (i+1))]) hK17 (by kernel_rfl) (by first | decide |(simp;done)|(simp;omega)) (by simp [Value.oneCell']) ?_)
     have hK18:=(((((((((((((hO.ext hEw10)).chg hCw11 (fun k h1 h2 hs=>by have h:k=_:=hs;omega))).ext hEw12)).ext hEw13)).ext hEw14)).chg hCw15 (fun k h1 h2 hs=>by have h:k=_:=hs;omega))).ext hEw16)
     have hK19:=(((((((((((((((((((((((((((((((((hBw2.ext hEw3)).ext hEw4)).chg hCw5 (fun hs=>by have h:_=_:=hs;omega))).ext hEw6)).ext hEw7)).chg hCw8 (fun hs=>by have h:_=_:=hs;omega))).chg hEl (fun hs=>by have h:_=_:=hs;omega))).ext hEw10)).chg hCw11 (fun hs=>by have h:_=_:=hs;omega))).ext hEw12)).ext hEw13)).ext hEw14)).chg hCw15 (fun hs=>by have h:_=_:=hs;omega))).ext hEw16)).chg hCw17 (fun hs=>by have hn:=hK18.ne hs;omega))).chg hCw18 (fun hs=>by have h:_=_:=hs;omega))).chg hCw19 (fun hs=>by have h:_=_:=hs;omega))
     intro w20 hBw20 hCw20
     have hzw20:=hCw20.size
     rw [zm _ _ (by kernel_rfl)] at hBw20
     refine zd 1 [(5,(vI 0))] (zg (zc (zx (zas (show zab Tryz.prog 83 _ _ (.cell 4 26) (vA [(vI b),(.slice a5 (i+1) (i+1))]) from ⟨⟨w1.heap.size,0,none⟩,(by kernel_rfl),zP (T:=26) (vs:= [(vI b),(.slice a5 (i+1) (i+1))]) (hBw20).all (by kernel_rfl)⟩) (show zab Tryz.prog 83 _ _ (.tmp 5) (vI 0) by (show _=_;kernel_rfl)) ?_))))
     have hK20:=(((((((((((((hO.ext hEw10)).chg hCw11 (fun k h1 h2 hs=>by have h:k=_:=hs;omega))).ext hEw12)).ext hEw13)).ext hEw14)).chg hCw15 (fun k h1 h2 hs=>by have h:k=_:=hs;omega))).ext hEw16)
     have hX2:Ext w w20:=(Ext.own (Ext.own (Ext.own (Ext.ownS ((Ext.own ((((Ext.own ((Ext.own (Ext.own (((Ext.own (((hEw1.trans hEw2).trans hEw3).trans hEw4) hCw5 (by omega)).trans hEw6).trans hEw7) hCw8 (by omega)) hEl (by omega)).trans hEw10) hCw11 (by omega)).trans hEw12).trans hEw13).trans hEw14) hCw15 (by omega)).trans hEw16) hCw17 (fun k hs hk=>by have hn:=hK20.ne hs;omega)) hCw18 (by omega)) hCw19 (by omega)) hCw20 (by omega))
     rw [hmn,zdy]
     exact ⟨_,rfl,(((((hFz4_0).chg hCw19 (fun k h1 h2 hs=>by have h:k=_:=hs;omega))).chg hCw20 (fun k h1 h2 hs=>by have h:k=_:=hs;omega))).now.mono (by omega) (Nat.le_refl _),hX2⟩
    ·replace hc75:¬(((t.getD (num n (hgt n-i)+(idx b (hgt n-i))) Nod.zero).es.get (idx b (hgt n-i-1)%4)).st=0):=by have:=zbK hc75;omega
     have hst:i<hgt n→¬((zcM n t b i).es.get (idx b (hgt n-i-1)%4)).st=0:=fun _=>hc75
     refine zd 1 [(76,vF)] (zg (zc (zr (zy (zp (zc (ze (zb (zv (some 77) .i64 (IntKind.i64.wrap (((i:Nat):Int)+((1:Nat):Int))) (i+1) (zG (by omega) (by omega) (by omega)) ?_)))))))))
     refine zd 1 [(37,(vI (i+1)))] (zg (zC ?_))
     have hK21:=(((((((((((((hO.ext hEw10)).chg hCw11 (fun k h1 h2 hs=>by have h:k=_:=hs;omega))).ext hEw12)).ext hEw13)).ext hEw14)).chg hCw15 (fun k h1 h2 hs=>by have h:k=_:=hs;omega))).ext hEw16)
     refine zS (i+1,a4,c1) ?_ ?_
     ·exact ⟨by omega,fun k hk hh=>by rcases Nat.lt_succ_iff_lt_or_eq.1 hk with h1 | rfl;exact hns k h1 hh;exact hst hh,by rw [zdy];exact (((hOw17).chg hCw18 (fun k h1 h2 hs=>by have h:k=_:=hs;omega))).now,hBw18,(Chg.then (Chg.then ((Chg.then ((((Chg.then ((Chg.then (Chg.refl (fun k=>k=w6.heap.size) w8) hEl (fun k hk hs=>by have h:k=_:=hs;first | exact hs | exact .inl h | exact .inr h |(exfalso;omega))).trans hEw10.chg) hCw11 (fun k hk hs=>by have h:k=_:=hs;first | exact hs | exact .inl h | exact .inr h |(exfalso;omega))).trans hEw12.chg).trans hEw13.chg).trans hEw14.chg) hCw15 (fun k hk hs=>by have h:k=_:=hs;first | exact hs | exact .inl h | exact .inr h |(exfalso;omega))).trans hEw16.chg) hCw17 (fun k hk hs=>by have hn:=hK21.ne hs;first | exact hs | exact .inl h | exact .inr h |(exfalso;omega))) hCw18 (fun k hk hs=>by have h:k=_:=hs;first | exact hs | exact .inl h | exact .inr h |(exfalso;omega)))⟩
     ·first | omega |(dsimp only;omega)
   ·replace hc62:¬(i+1<hgt n+1):=by have:=zal hc62;omega
    have hst:i<hgt n→¬((zcM n t b i).es.get (idx b (hgt n-i-1)%4)).st=0:=fun hh=>absurd hh (by omega)
    refine zd 14 [(76,vF),(75,undef),(74,undef),(73,undef),(72,undef),(71,undef),(70,undef),(69,undef),(68,undef),(67,undef),(66,undef),(65,undef),(64,undef),(63,vF)] (zg (zc (zr (zy (zp (zc (ze (zb (zv (some 77) .i64 (IntKind.i64.wrap (((i:Nat):Int)+((1:Nat):Int))) (i+1) (zG (by omega) (by omega) (by omega)) ?_)))))))))
    refine zd 1 [(37,(vI (i+1)))] (zg (zC ?_))
    have hK22:=(((((((((((((hO.ext hEw10)).chg hCw11 (fun k h1 h2 hs=>by have h:k=_:=hs;omega))).ext hEw12)).ext hEw13)).ext hEw14)).chg hCw15 (fun k h1 h2 hs=>by have h:k=_:=hs;omega))).ext hEw16)
    refine zS (i+1,a4,c1) ?_ ?_
    ·exact ⟨by omega,fun k hk hh=>by rcases Nat.lt_succ_iff_lt_or_eq.1 hk with h1 | rfl;exact hns k h1 hh;exact hst hh,by rw [zdy];exact (((hOw17).chg hCw18 (fun k h1 h2 hs=>by have h:k=_:=hs;omega))).now,hBw18,(Chg.then (Chg.then ((Chg.then ((((Chg.then ((Chg.then (Chg.refl (fun k=>k=w6.heap.size) w8) hEl (fun k hk hs=>by have h:k=_:=hs;first | exact hs | exact .inl h | exact .inr h |(exfalso;omega))).trans hEw10.chg) hCw11 (fun k hk hs=>by have h:k=_:=hs;first | exact hs | exact .inl h | exact .inr h |(exfalso;omega))).trans hEw12.chg).trans hEw13.chg).trans hEw14.chg) hCw15 (fun k hk hs=>by have h:k=_:=hs;first | exact hs | exact .inl h | exact .inr h |(exfalso;omega))).trans hEw16.chg) hCw17 (fun k hk hs=>by have hn:=hK22.ne hs;first | exact hs | exact .inl h | exact .inr h |(exfalso;omega))) hCw18 (fun k hk hs=>by have h:k=_:=hs;first | exact hs | exact .inl h | exact .inr h |(exfalso;omega)))⟩
    ·first | omega |(dsimp only;omega)
  ·refine zt (some 12) (Instr.alloc 47 true (.tuple #[])) (vP w12.heap.size 0) (zK Nod.zero) 47 ?_
   intro w21 hBw21 hEw21
   have hzw21:=hEw21.size;have hlw21:=hBw21.lt
   refine ⟨.inr hEw21, ?_⟩
   have hK23:=(((((((((((((((((((hFz1_0.ext hEw4)).chg hCw5 (fun k h1 h2 hs=>by have h:k=_:=hs;omega))).ext hEw6)).ext hEw7)).chg hCw8 (fun k h1 h2 hs=>by have h:k=_:=hs;omega))).chg hEl (fun k h1 h2 hs=>by have h:k=_:=hs;omega))).ext hEw10)).chg hCw11 (fun k h1 h2 hs=>by have h:k=_:=hs;omega))).ext hEw12)).ext hEw21)
   have hK24:=(((((((((((((((((((hFz1_1.ext hEw4)).chg hCw5 (fun k h1 h2 hs=>by have h:k=_:=hs;omega))).ext hEw6)).ext hEw7)).chg hCw8 (fun k h1 h2 hs=>by have h:k=_:=hs;omega))).chg hEl (fun k h1 h2 hs=>by have h:k=_:=hs;omega))).ext hEw10)).chg hCw11 (fun k h1 h2 hs=>by have h:k=_:=hs;omega))).ext hEw12)).ext hEw21)
   refine zn 7 1279 (zi (some 49) (zcs n (hgt n-i) (idx b (hgt n-i)) _ hK23 hK24 (by first | rfl | assumption) (by first | rfl | assumption) (by omega) (by omega) (by omega) (by omega)) ?_)
   rintro _ w22 ⟨rfl,hEw22⟩
   have hzw22:=hEw22.size
   have hX3:Ext w12 w22:=(hEw21.trans hEw22)
   refine ⟨.inr hX3, ?_⟩
   obtain ⟨b3,o3,rfl⟩:=h_t.addr (by omega) (by decide)
   refine zh (hw:=hX3) hT145 8 1535 (some 50) (vP b3 (o3+(num n (hgt n-i)+(idx b (hgt n-i)))*274)) (zl (Instr.indexAt 24 (.slice (pA b3 o3) n_t c_t) (vI (num n (hgt n-i)+(idx b (hgt n-i))))) (fun w' hC=>zap (E:=47) (sz:=274) (by omega))) ?_
   have hK25:=(((((((((((((((((((((((h_t.ext hEw1)).ext hEw2)).ext hEw3)).ext hEw4)).chg hCw5 (fun k h1 h2 hs=>by have h:k=_:=hs;omega))).ext hEw6)).ext hEw7)).chg hCw8 (fun k h1 h2 hs=>by have h:k=_:=hs;omega))).chg hEl (fun k h1 h2 hs=>by have h:k=_:=hs;omega))).ext hEw10)).chg hCw11 (fun k h1 h2 hs=>by have h:k=_:=hs;omega))).ext hEw12)
   refine zh (hw:=hX3) hT145 9 2047 (some 51) (vA (zK (t.getD (num n (hgt n-i)+(idx b (hgt n-i))) Nod.zero))) (zl (Instr.loadAt 47 (vP b3 (o3+(num n (hgt n-i)+(idx b (hgt n-i)))*274))) (fun w' hC=>zD (vs:=zK (t.getD (num n (hgt n-i)+(idx b (hgt n-i))) Nod.zero)) ((hK25.ext hC).at Nod.zero (by omega)) (by rw [zW];kernel_rfl))) (zn 11 4095 (zz 47 w12.heap.size 0 47 (vA (zK (t.getD (num n (hgt n-i)+(idx b (hgt n-i))) Nod.zero))) (zK Nod.zero) (zK (t.getD (num n (hgt n-i)+(idx b (hgt n-i))) Nod.zero)) (hBw21.ext hEw22) (by rw [zW];kernel_rfl) (by first |(simp;done)|(simp;omega)) (zcG _) ?_))
   intro w23 hBw23 hCw23
   have hzw23:=hCw23.size
   rw [zm _ _ (by simp)] at hBw23
   refine ⟨.inl (by kernel_rfl), ?_⟩
   refine zJ (zc (zf (ze (zd 1 [(52,(vP w6.heap.size 1))] ?_))))
   have hK26:=(((((((((((hB9.ext hEw10)).chg hCw11 (fun hs=>by have h:_=_:=hs;omega))).ext hEw12)).ext hEw21)).ext hEw22)).chg hCw23 (fun hs=>by have h:_=_:=hs;omega))
   refine zb (zj (some 53) (Instr.loadAt 24 (vP w6.heap.size 1)) (.slice ao i cp) (zo (hK26.cell rfl)) ?_)
   refine zb (zj (some 54) (Instr.loadAt 47 (vP w12.heap.size 0)) (vA (zK (t.getD (num n (hgt n-i)+(idx b (hgt n-i))) Nod.zero))) (zD (vs:=zK (t.getD (num n (hgt n-i)+(idx b (hgt n-i))) Nod.zero)) (hBw23.all) (by rw [zW];kernel_rfl)) ?_)
   refine zb (zt (some 55) (Instr.buildSlice 24 1 #[(0,(vA (zK (t.getD (num n (hgt n-i)+(idx b (hgt n-i))) Nod.zero))))]) (.slice (pA w23.heap.size 0) 1 1) (([(t.getD (num n (hgt n-i)+(idx b (hgt n-i))) Nod.zero)]:List Nod).flatMap zK) 47 ?_ (hr:=zgw (f:=zK) (sz:=274) (z:=(vA (zK Nod.zero))) [(t.getD (num n (hgt n-i)+(idx b (hgt n-i))) Nod.zero)] zW (by decide) rfl (Nat.succ_pos _) (show 274≤2^24 from by decide) rfl))
   intro w24 hBw24 hEw24
   have hzw24:=hEw24.size;have hlw24:=hBw24.lt
   have hmw24:Ms zK 274 w23.heap.size (w23.heap.size+1) w24 (pA w23.heap.size 0) 1 1 [(t.getD (num n (hgt n-i)+(idx b (hgt n-i))) Nod.zero)]:=Ms.of_pre (r:= []) (by rw [List.append_nil];exact hBw24) zW rfl (Nat.le_refl _) (by decide) (Nat.le_refl _) (Nat.lt_succ_self _)
   have hK27:=(((((((((((((hO.ext hEw10)).chg hCw11 (fun k h1 h2 hs=>by have h:k=_:=hs;omega))).ext hEw12)).ext hEw21)).ext hEw22)).chg hCw23 (fun k h1 h2 hs=>by have h:k=_:=hs;omega))).ext hEw24)
   refine zb (zhp (some 56) 24 24 47 368 (vA (zK Nod.zero)) hK27 hmw24 zcG ?_ (by rw [Value.cells,List.size_toArray,zW]) (by decide))
   intro a6 c2 w25 hOw25 hCw25
   have hzw25:=hCw25.size
   have hSw25:=hOw25.ms;have hlea6:=hSw25.le
   refine zd 1 [(57,(vP w6.heap.size 1))] ?_
   have hK28:=(((((((((((((hO.ext hEw10)).chg hCw11 (fun k h1 h2 hs=>by have h:k=_:=hs;omega))).ext hEw12)).ext hEw21)).ext hEw22)).chg hCw23 (fun k h1 h2 hs=>by have h:k=_:=hs;omega))).ext hEw24)
   refine zb (zV 24 w6.heap.size 1 26 (.slice a6 (i+1) c2) ([(vI b),(.slice ao i cp)]) (((hK26.ext hEw24)).chg hCw25 (fun hs=>by have hn:=hK28.ne hs;omega)) (by first | decide |(simp;done)|(simp;omega)) ?_)
   have hK29:=(((((((((((((hO.ext hEw10)).chg hCw11 (fun k h1 h2 hs=>by have h:k=_:=hs;omega))).ext hEw12)).ext hEw21)).ext hEw22)).chg hCw23 (fun k h1 h2 hs=>by have h:k=_:=hs;omega))).ext hEw24)
   intro w26 hBw26 hCw26
   have hzw26:=hCw26.size
   rw [show (([(vI b),(.slice ao i cp)]).set 1 (.slice a6 (i+1) c2):List Value)= [(vI b),(.slice a6 (i+1) c2)] from rfl] at hBw26
   refine zg (zc (zf (ze (zd 1 [(58,(vI i))] (zb (zv (some 59) .i64 (IntKind.i64.wrap (((i:Nat):Int)+((1:Nat):Int))) (i+1) (zG (by omega) (by omega) (by omega)) ?_))))))
   refine zd 2 [(61,(vI (hgt n+1))),(60,(.slice (pA b1 o1) (hgt n+1) (hgt n+1)))] (zb (zO (some 62) (decide (((i+1:Nat):Int)<((hgt n+1:Nat):Int))) (fun hc62=> ?_) (fun hc62=> ?_)))
   ·replace hc62:i+1<hgt n+1:=by have:=zak hc62;omega
    have hq3:((zdd n b).getD (i+1) (0,0)).2=idx b (hgt n-i-1):=by rw [zdz (by omega)];rfl
    have hib2:=zfV b (hgt n-i-1)
    refine zd 3 [(65,(vI i)),(64,(.slice (pA b1 o1) (hgt n+1) (hgt n+1))),(63,vT)] (zb (zv (some 66) .i64 (IntKind.i64.wrap (((i:Nat):Int)+((1:Nat):Int))) (i+1) (zG (by omega) (by omega) (by omega)) ?_))
    refine zb (zj (some 67) (Instr.indexAt 94 (.slice (pA b1 o1) (hgt n+1) (hgt n+1)) (vI (i+1))) (vP b1 (o1+(i+1)*2)) (zap (E:=70) (sz:=2) (by omega)) ?_)
    refine zd 1 [(68,(vP b1 (o1+(i+1)*2+1)))] ?_
    have hK30:=(((((((((((((hO.ext hEw10)).chg hCw11 (fun k h1 h2 hs=>by have h:k=_:=hs;omega))).ext hEw12)).ext hEw21)).ext hEw22)).chg hCw23 (fun k h1 h2 hs=>by have h:k=_:=hs;omega))).ext hEw24)
    have hK31:=(((((((((((((((((hK2.ext hEw10)).chg hCw11 (fun k h1 h2 hs=>by have h:k=_:=hs;omega))).ext hEw12)).ext hEw21)).ext hEw22)).chg hCw23 (fun k h1 h2 hs=>by have h:k=_:=hs;omega))).ext hEw24)).chg hCw25 (fun k h1 h2 hs=>by have hn:=hK30.ne hs;omega))).chg hCw26 (fun k h1 h2 hs=>by have h:k=_:=hs;omega))
    refine zb (zj (some 69) (Instr.loadAt 3 (vP b1 (o1+(i+1)*2+1))) (vI (((zdd n b).getD (i+1) (0,0)).2)) (zo (hK31.cell (j:=1) (0,0) (by omega) rfl)) ?_)
    refine zb (zv (some 70) .i64 (((((zdd n b).getD (i+1) (0,0)).2:Nat):Int).tmod ((4:Nat):Int)) (idx b (hgt n-i-1)%4) ((zcP _ _).trans (by rw [hq3])) ?_)
    refine zd 1 [(71,(vP w12.heap.size 142))] (zb (zj (some 72) (Instr.indexAt 45 (vP w12.heap.size 142) (vI (idx b (hgt n-i-1)%4))) (vP w12.heap.size (142+(idx b (hgt n-i-1)%4)*33)) (zX (E:=44) (sz:=33) (m:=4) (by omega)) ?_))
    refine zd 1 [(73,(vP w12.heap.size (142+(idx b (hgt n-i-1)%4)*33)))] ?_
    have hK32:=(((((((((((((hO.ext hEw10)).chg hCw11 (fun k h1 h2 hs=>by have h:k=_:=hs;omega))).ext hEw12)).ext hEw21)).ext hEw22)).chg hCw23 (fun k h1 h2 hs=>by have h:k=_:=hs;omega))).ext hEw24)
    have hK33:=(((((hBw23.ext hEw24)).chg hCw25 (fun hs=>by have hn:=hK32.ne hs;omega))).chg hCw26 (fun hs=>by have h:_=_:=hs;omega))
    refine zb (zj (some 74) (Instr.loadAt 5 (vP w12.heap.size (142+(idx b (hgt n-i-1)%4)*33))) (vB (((t.getD (num n (hgt n-i)+(idx b (hgt n-i))) Nod.zero).es.get (idx b (hgt n-i-1)%4)).st)) (zo (hK33.cell (zic (by omega)))) ?_)
    refine zb (zO (some 75) ((((((t.getD (num n (hgt n-i)+(idx b (hgt n-i))) Nod.zero).es.get (idx b (hgt n-i-1)%4)).st:Nat):Int)==((0:Nat):Int))) (fun hc75=> ?_) (fun hc75=> ?_))
    ·replace hc75:((t.getD (num n (hgt n-i)+(idx b (hgt n-i))) Nod.zero).es.get (idx b (hgt n-i-1)%4)).st=0:=by have:=zbL hc75;omega
     have hmn:mny n t b=i+1:=zmR (by omega) (show ((zcM n t b i).es.get (idx b (hgt n-i-1)%4)).st=0 from hc75) (fun k hk=>hns k hk (by omega))
     refine zd 1 [(76,vT)] (zg (zc (zF (zaf (zdK (by decide) (zH (zH (zT (zc ?_)))))))))
     refine zf (ze (zd 1 [(78,(vP w6.heap.size 1))] (zb (zj (some 79) (Instr.loadAt 24 (vP w6.heap.size 1)) (.slice a6 (i+1) c2) (zo (hBw26.cell rfl)) ?_))))
     refine zb (zi (some 80) (zh7 _ ((hSw25).chg hCw26 (fun k h1 h2 hs=>by have h:k=_:=hs;omega))) ?_)
     rintro _ _ ⟨a7,rfl,hFz6_0,rfl⟩
     have hlea7:=hFz6_0.le
     refine zd 1 [(81,(vP w6.heap.size 1))] (zb (zV 24 w6.heap.size 1 26 (.slice a7 (i+1) (i+1)) ([(vI b),(.slice a6 (i+1) c2)]) hBw26 (by first | decide |(simp;done)|(simp;omega)) ?_))
     intro w27 hBw27 hCw27
     have hzw27:=hCw27.size
     rw [show (([(vI b),(.slice a6 (i+1) c2)]).set 1 (.slice a7 (i+1) (i+1)):List Value)= [(vI b),(.slice a7 (i+1) (i+1))] from rfl] at hBw27
     refine zg (zc (zf (ze (zb (zj (some 82) (Instr.loadAt 26 (vP w6.heap.size 0)) (vA [(vI b),(.slice a7 (i+1) (i+1))]) (zD (vs:= [(vI b),(.slice a7 (i+1) (i+1))]) (hBw27.all)) ?_)))))
     have hK34:=(((((((((((((hO.ext hEw10)).chg hCw11 (fun k h1 h2 hs=>by have h:k=_:=hs;omega))).ext hEw12)).ext hEw21)).ext hEw22)).chg hCw23 (fun k h1 h2 hs=>by have h:k=_:=hs;omega))).ext hEw24)
     have hK35:=(((((((((((((((((((((((((((((((((hBw2.ext hEw3)).ext hEw4)).chg hCw5 (fun hs=>by have h:_=_:=hs;omega))).ext hEw6)).ext hEw7)).chg hCw8 (fun hs=>by have h:_=_:=hs;omega))).chg hEl (fun hs=>by have h:_=_:=hs;omega))).ext hEw10)).chg hCw11 (fun hs=>by have h:_=_:=hs;omega))).ext hEw12)).ext hEw21)).ext hEw22)).chg hCw23 (fun hs=>by have h:_=_:=hs;omega))).ext hEw24)).chg hCw25 (fun hs=>by have hn:=hK34.ne hs;omega))).chg hCw26 (fun hs=>by have h:_=_:=hs;omega))).chg hCw27 (fun hs=>by have h:_=_:=hs;omega))
     refine zb (zz 26 w1.heap.size 0 26 (vA [(vI b),(.slice a7 (i+1) (i+1))]) ([(vI 0),(.slice none 0 0)]) ([(vI b),(.slice a7 (i+1) (i+1))]) hK35 (by kernel_rfl) (by first | decide |(simp;done)|(simp;omega)) (by simp [Value.oneCell']) ?_)
     have hK36:=(((((((((((((hO.ext hEw10)).chg hCw11 (fun k h1 h2 hs=>by have h:k=_:=hs;omega))).ext hEw12)).ext hEw21)).ext hEw22)).chg hCw23 (fun k h1 h2 hs=>by have h:k=_:=hs;omega))).ext hEw24)
     have hK37:=(((((((((((((((((((((((((((((((((hBw2.ext hEw3)).ext hEw4)).chg hCw5 (fun hs=>by have h:_=_:=hs;omega))).ext hEw6)).ext hEw7)).chg hCw8 (fun hs=>by have h:_=_:=hs;omega))).chg hEl (fun hs=>by have h:_=_:=hs;omega))).ext hEw10)).chg hCw11 (fun hs=>by have h:_=_:=hs;omega))).ext hEw12)).ext hEw21)).ext hEw22)).chg hCw23 (fun hs=>by have h:_=_:=hs;omega))).ext hEw24)).chg hCw25 (fun hs=>by have hn:=hK36.ne hs;omega))).chg hCw26 (fun hs=>by have h:_=_:=hs;omega))).chg hCw27 (fun hs=>by have h:_=_:=hs;omega))
     intro w28 hBw28 hCw28
     have hzw28:=hCw28.size
     rw [zm _ _ (by kernel_rfl)] at hBw28
     refine zd 1 [(5,(vI 0))] (zg (zc (zx (zas (show zab Tryz.prog 83 _ _ (.cell 4 26) (vA [(vI b),(.slice a7 (i+1) (i+1))]) from ⟨⟨w1.heap.size,0,none⟩,(by kernel_rfl),zP (T:=26) (vs:= [(vI b),(.slice a7 (i+1) (i+1))]) (hBw28).all (by kernel_rfl)⟩) (show zab Tryz.prog 83 _ _ (.tmp 5) (vI 0) by (show _=_;kernel_rfl)) ?_))))
     have hK38:=(((((((((((((hO.ext hEw10)).chg hCw11 (fun k h1 h2 hs=>by have h:k=_:=hs;omega))).ext hEw12)).ext hEw21)).ext hEw22)).chg hCw23 (fun k h1 h2 hs=>by have h:k=_:=hs;omega))).ext hEw24)
     have hX4:Ext w w28:=(Ext.own (Ext.own (Ext.own (Ext.ownS ((Ext.own ((((Ext.own ((Ext.own (Ext.own (((Ext.own (((hEw1.trans hEw2).trans hEw3).trans hEw4) hCw5 (by omega)).trans hEw6).trans hEw7) hCw8 (by omega)) hEl (by omega)).trans hEw10) hCw11 (by omega)).trans hEw12).trans hEw21).trans hEw22) hCw23 (by omega)).trans hEw24) hCw25 (fun k hs hk=>by have hn:=hK38.ne hs;omega)) hCw26 (by omega)) hCw27 (by omega)) hCw28 (by omega))
     rw [hmn,zdy]
     exact ⟨_,rfl,(((((hFz6_0).chg hCw27 (fun k h1 h2 hs=>by have h:k=_:=hs;omega))).chg hCw28 (fun k h1 h2 hs=>by have h:k=_:=hs;omega))).now.mono (by omega) (Nat.le_refl _),hX4⟩
    ·replace hc75:¬(((t.getD (num n (hgt n-i)+(idx b (hgt n-i))) Nod.zero).es.get (idx b (hgt n-i-1)%4)).st=0):=by have:=zbK hc75;omega
     have hst:i<hgt n→¬((zcM n t b i).es.get (idx b (hgt n-i-1)%4)).st=0:=fun _=>hc75
     refine zd 1 [(76,vF)] (zg (zc (zr (zy (zp (zc (ze (zb (zv (some 77) .i64 (IntKind.i64.wrap (((i:Nat):Int)+((1:Nat):Int))) (i+1) (zG (by omega) (by omega) (by omega)) ?_)))))))))
     refine zd 1 [(37,(vI (i+1)))] (zg (zC ?_))
     have hK39:=(((((((((((((hO.ext hEw10)).chg hCw11 (fun k h1 h2 hs=>by have h:k=_:=hs;omega))).ext hEw12)).ext hEw21)).ext hEw22)).chg hCw23 (fun k h1 h2 hs=>by have h:k=_:=hs;omega))).ext hEw24)
     refine zS (i+1,a6,c2) ?_ ?_
     ·exact ⟨by omega,fun k hk hh=>by rcases Nat.lt_succ_iff_lt_or_eq.1 hk with h1 | rfl;exact hns k h1 hh;exact hst hh,by rw [zdy];exact (((hOw25).chg hCw26 (fun k h1 h2 hs=>by have h:k=_:=hs;omega))).now,hBw26,(Chg.then (Chg.then ((Chg.then ((((Chg.then ((Chg.then (Chg.refl (fun k=>k=w6.heap.size) w8) hEl (fun k hk hs=>by have h:k=_:=hs;first | exact hs | exact .inl h | exact .inr h |(exfalso;omega))).trans hEw10.chg) hCw11 (fun k hk hs=>by have h:k=_:=hs;first | exact hs | exact .inl h | exact .inr h |(exfalso;omega))).trans hEw12.chg).trans hEw21.chg).trans hEw22.chg) hCw23 (fun k hk hs=>by have h:k=_:=hs;first | exact hs | exact .inl h | exact .inr h |(exfalso;omega))).trans hEw24.chg) hCw25 (fun k hk hs=>by have hn:=hK39.ne hs;first | exact hs | exact .inl h | exact .inr h |(exfalso;omega))) hCw26 (fun k hk hs=>by have h:k=_:=hs;first | exact hs | exact .inl h | exact .inr h |(exfalso;omega)))⟩
     ·first | omega |(dsimp only;omega)
   ·replace hc62:¬(i+1<hgt n+1):=by have:=zal hc62;omega
    have hst:i<hgt n→¬((zcM n t b i).es.get (idx b (hgt n-i-1)%4)).st=0:=fun hh=>absurd hh (by omega)
    refine zd 14 [(76,vF),(75,undef),(74,undef),(73,undef),(72,undef),(71,undef),(70,undef),(69,undef),(68,undef),(67,undef),(66,undef),(65,undef),(64,undef),(63,vF)] (zg (zc (zr (zy (zp (zc (ze (zb (zv (some 77) .i64 (IntKind.i64.wrap (((i:Nat):Int)+((1:Nat):Int))) (i+1) (zG (by omega) (by omega) (by omega)) ?_)))))))))
    refine zd 1 [(37,(vI (i+1)))] (zg (zC ?_))
    have hK40:=(((((((((((((hO.ext hEw10)).chg hCw11 (fun k h1 h2 hs=>by have h:k=_:=hs;omega))).ext hEw12)).ext hEw21)).ext hEw22)).chg hCw23 (fun k h1 h2 hs=>by have h:k=_:=hs;omega))).ext hEw24)
    refine zS (i+1,a6,c2) ?_ ?_
    ·exact ⟨by omega,fun k hk hh=>by rcases Nat.lt_succ_iff_lt_or_eq.1 hk with h1 | rfl;exact hns k h1 hh;exact hst hh,by rw [zdy];exact (((hOw25).chg hCw26 (fun k h1 h2 hs=>by have h:k=_:=hs;omega))).now,hBw26,(Chg.then (Chg.then ((Chg.then ((((Chg.then ((Chg.then (Chg.refl (fun k=>k=w6.heap.size) w8) hEl (fun k hk hs=>by have h:k=_:=hs;first | exact hs | exact .inl h | exact .inr h |(exfalso;omega))).trans hEw10.chg) hCw11 (fun k hk hs=>by have h:k=_:=hs;first | exact hs | exact .inl h | exact .inr h |(exfalso;omega))).trans hEw12.chg).trans hEw21.chg).trans hEw22.chg) hCw23 (fun k hk hs=>by have h:k=_:=hs;first | exact hs | exact .inl h | exact .inr h |(exfalso;omega))).trans hEw24.chg) hCw25 (fun k hk hs=>by have hn:=hK40.ne hs;first | exact hs | exact .inl h | exact .inr h |(exfalso;omega))) hCw26 (fun k hk hs=>by have h:k=_:=hs;first | exact hs | exact .inl h | exact .inr h |(exfalso;omega)))⟩
    ·first | omega |(dsimp only;omega)
 ·replace hc38:¬(i<hgt n+1):=by have:=zal hc38;omega
  have hmn:mny n t b=i:=by rw [zoY (fun k hk=>hns k (by omega) hk)];omega
  refine zg (zc (zf (zr (zaf (zH (zH (zT (zc (zf ?_)))))))))
  refine ze (zd 1 [(78,(vP w6.heap.size 1))] (zb (zj (some 79) (Instr.loadAt 24 (vP w6.heap.size 1)) (.slice ao i cp) (zo (hB9.cell rfl)) ?_)))
  refine zb (zi (some 80) (zh7 _ hmO) ?_)
  rintro _ _ ⟨a8,rfl,hFz7_0,rfl⟩
  have hlea8:=hFz7_0.le
  refine zd 1 [(81,(vP w6.heap.size 1))] (zb (zV 24 w6.heap.size 1 26 (.slice a8 i i) ([(vI b),(.slice ao i cp)]) hB9 (by first | decide |(simp;done)|(simp;omega)) ?_))
  intro w29 hBw29 hCw29
  have hzw29:=hCw29.size
  rw [show (([(vI b),(.slice ao i cp)]).set 1 (.slice a8 i i):List Value)= [(vI b),(.slice a8 i i)] from rfl] at hBw29
  refine zg (zc (zf (ze (zb (zj (some 82) (Instr.loadAt 26 (vP w6.heap.size 0)) (vA [(vI b),(.slice a8 i i)]) (zD (vs:= [(vI b),(.slice a8 i i)]) (hBw29.all)) ?_)))))
  have hK41:=(((((((((((((((hBw2.ext hEw3)).ext hEw4)).chg hCw5 (fun hs=>by have h:_=_:=hs;omega))).ext hEw6)).ext hEw7)).chg hCw8 (fun hs=>by have h:_=_:=hs;omega))).chg hEl (fun hs=>by have h:_=_:=hs;omega))).chg hCw29 (fun hs=>by have h:_=_:=hs;omega))
  refine zb (zz 26 w1.heap.size 0 26 (vA [(vI b),(.slice a8 i i)]) ([(vI 0),(.slice none 0 0)]) ([(vI b),(.slice a8 i i)]) hK41 (by kernel_rfl) (by first | decide |(simp;done)|(simp;omega)) (by simp [Value.oneCell']) ?_)
  have hK42:=(((((((((((((((hBw2.ext hEw3)).ext hEw4)).chg hCw5 (fun hs=>by have h:_=_:=hs;omega))).ext hEw6)).ext hEw7)).chg hCw8 (fun hs=>by have h:_=_:=hs;omega))).chg hEl (fun hs=>by have h:_=_:=hs;omega))).chg hCw29 (fun hs=>by have h:_=_:=hs;omega))
  intro w30 hBw30 hCw30
  have hzw30:=hCw30.size
  rw [zm _ _ (by kernel_rfl)] at hBw30
  refine zd 1 [(5,(vI 0))] (zg (zc (zx (zas (show zab Tryz.prog 83 _ _ (.cell 4 26) (vA [(vI b),(.slice a8 i i)]) from ⟨⟨w1.heap.size,0,none⟩,(by kernel_rfl),zP (T:=26) (vs:= [(vI b),(.slice a8 i i)]) (hBw30).all (by kernel_rfl)⟩) (show zab Tryz.prog 83 _ _ (.tmp 5) (vI 0) by (show _=_;kernel_rfl)) ?_))))
  have hX5:Ext w w30:=(Ext.own (Ext.own (Ext.own (Ext.own (((Ext.own (((hEw1.trans hEw2).trans hEw3).trans hEw4) hCw5 (by omega)).trans hEw6).trans hEw7) hCw8 (by omega)) hEl (by omega)) hCw29 (by omega)) hCw30 (by omega))
  rw [hmn]
  exact ⟨_,rfl,(((((hFz7_0).chg hCw29 (fun k h1 h2 hs=>by have h:k=_:=hs;omega))).chg hCw30 (fun k h1 h2 hs=>by have h:k=_:=hs;omega))).now.mono (by omega) (Nat.le_refl _),hX5⟩
end Go.Proofs.YtgdpdnokcnhgnaaGreatDoor
namespace Go.Proofs.YtgdpdnokcnhgnaaGreatDoor
open Go Go.RowKit Go.Cs
set_option maxRecDepth 100000
theorem zwv (n:Int) (root:Dig) (b:Int) {lo_p hi_p:Nat} {a_p:Option Addr} {n_p c_p:Nat} {p:List Nod} (d:Int) {lo_q hi_q:Nat} {a_q:Option Addr} {n_q c_q:Nat} {q:List Nod} (w:World) (h_p:Ms zK 274 lo_p hi_p w a_p n_p c_p p) (h_q:Ms zK 274 lo_q hi_q w a_q n_q c_q q) (hp0:¬zbu n root b p=0) (hg0:Gl 0 [vI 45,vI 33] w) (hg1:Gl 2 (w8C za2) w) (hg2:Gl 3 (zR kA) w) (hg3:Gl 1 [.iface 199 (.agg #[.pointer (some ⟨4,99,none⟩)])] w):
  Calls Tryz.prog 34 #[(.int .i64 n),(vA (zw root)),(vA [(.int .i64 b),(.slice a_p n_p c_p)]),(vA [(.int .i64 d),(.slice a_q n_q c_q)])] w (Ret fun r w'=>r=(.tuple #[(.slice none 0 0),(.slice none 0 0),(vI (zbu n root b p))])∧Ext w w'):=by
 refine zL (n:=79) (σ:= [(0,(.int .i64 n)),(1,(vA (zw root))),(2,(vA [(.int .i64 b),(.slice a_p n_p c_p)])),(3,(vA [(.int .i64 d),(.slice a_q n_q c_q)]))]) Tryz.func34 rfl ?_
 replace h_p:=h_p.now;have hle_p:=h_p.le
 replace h_q:=h_q.now;have hle_q:=h_q.le
 have hgl0:=hg0.lt
 have hgl1:=hg1.lt
 have hgl2:=hg2.lt
 have hgl3:=hg3.lt
 refine zf (ze (zb (zt (some 5) (Instr.box 23 (vA (zw root))) (vP w.heap.size 0) (zw root) 23 ?_)))
 intro w1 hBw1 hEw1
 have hzw1:=hEw1.size;have hlw1:=hBw1.lt
 refine zb (zt (some 6) (Instr.box 26 (vA [(.int .i64 b),(.slice a_p n_p c_p)])) (vP w1.heap.size 0) ([(.int .i64 b),(.slice a_p n_p c_p)]) 26 ?_)
 intro w2 hBw2 hEw2
 have hzw2:=hEw2.size;have hlw2:=hBw2.lt
 refine zb (zt (some 7) (Instr.box 26 (vA [(.int .i64 d),(.slice a_q n_q c_q)])) (vP w2.heap.size 0) ([(.int .i64 d),(.slice a_q n_q c_q)]) 26 ?_)
 intro w3 hBw3 hEw3
 have hzw3:=hEw3.size;have hlw3:=hBw3.lt
 refine zd 3 [(10,(vI 0)),(9,(.slice none 0 0)),(8,(.slice none 0 0))] (zg (zc (zf (ze (zd 1 [(15,(.int .i64 n))] (zb (zj (some 16) (Instr.loadAt 23 (vP w.heap.size 0)) (vA (zw root)) (zD (vs:=zw root) ((((hBw1.ext hEw2)).ext hEw3).all) (by rw [zac];kernel_rfl)) ?_)))))))
 refine zb (zj (some 17) (Instr.loadAt 26 (vP w1.heap.size 0)) (vA [(.int .i64 b),(.slice a_p n_p c_p)]) (zD (vs:= [(.int .i64 b),(.slice a_p n_p c_p)]) ((hBw2.ext hEw3).all)) ?_)
 have hK1:=(((((h_p.ext hEw1)).ext hEw2)).ext hEw3)
 have hK2:=(((((hg0.ext hEw1)).ext hEw2)).ext hEw3)
 have hK3:=(((((hg1.ext hEw1)).ext hEw2)).ext hEw3)
 have hK4:=(((((hg2.ext hEw1)).ext hEw2)).ext hEw3)
 have hK5:=(((((hg3.ext hEw1)).ext hEw2)).ext hEw3)
 refine zb (zi (some 18) (zcN n root b _ hK1 hK2 hK3 hK4 hK5) ?_)
 rintro _ w4 ⟨rfl,hEw4⟩
 have hzw4:=hEw4.size
 refine zd 3 [(20,(vI (zbu n root b p))),(19,(vA (zE (zbs n root b p)))),(14,(.tuple #[(vA (zE (zbs n root b p))),(vI (zbu n root b p))]))] (zb (zt (some 11) (Instr.alloc 33 true (.tuple #[])) (vP w4.heap.size 0) (zE Rec.zero) 33 ?_))
 intro w5 hBw5 hEw5
 have hzw5:=hEw5.size;have hlw5:=hBw5.lt
 refine zb (zz 33 w4.heap.size 0 33 (vA (zE (zbs n root b p))) (zE Rec.zero) (zE (zbs n root b p)) hBw5 (by rw [zY];kernel_rfl) (by first |(simp;done)|(simp;omega)) (zaU _) ?_)
 intro w6 hBw6 hCw6
 have hzw6:=hCw6.size
 rw [zm _ _ (by simp)] at hBw6
 refine zd 1 [(10,(vI (zbu n root b p)))] (zg (zc (zf (zf (ze (zd 1 [(21,(vI (zbu n root b p)))] (zb (zat (some 22) (((zbu n root b p:Nat):Int) !=((0:Nat):Int)) true (zcq (by omega)) ?_))))))))
 refine zg (zc (zF (zf (ze (zd 4 [(10,(vI (zbu n root b p))),(9,(.slice none 0 0)),(8,(.slice none 0 0)),(23,(vI (zbu n root b p)))] (zg (zc (zx (zu ?_)))))))))
 refine zB (.tuple #[(.slice none 0 0),(.slice none 0 0),(vI (zbu n root b p))]) ?_
 have hX1:Ext w w6:=(Ext.own ((((hEw1.trans hEw2).trans hEw3).trans hEw4).trans hEw5) hCw6 (by omega))
 exact ⟨rfl,hX1⟩
theorem zwx (n:Int) (root:Dig) (b:Int) {lo_p hi_p:Nat} {a_p:Option Addr} {n_p c_p:Nat} {p:List Nod} (d:Int) {lo_q hi_q:Nat} {a_q:Option Addr} {n_q c_q:Nat} {q:List Nod} (w:World) (h_p:Ms zK 274 lo_p hi_p w a_p n_p c_p p) (h_q:Ms zK 274 lo_q hi_q w a_q n_q c_q q) (hp0:zbu n root b p=0) (hp1:¬zbu n root d q=0) (hg0:Gl 0 [vI 45,vI 33] w) (hg1:Gl 2 (w8C za2) w) (hg2:Gl 3 (zR kA) w) (hg3:Gl 1 [.iface 199 (.agg #[.pointer (some ⟨4,99,none⟩)])] w):
  Calls Tryz.prog 34 #[(.int .i64 n),(vA (zw root)),(vA [(.int .i64 b),(.slice a_p n_p c_p)]),(vA [(.int .i64 d),(.slice a_q n_q c_q)])] w (Ret fun r w'=>r=(.tuple #[(.slice none 0 0),(.slice none 0 0),(vI (zbu n root d q))])∧Ext w w'):=by
 refine zL (n:=79) (σ:= [(0,(.int .i64 n)),(1,(vA (zw root))),(2,(vA [(.int .i64 b),(.slice a_p n_p c_p)])),(3,(vA [(.int .i64 d),(.slice a_q n_q c_q)]))]) Tryz.func34 rfl ?_
 replace h_p:=h_p.now;have hle_p:=h_p.le
 replace h_q:=h_q.now;have hle_q:=h_q.le
 have hgl0:=hg0.lt
 have hgl1:=hg1.lt
 have hgl2:=hg2.lt
 have hgl3:=hg3.lt
 refine zf (ze (zb (zt (some 5) (Instr.box 23 (vA (zw root))) (vP w.heap.size 0) (zw root) 23 ?_)))
 intro w1 hBw1 hEw1
 have hzw1:=hEw1.size;have hlw1:=hBw1.lt
 refine zb (zt (some 6) (Instr.box 26 (vA [(.int .i64 b),(.slice a_p n_p c_p)])) (vP w1.heap.size 0) ([(.int .i64 b),(.slice a_p n_p c_p)]) 26 ?_)
 intro w2 hBw2 hEw2
 have hzw2:=hEw2.size;have hlw2:=hBw2.lt
 refine zb (zt (some 7) (Instr.box 26 (vA [(.int .i64 d),(.slice a_q n_q c_q)])) (vP w2.heap.size 0) ([(.int .i64 d),(.slice a_q n_q c_q)]) 26 ?_)
 intro w3 hBw3 hEw3
 have hzw3:=hEw3.size;have hlw3:=hBw3.lt
 refine zd 3 [(10,(vI 0)),(9,(.slice none 0 0)),(8,(.slice none 0 0))] (zg (zc (zf (ze (zd 1 [(15,(.int .i64 n))] (zb (zj (some 16) (Instr.loadAt 23 (vP w.heap.size 0)) (vA (zw root)) (zD (vs:=zw root) ((((hBw1.ext hEw2)).ext hEw3).all) (by rw [zac];kernel_rfl)) ?_)))))))
 refine zb (zj (some 17) (Instr.loadAt 26 (vP w1.heap.size 0)) (vA [(.int .i64 b),(.slice a_p n_p c_p)]) (zD (vs:= [(.int .i64 b),(.slice a_p n_p c_p)]) ((hBw2.ext hEw3).all)) ?_)
 have hK1:=(((((h_p.ext hEw1)).ext hEw2)).ext hEw3)
 have hK2:=(((((hg0.ext hEw1)).ext hEw2)).ext hEw3)
 have hK3:=(((((hg1.ext hEw1)).ext hEw2)).ext hEw3)
 have hK4:=(((((hg2.ext hEw1)).ext hEw2)).ext hEw3)
 have hK5:=(((((hg3.ext hEw1)).ext hEw2)).ext hEw3)
 refine zb (zi (some 18) (zcN n root b _ hK1 hK2 hK3 hK4 hK5) ?_)
 rintro _ w4 ⟨rfl,hEw4⟩
 have hzw4:=hEw4.size
 rw [show zbu n root b p=0 from hp0]
 refine zd 3 [(20,(vI 0)),(19,(vA (zE (zbs n root b p)))),(14,(.tuple #[(vA (zE (zbs n root b p))),(vI 0)]))] (zb (zt (some 11) (Instr.alloc 33 true (.tuple #[])) (vP w4.heap.size 0) (zE Rec.zero) 33 ?_))
 intro w5 hBw5 hEw5
 have hzw5:=hEw5.size;have hlw5:=hBw5.lt
 refine zb (zz 33 w4.heap.size 0 33 (vA (zE (zbs n root b p))) (zE Rec.zero) (zE (zbs n root b p)) hBw5 (by rw [zY];kernel_rfl) (by first |(simp;done)|(simp;omega)) (zaU _) ?_)
 intro w6 hBw6 hCw6
 have hzw6:=hCw6.size
 rw [zm _ _ (by simp)] at hBw6
 refine zd 1 [(10,(vI 0))] (zg (zc (zf (zf (ze (zd 1 [(21,(vI 0))] (zb (zat (some 22) (((0:Nat):Int) !=((0:Nat):Int)) false (zaL (by omega)) ?_))))))))
 refine zg (zc (zr (zy (zc (zf (ze (zd 1 [(25,(.int .i64 n))] ?_)))))))
 have hK6:=(((((((((hBw1.ext hEw2)).ext hEw3)).ext hEw4)).ext hEw5)).chg hCw6 (fun hs=>by have h:_=_:=hs;omega))
 refine zb (zj (some 26) (Instr.loadAt 23 (vP w.heap.size 0)) (vA (zw root)) (zD (vs:=zw root) (hK6.all) (by rw [zac];kernel_rfl)) ?_)
 have hK7:=(((((hBw3.ext hEw4)).ext hEw5)).chg hCw6 (fun hs=>by have h:_=_:=hs;omega))
 refine zb (zj (some 27) (Instr.loadAt 26 (vP w2.heap.size 0)) (vA [(.int .i64 d),(.slice a_q n_q c_q)]) (zD (vs:= [(.int .i64 d),(.slice a_q n_q c_q)]) (hK7.all)) ?_)
 have hK8:=(((((((((((h_q.ext hEw1)).ext hEw2)).ext hEw3)).ext hEw4)).ext hEw5)).chg hCw6 (fun k h1 h2 hs=>by have h:k=_:=hs;omega))
 have hK9:=(((((hK2.ext hEw4)).ext hEw5)).chg hCw6 (fun hs=>by have h:_=_:=hs;omega))
 have hK10:=(((((hK3.ext hEw4)).ext hEw5)).chg hCw6 (fun hs=>by have h:_=_:=hs;omega))
 have hK11:=(((((hK4.ext hEw4)).ext hEw5)).chg hCw6 (fun hs=>by have h:_=_:=hs;omega))
 have hK12:=(((((hK5.ext hEw4)).ext hEw5)).chg hCw6 (fun hs=>by have h:_=_:=hs;omega))
 refine zb (zi (some 28) (zcN n root d _ hK8 hK9 hK10 hK11 hK12) ?_)
 rintro _ w7 ⟨rfl,hEw7⟩
 have hzw7:=hEw7.size
 refine zd 3 [(30,(vI (zbu n root d q))),(29,(vA (zE (zbs n root d q)))),(24,(.tuple #[(vA (zE (zbs n root d q))),(vI (zbu n root d q))]))] (zb (zt (some 12) (Instr.alloc 33 true (.tuple #[])) (vP w7.heap.size 0) (zE Rec.zero) 33 ?_))
 intro w8 hBw8 hEw8
 have hzw8:=hEw8.size;have hlw8:=hBw8.lt
 refine zb (zz 33 w7.heap.size 0 33 (vA (zE (zbs n root d q))) (zE Rec.zero) (zE (zbs n root d q)) hBw8 (by rw [zY];kernel_rfl) (by first |(simp;done)|(simp;omega)) (zaU _) ?_)
 intro w9 hBw9 hCw9
 have hzw9:=hCw9.size
 rw [zm _ _ (by simp)] at hBw9
 refine zd 1 [(10,(vI (zbu n root d q)))] (zg (zc (zf (zI (zf (ze (zd 1 [(32,(vI (zbu n root d q)))] (zb (zat (some 33) (((zbu n root d q:Nat):Int) !=((0:Nat):Int)) true (zcq (by omega)) ?_)))))))))
 refine zd 1 [(31,vT)] (zg (zc (zF (zf (ze (zd 4 [(10,(vI (zbu n root d q))),(9,(.slice none 0 0)),(8,(.slice none 0 0)),(34,(vI (zbu n root d q)))] (zg (zc (zx ?_)))))))))
 refine zA (zu (zB (.tuple #[(.slice none 0 0),(.slice none 0 0),(vI (zbu n root d q))]) ?_))
 have hX1:Ext w w9:=(Ext.own (((Ext.own ((((hEw1.trans hEw2).trans hEw3).trans hEw4).trans hEw5) hCw6 (by omega)).trans hEw7).trans hEw8) hCw9 (by omega))
 exact ⟨rfl,hX1⟩
theorem zq0 (n:Int) (root:Dig) (b:Int) {lo_p hi_p:Nat} {a_p:Option Addr} {n_p c_p:Nat} {p:List Nod} (d:Int) {lo_q hi_q:Nat} {a_q:Option Addr} {n_q c_q:Nat} {q:List Nod} (w:World) (h_p:Ms zK 274 lo_p hi_p w a_p n_p c_p p) (h_q:Ms zK 274 lo_q hi_q w a_q n_q c_q q) (hp0:zbu n root b p=0) (hp1:zbu n root d q=0) (hp2:b≠d) (hg0:Gl 0 [vI 45,vI 33] w) (hg1:Gl 2 (w8C za2) w) (hg2:Gl 3 (zR kA) w) (hg3:Gl 1 [.iface 199 (.agg #[.pointer (some ⟨4,99,none⟩)])] w):
  Calls Tryz.prog 34 #[(.int .i64 n),(vA (zw root)),(vA [(.int .i64 b),(.slice a_p n_p c_p)]),(vA [(.int .i64 d),(.slice a_q n_q c_q)])] w (Ret fun r w'=>r=(.tuple #[(.slice none 0 0),(.slice none 0 0),(vI 1)])∧Ext w w'):=by
 refine zL (n:=79) (σ:= [(0,(.int .i64 n)),(1,(vA (zw root))),(2,(vA [(.int .i64 b),(.slice a_p n_p c_p)])),(3,(vA [(.int .i64 d),(.slice a_q n_q c_q)]))]) Tryz.func34 rfl ?_
 replace h_p:=h_p.now;have hle_p:=h_p.le
 replace h_q:=h_q.now;have hle_q:=h_q.le
 have hgl0:=hg0.lt
 have hgl1:=hg1.lt
 have hgl2:=hg2.lt
 have hgl3:=hg3.lt
 refine zf (ze (zb (zt (some 5) (Instr.box 23 (vA (zw root))) (vP w.heap.size 0) (zw root) 23 ?_)))
 intro w1 hBw1 hEw1
 have hzw1:=hEw1.size;have hlw1:=hBw1.lt
 refine zb (zt (some 6) (Instr.box 26 (vA [(.int .i64 b),(.slice a_p n_p c_p)])) (vP w1.heap.size 0) ([(.int .i64 b),(.slice a_p n_p c_p)]) 26 ?_)
 intro w2 hBw2 hEw2
 have hzw2:=hEw2.size;have hlw2:=hBw2.lt
 refine zb (zt (some 7) (Instr.box 26 (vA [(.int .i64 d),(.slice a_q n_q c_q)])) (vP w2.heap.size 0) ([(.int .i64 d),(.slice a_q n_q c_q)]) 26 ?_)
 intro w3 hBw3 hEw3
 have hzw3:=hEw3.size;have hlw3:=hBw3.lt
 refine zd 3 [(10,(vI 0)),(9,(.slice none 0 0)),(8,(.slice none 0 0))] (zg (zc (zf (ze (zd 1 [(15,(.int .i64 n))] (zb (zj (some 16) (Instr.loadAt 23 (vP w.heap.size 0)) (vA (zw root)) (zD (vs:=zw root) ((((hBw1.ext hEw2)).ext hEw3).all) (by rw [zac];kernel_rfl)) ?_)))))))
 refine zb (zj (some 17) (Instr.loadAt 26 (vP w1.heap.size 0)) (vA [(.int .i64 b),(.slice a_p n_p c_p)]) (zD (vs:= [(.int .i64 b),(.slice a_p n_p c_p)]) ((hBw2.ext hEw3).all)) ?_)
 have hK1:=(((((h_p.ext hEw1)).ext hEw2)).ext hEw3)
 have hK2:=(((((hg0.ext hEw1)).ext hEw2)).ext hEw3)
 have hK3:=(((((hg1.ext hEw1)).ext hEw2)).ext hEw3)
 have hK4:=(((((hg2.ext hEw1)).ext hEw2)).ext hEw3)
 have hK5:=(((((hg3.ext hEw1)).ext hEw2)).ext hEw3)
 refine zb (zi (some 18) (zcN n root b _ hK1 hK2 hK3 hK4 hK5) ?_)
 rintro _ w4 ⟨rfl,hEw4⟩
 have hzw4:=hEw4.size
 rw [show zbu n root b p=0 from hp0]
 refine zd 3 [(20,(vI 0)),(19,(vA (zE (zbs n root b p)))),(14,(.tuple #[(vA (zE (zbs n root b p))),(vI 0)]))] (zb (zt (some 11) (Instr.alloc 33 true (.tuple #[])) (vP w4.heap.size 0) (zE Rec.zero) 33 ?_))
 intro w5 hBw5 hEw5
 have hzw5:=hEw5.size;have hlw5:=hBw5.lt
 refine zb (zz 33 w4.heap.size 0 33 (vA (zE (zbs n root b p))) (zE Rec.zero) (zE (zbs n root b p)) hBw5 (by rw [zY];kernel_rfl) (by first |(simp;done)|(simp;omega)) (zaU _) ?_)
 intro w6 hBw6 hCw6
 have hzw6:=hCw6.size
 rw [zm _ _ (by simp)] at hBw6
 refine zd 1 [(10,(vI 0))] (zg (zc (zf (zf (ze (zd 1 [(21,(vI 0))] (zb (zat (some 22) (((0:Nat):Int) !=((0:Nat):Int)) false (zaL (by omega)) ?_))))))))
 refine zg (zc (zr (zy (zc (zf (ze (zd 1 [(25,(.int .i64 n))] ?_)))))))
 have hK6:=(((((((((hBw1.ext hEw2)).ext hEw3)).ext hEw4)).ext hEw5)).chg hCw6 (fun hs=>by have h:_=_:=hs;omega))
 refine zb (zj (some 26) (Instr.loadAt 23 (vP w.heap.size 0)) (vA (zw root)) (zD (vs:=zw root) (hK6.all) (by rw [zac];kernel_rfl)) ?_)
 have hK7:=(((((hBw3.ext hEw4)).ext hEw5)).chg hCw6 (fun hs=>by have h:_=_:=hs;omega))
 refine zb (zj (some 27) (Instr.loadAt 26 (vP w2.heap.size 0)) (vA [(.int .i64 d),(.slice a_q n_q c_q)]) (zD (vs:= [(.int .i64 d),(.slice a_q n_q c_q)]) (hK7.all)) ?_)
 have hK8:=(((((((((((h_q.ext hEw1)).ext hEw2)).ext hEw3)).ext hEw4)).ext hEw5)).chg hCw6 (fun k h1 h2 hs=>by have h:k=_:=hs;omega))
 have hK9:=(((((hK2.ext hEw4)).ext hEw5)).chg hCw6 (fun hs=>by have h:_=_:=hs;omega))
 have hK10:=(((((hK3.ext hEw4)).ext hEw5)).chg hCw6 (fun hs=>by have h:_=_:=hs;omega))
 have hK11:=(((((hK4.ext hEw4)).ext hEw5)).chg hCw6 (fun hs=>by have h:_=_:=hs;omega))
 have hK12:=(((((hK5.ext hEw4)).ext hEw5)).chg hCw6 (fun hs=>by have h:_=_:=hs;omega))
 refine zb (zi (some 28) (zcN n root d _ hK8 hK9 hK10 hK11 hK12) ?_)
 rintro _ w7 ⟨rfl,hEw7⟩
 have hzw7:=hEw7.size
 rw [show zbu n root d q=0 from hp1]
 refine zd 3 [(30,(vI 0)),(29,(vA (zE (zbs n root d q)))),(24,(.tuple #[(vA (zE (zbs n root d q))),(vI 0)]))] (zb (zt (some 12) (Instr.alloc 33 true (.tuple #[])) (vP w7.heap.size 0) (zE Rec.zero) 33 ?_))
 intro w8 hBw8 hEw8
 have hzw8:=hEw8.size;have hlw8:=hBw8.lt
 refine zb (zz 33 w7.heap.size 0 33 (vA (zE (zbs n root d q))) (zE Rec.zero) (zE (zbs n root d q)) hBw8 (by rw [zY];kernel_rfl) (by first |(simp;done)|(simp;omega)) (zaU _) ?_)
 intro w9 hBw9 hCw9
 have hzw9:=hCw9.size
 rw [zm _ _ (by simp)] at hBw9
 refine zd 1 [(10,(vI 0))] (zg (zc (zf (zI (zf (ze (zd 1 [(32,(vI 0))] (zb (zat (some 33) (((0:Nat):Int) !=((0:Nat):Int)) false (zaL (by omega)) ?_)))))))))
 refine zd 1 [(31,vF)] (zg (zc (zr (zf (ze (zd 1 [(36,(vP w1.heap.size 0))] ?_))))))
 have hK13:=(((((((((((((hBw2.ext hEw3)).ext hEw4)).ext hEw5)).chg hCw6 (fun hs=>by have h:_=_:=hs;omega))).ext hEw7)).ext hEw8)).chg hCw9 (fun hs=>by have h:_=_:=hs;omega))
 refine zb (zj (some 37) (Instr.loadAt 3 (vP w1.heap.size 0)) (.int .i64 b) (zo (hK13.cell rfl)) ?_)
 refine zd 1 [(38,(vP w2.heap.size 0))] ?_
 have hK14:=(((((hK7.ext hEw7)).ext hEw8)).chg hCw9 (fun hs=>by have h:_=_:=hs;omega))
 refine zb (zj (some 39) (Instr.loadAt 3 (vP w2.heap.size 0)) (.int .i64 d) (zo (hK14.cell rfl)) ?_)
 refine zb (zat (some 40) (b !=d) true (zcq (by omega)) ?_)
 refine zd 1 [(35,vT)] (zg (zc (zF (zf (ze (zd 3 [(10,(vI 1)),(9,(.slice none 0 0)),(8,(.slice none 0 0))] (zg (zc (zx ?_)))))))))
 refine zA (zu (zB (.tuple #[(.slice none 0 0),(.slice none 0 0),(vI 1)]) ?_))
 have hX1:Ext w w9:=(Ext.own (((Ext.own ((((hEw1.trans hEw2).trans hEw3).trans hEw4).trans hEw5) hCw6 (by omega)).trans hEw7).trans hEw8) hCw9 (by omega))
 exact ⟨rfl,hX1⟩
theorem zwy (n:Int) (root:Dig) (b:Int) {lo_p hi_p:Nat} {a_p:Option Addr} {n_p c_p:Nat} {p:List Nod} (d:Int) {lo_q hi_q:Nat} {a_q:Option Addr} {n_q c_q:Nat} {q:List Nod} (w:World) (h_p:Ms zK 274 lo_p hi_p w a_p n_p c_p p) (h_q:Ms zK 274 lo_q hi_q w a_q n_q c_q q) (hp0:zbu n root b p=0) (hp1:zbu n root d q=0) (hp2:b=d) (hp3:zbs n root b p=zbs n root d q) (hg0:Gl 0 [vI 45,vI 33] w) (hg1:Gl 2 (w8C za2) w) (hg2:Gl 3 (zR kA) w) (hg3:Gl 1 [.iface 199 (.agg #[.pointer (some ⟨4,99,none⟩)])] w):
  Calls Tryz.prog 34 #[(.int .i64 n),(vA (zw root)),(vA [(.int .i64 b),(.slice a_p n_p c_p)]),(vA [(.int .i64 d),(.slice a_q n_q c_q)])] w (Ret fun r w'=>r=(.tuple #[(.slice none 0 0),(.slice none 0 0),(vI 11)])∧Ext w w'):=by
 refine zL (n:=79) (σ:= [(0,(.int .i64 n)),(1,(vA (zw root))),(2,(vA [(.int .i64 b),(.slice a_p n_p c_p)])),(3,(vA [(.int .i64 d),(.slice a_q n_q c_q)]))]) Tryz.func34 rfl ?_
 replace h_p:=h_p.now;have hle_p:=h_p.le
 replace h_q:=h_q.now;have hle_q:=h_q.le
 have hgl0:=hg0.lt
 have hgl1:=hg1.lt
 have hgl2:=hg2.lt
 have hgl3:=hg3.lt
 refine zf (ze (zb (zt (some 5) (Instr.box 23 (vA (zw root))) (vP w.heap.size 0) (zw root) 23 ?_)))
 intro w1 hBw1 hEw1
 have hzw1:=hEw1.size;have hlw1:=hBw1.lt
 refine zb (zt (some 6) (Instr.box 26 (vA [(.int .i64 b),(.slice a_p n_p c_p)])) (vP w1.heap.size 0) ([(.int .i64 b),(.slice a_p n_p c_p)]) 26 ?_)
 intro w2 hBw2 hEw2
 have hzw2:=hEw2.size;have hlw2:=hBw2.lt
 refine zb (zt (some 7) (Instr.box 26 (vA [(.int .i64 d),(.slice a_q n_q c_q)])) (vP w2.heap.size 0) ([(.int .i64 d),(.slice a_q n_q c_q)]) 26 ?_)
 intro w3 hBw3 hEw3
 have hzw3:=hEw3.size;have hlw3:=hBw3.lt
 refine zd 3 [(10,(vI 0)),(9,(.slice none 0 0)),(8,(.slice none 0 0))] (zg (zc (zf (ze (zd 1 [(15,(.int .i64 n))] (zb (zj (some 16) (Instr.loadAt 23 (vP w.heap.size 0)) (vA (zw root)) (zD (vs:=zw root) ((((hBw1.ext hEw2)).ext hEw3).all) (by rw [zac];kernel_rfl)) ?_)))))))
 refine zb (zj (some 17) (Instr.loadAt 26 (vP w1.heap.size 0)) (vA [(.int .i64 b),(.slice a_p n_p c_p)]) (zD (vs:= [(.int .i64 b),(.slice a_p n_p c_p)]) ((hBw2.ext hEw3).all)) ?_)
 have hK1:=(((((h_p.ext hEw1)).ext hEw2)).ext hEw3)
 have hK2:=(((((hg0.ext hEw1)).ext hEw2)).ext hEw3)
 have hK3:=(((((hg1.ext hEw1)).ext hEw2)).ext hEw3)
 have hK4:=(((((hg2.ext hEw1)).ext hEw2)).ext hEw3)
 have hK5:=(((((hg3.ext hEw1)).ext hEw2)).ext hEw3)
 refine zb (zi (some 18) (zcN n root b _ hK1 hK2 hK3 hK4 hK5) ?_)
 rintro _ w4 ⟨rfl,hEw4⟩
 have hzw4:=hEw4.size
 rw [show zbu n root b p=0 from hp0]
 refine zd 3 [(20,(vI 0)),(19,(vA (zE (zbs n root b p)))),(14,(.tuple #[(vA (zE (zbs n root b p))),(vI 0)]))] (zb (zt (some 11) (Instr.alloc 33 true (.tuple #[])) (vP w4.heap.size 0) (zE Rec.zero) 33 ?_))
 intro w5 hBw5 hEw5
 have hzw5:=hEw5.size;have hlw5:=hBw5.lt
 refine zb (zz 33 w4.heap.size 0 33 (vA (zE (zbs n root b p))) (zE Rec.zero) (zE (zbs n root b p)) hBw5 (by rw [zY];kernel_rfl) (by first |(simp;done)|(simp;omega)) (zaU _) ?_)
 intro w6 hBw6 hCw6
 have hzw6:=hCw6.size
 rw [zm _ _ (by simp)] at hBw6
 refine zd 1 [(10,(vI 0))] (zg (zc (zf (zf (ze (zd 1 [(21,(vI 0))] (zb (zat (some 22) (((0:Nat):Int) !=((0:Nat):Int)) false (zaL (by omega)) ?_))))))))
 refine zg (zc (zr (zy (zc (zf (ze (zd 1 [(25,(.int .i64 n))] ?_)))))))
 have hK6:=(((((((((hBw1.ext hEw2)).ext hEw3)).ext hEw4)).ext hEw5)).chg hCw6 (fun hs=>by have h:_=_:=hs;omega))
 refine zb (zj (some 26) (Instr.loadAt 23 (vP w.heap.size 0)) (vA (zw root)) (zD (vs:=zw root) (hK6.all) (by rw [zac];kernel_rfl)) ?_)
 have hK7:=(((((hBw3.ext hEw4)).ext hEw5)).chg hCw6 (fun hs=>by have h:_=_:=hs;omega))
 refine zb (zj (some 27) (Instr.loadAt 26 (vP w2.heap.size 0)) (vA [(.int .i64 d),(.slice a_q n_q c_q)]) (zD (vs:= [(.int .i64 d),(.slice a_q n_q c_q)]) (hK7.all)) ?_)
 have hK8:=(((((((((((h_q.ext hEw1)).ext hEw2)).ext hEw3)).ext hEw4)).ext hEw5)).chg hCw6 (fun k h1 h2 hs=>by have h:k=_:=hs;omega))
 have hK9:=(((((hK2.ext hEw4)).ext hEw5)).chg hCw6 (fun hs=>by have h:_=_:=hs;omega))
 have hK10:=(((((hK3.ext hEw4)).ext hEw5)).chg hCw6 (fun hs=>by have h:_=_:=hs;omega))
 have hK11:=(((((hK4.ext hEw4)).ext hEw5)).chg hCw6 (fun hs=>by have h:_=_:=hs;omega))
 have hK12:=(((((hK5.ext hEw4)).ext hEw5)).chg hCw6 (fun hs=>by have h:_=_:=hs;omega))
 refine zb (zi (some 28) (zcN n root d _ hK8 hK9 hK10 hK11 hK12) ?_)
 rintro _ w7 ⟨rfl,hEw7⟩
 have hzw7:=hEw7.size
 rw [show zbu n root d q=0 from hp1]
 refine zd 3 [(30,(vI 0)),(29,(vA (zE (zbs n root d q)))),(24,(.tuple #[(vA (zE (zbs n root d q))),(vI 0)]))] (zb (zt (some 12) (Instr.alloc 33 true (.tuple #[])) (vP w7.heap.size 0) (zE Rec.zero) 33 ?_))
 intro w8 hBw8 hEw8
 have hzw8:=hEw8.size;have hlw8:=hBw8.lt
 refine zb (zz 33 w7.heap.size 0 33 (vA (zE (zbs n root d q))) (zE Rec.zero) (zE (zbs n root d q)) hBw8 (by rw [zY];kernel_rfl) (by first |(simp;done)|(simp;omega)) (zaU _) ?_)
 intro w9 hBw9 hCw9
 have hzw9:=hCw9.size
 rw [zm _ _ (by simp)] at hBw9
 refine zd 1 [(10,(vI 0))] (zg (zc (zf (zI (zf (ze (zd 1 [(32,(vI 0))] (zb (zat (some 33) (((0:Nat):Int) !=((0:Nat):Int)) false (zaL (by omega)) ?_)))))))))
 refine zd 1 [(31,vF)] (zg (zc (zr (zf (ze (zd 1 [(36,(vP w1.heap.size 0))] ?_))))))
 have hK13:=(((((((((((((hBw2.ext hEw3)).ext hEw4)).ext hEw5)).chg hCw6 (fun hs=>by have h:_=_:=hs;omega))).ext hEw7)).ext hEw8)).chg hCw9 (fun hs=>by have h:_=_:=hs;omega))
 refine zb (zj (some 37) (Instr.loadAt 3 (vP w1.heap.size 0)) (.int .i64 b) (zo (hK13.cell rfl)) ?_)
 refine zd 1 [(38,(vP w2.heap.size 0))] ?_
 have hK14:=(((((hK7.ext hEw7)).ext hEw8)).chg hCw9 (fun hs=>by have h:_=_:=hs;omega))
 refine zb (zj (some 39) (Instr.loadAt 3 (vP w2.heap.size 0)) (.int .i64 d) (zo (hK14.cell rfl)) ?_)
 refine zb (zat (some 40) (b !=d) false (zaL (by omega)) ?_)
 refine zd 1 [(35,vF)] (zg (zc (zr (zf (ze ?_)))))
 have hK15:=(((((hBw6.ext hEw7)).ext hEw8)).chg hCw9 (fun hs=>by have h:_=_:=hs;omega))
 refine zb (zj (some 42) (Instr.loadAt 33 (vP w4.heap.size 0)) (vA (zE (zbs n root b p))) (zD (vs:=zE (zbs n root b p)) (hK15.all) (by rw [zY];kernel_rfl)) ?_)
 refine zb (zj (some 43) (Instr.loadAt 33 (vP w7.heap.size 0)) (vA (zE (zbs n root d q))) (zD (vs:=zE (zbs n root d q)) (hBw9.all) (by rw [zY];kernel_rfl)) ?_)
 refine zb (zj (some 44) (bo .eql 33 (.tmp 42) (.tmp 43) (vA (zE (zbs n root b p))) (vA (zE (zbs n root d q)))) vT (zhE (r:=true) (T:=33) ((zb8 (dd:=9997) (t:=33) (t8:=5) (tn:=31) (td:=23) (e:=5) (t32:=28) (t64:=29) (zbs n root b p) (zbs n root d q)).trans (congrArg (fun b=>Result.ok b _) (show ((zbs n root b p).eqb (zbs n root d q))=true from (Rec.eqb_iff _ _).2 hp3)))) ?_)
 refine zd 1 [(41,vT)] (zg (zc (zF (zf (ze (zd 3 [(10,(vI 11)),(9,(.slice none 0 0)),(8,(.slice none 0 0))] (zg (zc (zx ?_)))))))))
 refine zA (zu (zB (.tuple #[(.slice none 0 0),(.slice none 0 0),(vI 11)]) ?_))
 have hX1:Ext w w9:=(Ext.own (((Ext.own ((((hEw1.trans hEw2).trans hEw3).trans hEw4).trans hEw5) hCw6 (by omega)).trans hEw7).trans hEw8) hCw9 (by omega))
 exact ⟨rfl,hX1⟩
theorem zww (n:Int) (root:Dig) (b:Int) {lo_p hi_p:Nat} {a_p:Option Addr} {n_p c_p:Nat} {p:List Nod} (d:Int) {lo_q hi_q:Nat} {a_q:Option Addr} {n_q c_q:Nat} {q:List Nod} (k:Nat) (w:World) (h_p:Ms zK 274 lo_p hi_p w a_p n_p c_p p) (h_q:Ms zK 274 lo_q hi_q w a_q n_q c_q q) (hp0:zbu n root b p=0) (hp1:zbu n root d q=0) (hp2:b=d) (hp3:¬zbs n root b p=zbs n root d q) (hp4:k<n_p) (hp5:k<n_q) (hp6:∀m,m<k→p.getD m Nod.zero=q.getD m Nod.zero) (hp7:(p.getD k Nod.zero)≠(q.getD k Nod.zero)) (hp8:zar (p.getD k Nod.zero)=0) (hp9:zar (q.getD k Nod.zero)=0) (hg0:Gl 0 [vI 45,vI 33] w) (hg1:Gl 2 (w8C za2) w) (hg2:Gl 3 (zR kA) w) (hg3:Gl 1 [.iface 199 (.agg #[.pointer (some ⟨4,99,none⟩)])] w):
  Calls Tryz.prog 34 #[(.int .i64 n),(vA (zw root)),(vA [(.int .i64 b),(.slice a_p n_p c_p)]),(vA [(.int .i64 d),(.slice a_q n_q c_q)])] w (Ret fun r w'=>∃a0 a1,r=(.tuple #[(.slice (pA a0 0) (zbx (p.getD k Nod.zero)) (zbx (p.getD k Nod.zero))),(.slice (pA a1 0) (zbx (q.getD k Nod.zero)) (zbx (q.getD k Nod.zero))),(vI 0)])∧w.heap.size≤a0∧Blk w' a0 (u8s (zM (p.getD k Nod.zero))) 5∧zbx (p.getD k Nod.zero)=(zM (p.getD k Nod.zero)).length∧zbx (p.getD k Nod.zero)≤1099511627776∧w.heap.size≤a1∧Blk w' a1 (u8s (zM (q.getD k Nod.zero))) 5∧zbx (q.getD k Nod.zero)=(zM (q.getD k Nod.zero)).length∧zbx (q.getD k Nod.zero)≤1099511627776∧Ext w w'):=by
 refine zL (n:=79) (σ:= [(0,(.int .i64 n)),(1,(vA (zw root))),(2,(vA [(.int .i64 b),(.slice a_p n_p c_p)])),(3,(vA [(.int .i64 d),(.slice a_q n_q c_q)]))]) Tryz.func34 rfl ?_
 replace h_p:=h_p.now;have hle_p:=h_p.le
 replace h_q:=h_q.now;have hle_q:=h_q.le
 have hgl0:=hg0.lt
 have hgl1:=hg1.lt
 have hgl2:=hg2.lt
 have hgl3:=hg3.lt
 have hlp:=h_p.len_eq
 have hlq:=h_q.len_eq
 have hle:=h_p.le;have hle2:=h_q.le
 refine zf (ze (zb (zt (some 5) (Instr.box 23 (vA (zw root))) (vP w.heap.size 0) (zw root) 23 ?_)))
 intro w1 hBw1 hEw1
 have hzw1:=hEw1.size;have hlw1:=hBw1.lt
 refine zb (zt (some 6) (Instr.box 26 (vA [(.int .i64 b),(.slice a_p n_p c_p)])) (vP w1.heap.size 0) ([(.int .i64 b),(.slice a_p n_p c_p)]) 26 ?_)
 intro w2 hBw2 hEw2
 have hzw2:=hEw2.size;have hlw2:=hBw2.lt
 refine zb (zt (some 7) (Instr.box 26 (vA [(.int .i64 d),(.slice a_q n_q c_q)])) (vP w2.heap.size 0) ([(.int .i64 d),(.slice a_q n_q c_q)]) 26 ?_)
 intro w3 hBw3 hEw3
 have hzw3:=hEw3.size;have hlw3:=hBw3.lt
 refine zd 3 [(10,(vI 0)),(9,(.slice none 0 0)),(8,(.slice none 0 0))] (zg (zc (zf (ze (zd 1 [(15,(.int .i64 n))] (zb (zj (some 16) (Instr.loadAt 23 (vP w.heap.size 0)) (vA (zw root)) (zD (vs:=zw root) ((((hBw1.ext hEw2)).ext hEw3).all) (by rw [zac];kernel_rfl)) ?_)))))))
 refine zb (zj (some 17) (Instr.loadAt 26 (vP w1.heap.size 0)) (vA [(.int .i64 b),(.slice a_p n_p c_p)]) (zD (vs:= [(.int .i64 b),(.slice a_p n_p c_p)]) ((hBw2.ext hEw3).all)) ?_)
 have hK1:=(((((h_p.ext hEw1)).ext hEw2)).ext hEw3)
 have hK2:=(((((hg0.ext hEw1)).ext hEw2)).ext hEw3)
 have hK3:=(((((hg1.ext hEw1)).ext hEw2)).ext hEw3)
 have hK4:=(((((hg2.ext hEw1)).ext hEw2)).ext hEw3)
 have hK5:=(((((hg3.ext hEw1)).ext hEw2)).ext hEw3)
 refine zb (zi (some 18) (zcN n root b _ hK1 hK2 hK3 hK4 hK5) ?_)
 rintro _ w4 ⟨rfl,hEw4⟩
 have hzw4:=hEw4.size
 rw [show zbu n root b p=0 from hp0]
 refine zd 3 [(20,(vI 0)),(19,(vA (zE (zbs n root b p)))),(14,(.tuple #[(vA (zE (zbs n root b p))),(vI 0)]))] (zb (zt (some 11) (Instr.alloc 33 true (.tuple #[])) (vP w4.heap.size 0) (zE Rec.zero) 33 ?_))
 intro w5 hBw5 hEw5
 have hzw5:=hEw5.size;have hlw5:=hBw5.lt
 refine zb (zz 33 w4.heap.size 0 33 (vA (zE (zbs n root b p))) (zE Rec.zero) (zE (zbs n root b p)) hBw5 (by rw [zY];kernel_rfl) (by first |(simp;done)|(simp;omega)) (zaU _) ?_)
 intro w6 hBw6 hCw6
 have hzw6:=hCw6.size
 rw [zm _ _ (by simp)] at hBw6
 refine zd 1 [(10,(vI 0))] (zg (zc (zf (zf (ze (zd 1 [(21,(vI 0))] (zb (zat (some 22) (((0:Nat):Int) !=((0:Nat):Int)) false (zaL (by omega)) ?_))))))))
 refine zg (zc (zr (zy (zc (zf (ze (zd 1 [(25,(.int .i64 n))] ?_)))))))
 have hK6:=(((((((((hBw1.ext hEw2)).ext hEw3)).ext hEw4)).ext hEw5)).chg hCw6 (fun hs=>by have h:_=_:=hs;omega))
 refine zb (zj (some 26) (Instr.loadAt 23 (vP w.heap.size 0)) (vA (zw root)) (zD (vs:=zw root) (hK6.all) (by rw [zac];kernel_rfl)) ?_)
 have hK7:=(((((hBw3.ext hEw4)).ext hEw5)).chg hCw6 (fun hs=>by have h:_=_:=hs;omega))
 refine zb (zj (some 27) (Instr.loadAt 26 (vP w2.heap.size 0)) (vA [(.int .i64 d),(.slice a_q n_q c_q)]) (zD (vs:= [(.int .i64 d),(.slice a_q n_q c_q)]) (hK7.all)) ?_)
 have hK8:=(((((((((((h_q.ext hEw1)).ext hEw2)).ext hEw3)).ext hEw4)).ext hEw5)).chg hCw6 (fun k h1 h2 hs=>by have h:k=_:=hs;omega))
 have hK9:=(((((hK2.ext hEw4)).ext hEw5)).chg hCw6 (fun hs=>by have h:_=_:=hs;omega))
 have hK10:=(((((hK3.ext hEw4)).ext hEw5)).chg hCw6 (fun hs=>by have h:_=_:=hs;omega))
 have hK11:=(((((hK4.ext hEw4)).ext hEw5)).chg hCw6 (fun hs=>by have h:_=_:=hs;omega))
 have hK12:=(((((hK5.ext hEw4)).ext hEw5)).chg hCw6 (fun hs=>by have h:_=_:=hs;omega))
 refine zb (zi (some 28) (zcN n root d _ hK8 hK9 hK10 hK11 hK12) ?_)
 rintro _ w7 ⟨rfl,hEw7⟩
 have hzw7:=hEw7.size
 rw [show zbu n root d q=0 from hp1]
 refine zd 3 [(30,(vI 0)),(29,(vA (zE (zbs n root d q)))),(24,(.tuple #[(vA (zE (zbs n root d q))),(vI 0)]))] (zb (zt (some 12) (Instr.alloc 33 true (.tuple #[])) (vP w7.heap.size 0) (zE Rec.zero) 33 ?_))
 intro w8 hBw8 hEw8
 have hzw8:=hEw8.size;have hlw8:=hBw8.lt
 refine zb (zz 33 w7.heap.size 0 33 (vA (zE (zbs n root d q))) (zE Rec.zero) (zE (zbs n root d q)) hBw8 (by rw [zY];kernel_rfl) (by first |(simp;done)|(simp;omega)) (zaU _) ?_)
 intro w9 hBw9 hCw9
 have hzw9:=hCw9.size
 rw [zm _ _ (by simp)] at hBw9
 refine zd 1 [(10,(vI 0))] (zg (zc (zf (zI (zf (ze (zd 1 [(32,(vI 0))] (zb (zat (some 33) (((0:Nat):Int) !=((0:Nat):Int)) false (zaL (by omega)) ?_)))))))))
 refine zd 1 [(31,vF)] (zg (zc (zr (zf (ze (zd 1 [(36,(vP w1.heap.size 0))] ?_))))))
 have hK13:=(((((((((((((hBw2.ext hEw3)).ext hEw4)).ext hEw5)).chg hCw6 (fun hs=>by have h:_=_:=hs;omega))).ext hEw7)).ext hEw8)).chg hCw9 (fun hs=>by have h:_=_:=hs;omega))
 refine zb (zj (some 37) (Instr.loadAt 3 (vP w1.heap.size 0)) (.int .i64 b) (zo (hK13.cell rfl)) ?_)
 refine zd 1 [(38,(vP w2.heap.size 0))] ?_
 have hK14:=(((((hK7.ext hEw7)).ext hEw8)).chg hCw9 (fun hs=>by have h:_=_:=hs;omega))
 refine zb (zj (some 39) (Instr.loadAt 3 (vP w2.heap.size 0)) (.int .i64 d) (zo (hK14.cell rfl)) ?_)
 refine zb (zat (some 40) (b !=d) false (zaL (by omega)) ?_)
 refine zd 1 [(35,vF)] (zg (zc (zr (zf (ze ?_)))))
 have hK15:=(((((hBw6.ext hEw7)).ext hEw8)).chg hCw9 (fun hs=>by have h:_=_:=hs;omega))
 refine zb (zj (some 42) (Instr.loadAt 33 (vP w4.heap.size 0)) (vA (zE (zbs n root b p))) (zD (vs:=zE (zbs n root b p)) (hK15.all) (by rw [zY];kernel_rfl)) ?_)
 refine zb (zj (some 43) (Instr.loadAt 33 (vP w7.heap.size 0)) (vA (zE (zbs n root d q))) (zD (vs:=zE (zbs n root d q)) (hBw9.all) (by rw [zY];kernel_rfl)) ?_)
 refine zb (zj (some 44) (bo .eql 33 (.tmp 42) (.tmp 43) (vA (zE (zbs n root b p))) (vA (zE (zbs n root d q)))) vF (zhE (r:=false) (T:=33) ((zb8 (dd:=9997) (t:=33) (t8:=5) (tn:=31) (td:=23) (e:=5) (t32:=28) (t64:=29) (zbs n root b p) (zbs n root d q)).trans (congrArg (fun b=>Result.ok b _) (show ((zbs n root b p).eqb (zbs n root d q))=false from Bool.eq_false_iff.2 (fun hh=>hp3 ((Rec.eqb_iff _ _).1 hh)))))) ?_)
 refine zd 1 [(41,vF)] (zg (zc (zr (zy (zp (zc (zf (ze (zd 1 [(13,(vI 0))] ?_)))))))))
 refine zg (zc (zf (zI (zah (X:=Nat) (fun i=> [(13,(vI i))]) [45,46,47,48,49,50,51,52,53,54,55,56,57] (fun i w10=>i≤k∧Ext w9 w10) (fun i=>k-i) 0 (by kernel_rfl) ⟨Nat.zero_le _,Ext.refl _⟩ ?_))))
 rintro i dw10 w10 ⟨hi,hEl⟩
 have hzl:=hEl.size
 refine zf (zf (zag (Ext w10.drew) 11 [(46,64,0),(47,35184372088832,1),(48,8192,0),(49,211106232532992,6),(50,281474976710656,8),(51,128,0),(52,1125899906842624,32),(53,8192,0),(54,6755399441055744,192),(55,9007199254740992,256),(56,18577348462903296,528)] (fun hT387=> ?_)))
 have hEw11:Ext w10 w10.drew:=Ext.drew w10
 generalize w10.drew=w11 at hEw11⊢
 have hzw11:=hEw11.size
 refine zk hT387 [(0,45,(vP w1.heap.size 1))] 1 1 (zh hT387 1 3 (some 46) (.slice a_p n_p c_p) (zl (Instr.loadAt 24 (vP w1.heap.size 1)) (fun w' hC=>zo (((((hK13.ext hEl)).ext hEw11).ext hC).cell rfl))) (zk hT387 [(2,47,(vI i))] 1 7 ?_))
 obtain ⟨b1,o1,rfl⟩:=hK1.addr (by omega) (by decide)
 refine zh hT387 3 15 (some 48) (vP b1 (o1+i*274)) (zl (Instr.indexAt 24 (.slice (pA b1 o1) n_p c_p) (vI i)) (fun w' hC=>zap (E:=47) (sz:=274) (by omega))) ?_
 have hK16:=(((((((((((((((hK1.ext hEw4)).ext hEw5)).chg hCw6 (fun k h1 h2 hs=>by have h:k=_:=hs;omega))).ext hEw7)).ext hEw8)).chg hCw9 (fun k h1 h2 hs=>by have h:k=_:=hs;omega))).ext hEl)).ext hEw11)
 refine zh hT387 4 31 (some 49) (vA (zK (p.getD i Nod.zero))) (zl (Instr.loadAt 47 (vP b1 (o1+i*274))) (fun w' hC=>zD (vs:=zK (p.getD i Nod.zero)) ((hK16.ext hC).at Nod.zero (by omega)) (by rw [zW];kernel_rfl))) (zk hT387 [(5,50,(vP w2.heap.size 1))] 1 63 (zh hT387 6 127 (some 51) (.slice a_q n_q c_q) (zl (Instr.loadAt 24 (vP w2.heap.size 1)) (fun w' hC=>zo (((((hK14.ext hEl)).ext hEw11).ext hC).cell rfl))) (zk hT387 [(7,52,(vI i))] 1 255 ?_)))
 obtain ⟨b2,o2,rfl⟩:=hK8.addr (by omega) (by decide)
 refine zh hT387 8 511 (some 53) (vP b2 (o2+i*274)) (zl (Instr.indexAt 24 (.slice (pA b2 o2) n_q c_q) (vI i)) (fun w' hC=>zap (E:=47) (sz:=274) (by omega))) ?_
 have hK17:=(((((((((hK8.ext hEw7)).ext hEw8)).chg hCw9 (fun k h1 h2 hs=>by have h:k=_:=hs;omega))).ext hEl)).ext hEw11)
 refine zh hT387 9 1023 (some 54) (vA (zK (q.getD i Nod.zero))) (zl (Instr.loadAt 47 (vP b2 (o2+i*274))) (fun w' hC=>zD (vs:=zK (q.getD i Nod.zero)) ((hK17.ext hC).at Nod.zero (by omega)) (by rw [zW];kernel_rfl))) ?_
 rcases (show i<k∨i=k by omega) with hik | hik
 ·refine zh hT387 10 2047 (some 55) vT (zl (bo .eql 47 (.tmp 49) (.tmp 54) (vA (zK (p.getD i Nod.zero))) (vA (zK (q.getD i Nod.zero)))) (fun w' hC=>zhE (r:=true) (T:=47) ((zhl (dd:=9995) (N:=47) (R:=42) (E:=45) (r:=33) (en:=44) (t8:=5) (td:=23) (e:=5) (tn:=31) (t32:=28) (t64:=29) (p.getD i Nod.zero) (q.getD i Nod.zero)).trans (congrArg (fun b=>Result.ok b _) (show ((p.getD i Nod.zero).eqb (q.getD i Nod.zero))=true from (Nod.eqb_iff _ _).2 (hp6 i hik)))))) (zJ (zc (zF (zy (zc (zI (ze (zd 1 [(56,(vI i))] (zb (zv (some 57) .i64 (IntKind.i64.wrap (((i:Nat):Int)+((1:Nat):Int))) (i+1) (zG (by omega) (by omega) (by omega)) ?_))))))))))
  refine zd 1 [(13,(vI (i+1)))] (zg (zp (zC (zS (i+1) ?_ ?_))))
  ·exact ⟨by omega,(hEl.trans hEw11)⟩
  ·first | omega |(dsimp only;omega)
 ·have hc8:zar (p.getD i Nod.zero)=0:=by rw [hik];exact hp8
  have hc9:zar (q.getD i Nod.zero)=0:=by rw [hik];exact hp9
  refine zh hT387 10 2047 (some 55) vF (zl (bo .eql 47 (.tmp 49) (.tmp 54) (vA (zK (p.getD i Nod.zero))) (vA (zK (q.getD i Nod.zero)))) (fun w' hC=>zhE (r:=false) (T:=47) ((zhl (dd:=9995) (N:=47) (R:=42) (E:=45) (r:=33) (en:=44) (t8:=5) (td:=23) (e:=5) (tn:=31) (t32:=28) (t64:=29) (p.getD i Nod.zero) (q.getD i Nod.zero)).trans (congrArg (fun b=>Result.ok b _) (show ((p.getD i Nod.zero).eqb (q.getD i Nod.zero))=false from Bool.eq_false_iff.2 (fun hh=>hp7 (by have hz:=(Nod.eqb_iff _ _).1 hh;rw [hik] at hz;exact hz))))))) (zJ (zc (zr (zaf (zH (zH (zT (zc (zf ?_)))))))))
  refine ze (zd 1 [(59,(vP w1.heap.size 1))] (zb (zj (some 60) (Instr.loadAt 24 (vP w1.heap.size 1)) (.slice (pA b1 o1) n_p c_p) (zo ((((hK13.ext hEl)).ext hEw11).cell rfl)) ?_)))
  refine zd 1 [(61,(vI i))] (zb (zj (some 62) (Instr.indexAt 24 (.slice (pA b1 o1) n_p c_p) (vI i)) (vP b1 (o1+i*274)) (zap (E:=47) (sz:=274) (by omega)) ?_))
  refine zb (zj (some 63) (Instr.loadAt 47 (vP b1 (o1+i*274))) (vA (zK (p.getD i Nod.zero))) (zD (vs:=zK (p.getD i Nod.zero)) (hK16.at Nod.zero (by omega)) (by rw [zW];kernel_rfl)) ?_)
  have hK18:=(((((((((hK9.ext hEw7)).ext hEw8)).chg hCw9 (fun hs=>by have h:_=_:=hs;omega))).ext hEl)).ext hEw11)
  refine zb (zi (some 64) (zra (p.getD i Nod.zero) _ (by assumption) hK18) ?_)
  rintro _ w12 ⟨a1,rfl,hFz3_0,hFz3_1,hFz3_2,hFz3_3,hEw12⟩
  have hzw12:=hEw12.size
  have hla1:=hFz3_1.lt;have hna1:=hFz3_3
  have hSa1:Bs a1 (a1+1) w12 (pA a1 0) (zbx (p.getD i Nod.zero)) (zbx (p.getD i Nod.zero)) (zM (p.getD i Nod.zero)):=Bs.of_blk hFz3_1 rfl hFz3_2 (Nat.le_refl _) (zbV hna1) (Nat.le_refl _) (Nat.lt_succ_self _)
  refine zd 4 [(8,(.slice (pA a1 0) (zbx (p.getD i Nod.zero)) (zbx (p.getD i Nod.zero)))),(66,(vI 0)),(65,(.slice (pA a1 0) (zbx (p.getD i Nod.zero)) (zbx (p.getD i Nod.zero)))),(58,(.tuple #[(.slice (pA a1 0) (zbx (p.getD i Nod.zero)) (zbx (p.getD i Nod.zero))),(vI 0)]))] (zg (zc (zf (ze (zd 1 [(68,(vP w2.heap.size 1))] ?_)))))
  have hK19:=(((((hK14.ext hEl)).ext hEw11)).ext hEw12)
  refine zb (zj (some 69) (Instr.loadAt 24 (vP w2.heap.size 1)) (.slice (pA b2 o2) n_q c_q) (zo (hK19.cell rfl)) ?_)
  refine zd 1 [(70,(vI i))] (zb (zj (some 71) (Instr.indexAt 24 (.slice (pA b2 o2) n_q c_q) (vI i)) (vP b2 (o2+i*274)) (zap (E:=47) (sz:=274) (by omega)) ?_))
  refine zb (zj (some 72) (Instr.loadAt 47 (vP b2 (o2+i*274))) (vA (zK (q.getD i Nod.zero))) (zD (vs:=zK (q.getD i Nod.zero)) ((hK17.ext hEw12).at Nod.zero (by omega)) (by rw [zW];kernel_rfl)) ?_)
  refine zb (zi (some 73) (zra (q.getD i Nod.zero) _ (by assumption) (hK18.ext hEw12)) ?_)
  rintro _ w13 ⟨a2,rfl,hFz4_0,hFz4_1,hFz4_2,hFz4_3,hEw13⟩
  have hzw13:=hEw13.size
  have hla2:=hFz4_1.lt;have hna2:=hFz4_3
  have hSa2:Bs a2 (a2+1) w13 (pA a2 0) (zbx (q.getD i Nod.zero)) (zbx (q.getD i Nod.zero)) (zM (q.getD i Nod.zero)):=Bs.of_blk hFz4_1 rfl hFz4_2 (Nat.le_refl _) (zbV hna2) (Nat.le_refl _) (Nat.lt_succ_self _)
  refine zd 5 [(10,(vI 0)),(9,(.slice (pA a2 0) (zbx (q.getD i Nod.zero)) (zbx (q.getD i Nod.zero)))),(75,(vI 0)),(74,(.slice (pA a2 0) (zbx (q.getD i Nod.zero)) (zbx (q.getD i Nod.zero)))),(67,(.tuple #[(.slice (pA a2 0) (zbx (q.getD i Nod.zero)) (zbx (q.getD i Nod.zero))),(vI 0)]))] (zg (zc (zf (ze (zd 6 [(10,(vI 0)),(9,(.slice (pA a2 0) (zbx (q.getD i Nod.zero)) (zbx (q.getD i Nod.zero)))),(8,(.slice (pA a1 0) (zbx (p.getD i Nod.zero)) (zbx (p.getD i Nod.zero)))),(78,(vI 0)),(77,(.slice (pA a2 0) (zbx (q.getD i Nod.zero)) (zbx (q.getD i Nod.zero)))),(76,(.slice (pA a1 0) (zbx (p.getD i Nod.zero)) (zbx (p.getD i Nod.zero))))] (zg (zc (zx (zB (.tuple #[(.slice (pA a1 0) (zbx (p.getD i Nod.zero)) (zbx (p.getD i Nod.zero))),(.slice (pA a2 0) (zbx (q.getD i Nod.zero)) (zbx (q.getD i Nod.zero))),(vI 0)]) ?_)))))))))
  have hX1:Ext w w13:=(((((Ext.own (((Ext.own ((((hEw1.trans hEw2).trans hEw3).trans hEw4).trans hEw5) hCw6 (by omega)).trans hEw7).trans hEw8) hCw9 (by omega)).trans hEl).trans hEw11).trans hEw12).trans hEw13)
  subst hik
  exact ⟨_,_,rfl,by omega,(hFz3_1.ext hEw13),(zqT _).symm,by unfold zbx;split<;>decide,by omega,hFz4_1,(zqT _).symm,by unfold zbx;split<;>decide,hX1⟩
theorem zwB {lo_x hi_x:Nat} {a_x:Option Addr} {n_x c_x:Nat} {x:List UInt8} {lo_y hi_y:Nat} {a_y:Option Addr} {n_y c_y:Nat} {y:List UInt8} (w:World) (h_x:Bs lo_x hi_x w a_x n_x c_x x) (h_y:Bs lo_y hi_y w a_y n_y c_y y) (hp0:x≠y) (hp1:137≤n_x) (hp2:137≤n_y) (hp3:n_x≤1000) (hp4:n_y≤1000) (hp5:(zN x).l=(zN y).l):
  Calls Tryz.prog 35 #[(.slice a_x n_x c_x),(.slice a_y n_y c_y)] w (Ret fun r w'=>r=(vI 1)∧Ext w w'):=by
 refine zL (n:=27) (σ:= [(0,(.slice a_x n_x c_x)),(1,(.slice a_y n_y c_y))]) Tryz.func35 rfl ?_
 replace h_x:=h_x.now;have hle_x:=h_x.le
 replace h_y:=h_y.now;have hle_y:=h_y.le
 refine zf (ze (zd 1 [(4,(vI 0))] (zg (zc (zf (zf (ze (zd 1 [(5,(.slice a_x n_x c_x))] (zb (zj (some 6) (convert 57 9 (.slice a_x n_x c_x)) (.string ⟨(x).toArray⟩) (zrO 5 h_x) ?_))))))))))
 refine zd 1 [(7,(.slice a_y n_y c_y))] (zb (zj (some 8) (convert 57 9 (.slice a_y n_y c_y)) (.string ⟨(y).toArray⟩) (zrO 5 h_y) ?_))
 refine zb (zat (some 9) ((⟨(x).toArray⟩:ByteArray).toList==(⟨(y).toArray⟩:ByteArray).toList) false (ztD (hp0)) ?_)
 refine zd 3 [(12,(vI n_x)),(11,(.slice a_x n_x c_x)),(10,vF)] (zb (zat (some 13) (decide (((n_x:Nat):Int)<((137:Nat):Int))) false (zce (by omega)) ?_))
 refine zd 4 [(17,(vI n_y)),(16,(.slice a_y n_y c_y)),(15,vF),(14,vF)] (zb (zat (some 18) (decide (((n_y:Nat):Int)<((137:Nat):Int))) false (zce (by omega)) ?_))
 refine zd 3 [(21,(.slice a_x n_x c_x)),(20,vF),(19,vF)] (zb (zi (some 22) (zrn _ h_x (by first | omega | decide)) ?_))
 rintro _ w1 ⟨rfl,hEw1⟩
 have hzw1:=hEw1.size
 refine zd 1 [(23,(.slice a_y n_y c_y))] (zb (zi (some 24) (zrn _ (h_y.ext hEw1) (by first | omega | decide)) ?_))
 rintro _ w2 ⟨rfl,hEw2⟩
 have hzw2:=hEw2.size
 refine zb (zj (some 25) (bo .neq 23 (.tmp 22) (.tmp 24) (vA (zw (zN x))) (vA (zw (zN y)))) vF (zav (r:=true) (T:=23) ((zbj (dd:=9998) (t:=23) (e:=5) (zN x) (zN y)).trans (congrArg (fun b=>Result.ok b _) (show ((zN x).l==(zN y).l)=true from beq_iff_eq.2 hp5)))) ?_)
 refine zd 1 [(26,vF)] (zg (zc (zr (zy (zc (zf (ze (zd 1 [(4,(vI 1))] (zg ?_)))))))))
 exact zc (zx (zB (vI 1) (⟨rfl,(hEw1.trans hEw2)⟩)))
end Go.Proofs.YtgdpdnokcnhgnaaGreatDoor
namespace Go.Proofs.YtgdpdnokcnhgnaaGreatDoor
open Go Go.RowKit Go.Cs
set_option maxRecDepth 100000
set_option maxHeartbeats 4000000 in
theorem zmt (w:World) (hg0:Gl 0 [vI 45,vI 33] w) (hg1:Gl 2 (w8C za2) w) (hg2:Gl 3 (zR kA) w) (hg3:Gl 1 [.iface 199 (.agg #[.pointer (some ⟨4,99,none⟩)])] w):
  Calls Tryz.prog 11 #[] w (Ret fun r w'=>r=vT∧Ext w w'):=by
 refine zL (n:=149) (σ:= []) Tryz.func11 rfl ?_
 have hgl0:=hg0.lt
 have hgl1:=hg1.lt
 have hgl2:=hg2.lt
 have hgl3:=hg3.lt
 have ht5:tot 5=3:=by decide
 have ht1:tot 1=1:=by decide
 refine zf (ze (zd 1 [(0,vF)] (zg (zc (zf (ze (zb (zi (some 16) (zoF 1 7 _ (by first | omega | decide) (by first | omega | decide)) ?_))))))))
 rintro _ w1 ⟨rfl,hEw1⟩
 have hzw1:=hEw1.size
 refine zb (zt (some 1) (Instr.alloc 33 true (.tuple #[])) (vP w1.heap.size 0) (zE Rec.zero) 33 ?_)
 intro w2 hBw2 hEw2
 have hzw2:=hEw2.size;have hlw2:=hBw2.lt
 refine zb (zz 33 w1.heap.size 0 33 (vA (zE (mkR 1 7))) (zE Rec.zero) (zE (mkR 1 7)) hBw2 (by rw [zY];kernel_rfl) (by first |(simp;done)|(simp;omega)) (zaU _) ?_)
 intro w3 hBw3 hCw3
 have hzw3:=hCw3.size
 rw [zm _ _ (by simp)] at hBw3
 refine zg (zc (zf (ze (zd 1 [(18,(vA (zE Rec.zero)))] (zb (zt (some 19) (Instr.buildSlice 39 1 #[(0,(vA (zE Rec.zero)))]) (.slice (pA w3.heap.size 0) 1 1) (([Rec.zero]:List Rec).flatMap zE) 33 ?_ (hr:=zgw (f:=zE) (sz:=35) (z:=(vA (zE Rec.zero))) [Rec.zero] zY (by decide) rfl (Nat.succ_pos _) (show 35≤2^24 from by decide) rfl)))))))
 intro w4 hBw4 hEw4
 have hzw4:=hEw4.size;have hlw4:=hBw4.lt
 have hmw4:Ms zE 35 w3.heap.size (w3.heap.size+1) w4 (pA w3.heap.size 0) 1 1 [Rec.zero]:=Ms.of_pre (r:= []) (by rw [List.append_nil];exact hBw4) zY rfl (Nat.le_refl _) (by decide) (Nat.le_refl _) (Nat.lt_succ_self _)
 refine zb (zt (some 20) (Instr.buildSlice 40 1 #[(0,(vI 0))]) (.slice (pA w4.heap.size 0) 1 1) [(vI 0)] 3 ?_)
 intro w5 hBw5 hEw5
 have hzw5:=hEw5.size;have hlw5:=hBw5.lt
 have hSw5:Es (nv .i64) w4.heap.size (w4.heap.size+1) w5 (pA w4.heap.size 0) 1 1 ([0]):=Es.of_blk hBw5 rfl rfl (Nat.le_refl _) (by decide) (Nat.le_refl _) (Nat.lt_succ_self _)
 have hK1:=(((((((((hg0.ext hEw1)).ext hEw2)).chg hCw3 (fun hs=>by have h:_=_:=hs;omega))).ext hEw4)).ext hEw5)
 have hK2:=(((((((((hg1.ext hEw1)).ext hEw2)).chg hCw3 (fun hs=>by have h:_=_:=hs;omega))).ext hEw4)).ext hEw5)
 have hK3:=(((((((((hg2.ext hEw1)).ext hEw2)).chg hCw3 (fun hs=>by have h:_=_:=hs;omega))).ext hEw4)).ext hEw5)
 refine zb (zi (some 21) (zh6 1 _ (hmw4.ext hEw5) hSw5 (znf) (by first | omega | decide) hK1 hK2 hK3) ?_)
 rintro _ w6 ⟨a1,rfl,hFz2_0,hEw6⟩
 have hzw6:=hEw6.size
 have hma1:=hFz2_0.ms;have hlea1:=hma1.le
 refine zd 3 [(23,(vI 0)),(22,(vA [(vI 1),(.slice a1 (tot 1) (tot 1))])),(17,(.tuple #[(vA [(vI 1),(.slice a1 (tot 1) (tot 1))]),(vI 0)]))] (zb (zt (some 2) (Instr.alloc 50 true (.tuple #[])) (vP w6.heap.size 0) ([(vI 0),(.slice none 0 0)]) 50 ?_))
 intro w7 hBw7 hEw7
 have hzw7:=hEw7.size;have hlw7:=hBw7.lt
 refine zb (zz 50 w6.heap.size 0 50 (vA [(vI 1),(.slice a1 (tot 1) (tot 1))]) ([(vI 0),(.slice none 0 0)]) ([(vI 1),(.slice a1 (tot 1) (tot 1))]) hBw7 (by kernel_rfl) (by first | decide |(simp;done)|(simp;omega)) (by simp [Value.oneCell']) ?_)
 intro w8 hBw8 hCw8
 have hzw8:=hCw8.size
 rw [zm _ _ (by kernel_rfl)] at hBw8
 refine zd 1 [(3,(vI 0))] (zg (zc (zf (ze (zb (zj (some 25) (Instr.loadAt 50 (vP w6.heap.size 0)) (vA [(vI 1),(.slice a1 (tot 1) (tot 1))]) (zD (vs:= [(vI 1),(.slice a1 (tot 1) (tot 1))]) (hBw8.all)) ?_))))))
 have hK4:=(((((hK1.ext hEw6)).ext hEw7)).chg hCw8 (fun hs=>by have h:_=_:=hs;omega))
 have hK5:=(((((hK2.ext hEw6)).ext hEw7)).chg hCw8 (fun hs=>by have h:_=_:=hs;omega))
 have hK6:=(((((hK3.ext hEw6)).ext hEw7)).chg hCw8 (fun hs=>by have h:_=_:=hs;omega))
 have hK7:=(((((((((((((((hg3.ext hEw1)).ext hEw2)).chg hCw3 (fun hs=>by have h:_=_:=hs;omega))).ext hEw4)).ext hEw5)).ext hEw6)).ext hEw7)).chg hCw8 (fun hs=>by have h:_=_:=hs;omega))
 refine zb (zi (some 26) (zeP 1 _ (((hma1.ext hEw7)).chg hCw8 (fun k h1 h2 hs=>by have h:k=_:=hs;omega)) (by first | omega | decide) (by first | omega | decide) (rfl) (zcE znf) hK4 hK5 hK6 hK7) ?_)
 rintro _ w9 ⟨rfl,hEw9⟩
 have hzw9:=hEw9.size
 rw [show ((zaa ([Rec.zero]) ([0])).getD (num 1 (hgt 1)) Nod.zero)=Nod.zero from zpu]
 refine zd 3 [(28,(vI 0)),(27,(vA (zw (zN (zM Nod.zero))))),(24,(.tuple #[(vA (zw (zN (zM Nod.zero)))),(vI 0)]))] (zb (zt (some 4) (Instr.alloc 23 true (.tuple #[])) (vP w9.heap.size 0) (zw Dig.zero) 23 ?_))
 intro w10 hBw10 hEw10
 have hzw10:=hEw10.size;have hlw10:=hBw10.lt
 refine zb (zz 23 w9.heap.size 0 23 (vA (zw (zN (zM Nod.zero)))) (zw Dig.zero) (zw (zN (zM Nod.zero))) hBw10 (by rw [zac];kernel_rfl) (by first |(simp;done)|(simp;omega)) (zaT _) ?_)
 intro w11 hBw11 hCw11
 have hzw11:=hCw11.size
 rw [zm _ _ (by simp)] at hBw11
 refine zd 1 [(5,(vI 0))] (zg (zc (zf (ze ?_))))
 have hK8:=(((((((((((((((hBw3.ext hEw4)).ext hEw5)).ext hEw6)).ext hEw7)).chg hCw8 (fun hs=>by have h:_=_:=hs;omega))).ext hEw9)).ext hEw10)).chg hCw11 (fun hs=>by have h:_=_:=hs;omega))
 refine zb (zj (some 30) (Instr.loadAt 33 (vP w1.heap.size 0)) (vA (zE (mkR 1 7))) (zD (vs:=zE (mkR 1 7)) (hK8.all) (by rw [zY];kernel_rfl)) ?_)
 refine zd 4 [(34,(vA (zE Rec.zero))),(33,(vA (zE Rec.zero))),(32,(vA (zE Rec.zero))),(31,(vA (zE Rec.zero)))] (zb (zt (some 35) (Instr.buildSlice 39 5 #[(0,(vA (zE (mkR 1 7)))),(1,(vA (zE Rec.zero))),(2,(vA (zE Rec.zero))),(3,(vA (zE Rec.zero))),(4,(vA (zE Rec.zero)))]) (.slice (pA w11.heap.size 0) 5 5) (([(mkR 1 7),Rec.zero,Rec.zero,Rec.zero,Rec.zero]:List Rec).flatMap zE) 33 ?_ (hr:=zgw (f:=zE) (sz:=35) (z:=(vA (zE Rec.zero))) [(mkR 1 7),Rec.zero,Rec.zero,Rec.zero,Rec.zero] zY (by decide) rfl (Nat.succ_pos _) (show 175≤2^24 from by decide) rfl)))
 intro w12 hBw12 hEw12
 have hzw12:=hEw12.size;have hlw12:=hBw12.lt
 have hmw12:Ms zE 35 w11.heap.size (w11.heap.size+1) w12 (pA w11.heap.size 0) 5 5 [(mkR 1 7),Rec.zero,Rec.zero,Rec.zero,Rec.zero]:=Ms.of_pre (r:= []) (by rw [List.append_nil];exact hBw12) zY rfl (Nat.le_refl _) (by decide) (Nat.le_refl _) (Nat.lt_succ_self _)
 refine zb (zt (some 36) (Instr.buildSlice 40 3 #[(0,(vI 1)),(1,(vI 0)),(2,(vI 0))]) (.slice (pA w12.heap.size 0) 3 3) [(vI 1),(vI 0),(vI 0)] 3 ?_)
 intro w13 hBw13 hEw13
 have hzw13:=hEw13.size;have hlw13:=hBw13.lt
 have hSw13:Es (nv .i64) w12.heap.size (w12.heap.size+1) w13 (pA w12.heap.size 0) 3 3 ([1,0,0]):=Es.of_blk hBw13 rfl rfl (Nat.le_refl _) (by decide) (Nat.le_refl _) (Nat.lt_succ_self _)
 have hK9:=(((((((((hK4.ext hEw9)).ext hEw10)).chg hCw11 (fun hs=>by have h:_=_:=hs;omega))).ext hEw12)).ext hEw13)
 have hK10:=(((((((((hK5.ext hEw9)).ext hEw10)).chg hCw11 (fun hs=>by have h:_=_:=hs;omega))).ext hEw12)).ext hEw13)
 have hK11:=(((((((((hK6.ext hEw9)).ext hEw10)).chg hCw11 (fun hs=>by have h:_=_:=hs;omega))).ext hEw12)).ext hEw13)
 refine zb (zi (some 37) (zh6 5 _ (hmw12.ext hEw13) hSw13 (zeN (zbg 1 7)) (by first | omega | decide) hK9 hK10 hK11) ?_)
 rintro _ w14 ⟨a2,rfl,hFz4_0,hEw14⟩
 have hzw14:=hEw14.size
 have hma2:=hFz4_0.ms;have hlea2:=hma2.le
 refine zd 3 [(39,(vI 0)),(38,(vA [(vI 5),(.slice a2 (tot 5) (tot 5))])),(29,(.tuple #[(vA [(vI 5),(.slice a2 (tot 5) (tot 5))]),(vI 0)]))] (zb (zt (some 6) (Instr.alloc 50 true (.tuple #[])) (vP w14.heap.size 0) ([(vI 0),(.slice none 0 0)]) 50 ?_))
 intro w15 hBw15 hEw15
 have hzw15:=hEw15.size;have hlw15:=hBw15.lt
 refine zb (zz 50 w14.heap.size 0 50 (vA [(vI 5),(.slice a2 (tot 5) (tot 5))]) ([(vI 0),(.slice none 0 0)]) ([(vI 5),(.slice a2 (tot 5) (tot 5))]) hBw15 (by kernel_rfl) (by first | decide |(simp;done)|(simp;omega)) (by simp [Value.oneCell']) ?_)
 intro w16 hBw16 hCw16
 have hzw16:=hCw16.size
 rw [zm _ _ (by kernel_rfl)] at hBw16
 refine zd 1 [(7,(vI 0))] (zg (zc (zf (ze (zb (zj (some 41) (Instr.loadAt 50 (vP w14.heap.size 0)) (vA [(vI 5),(.slice a2 (tot 5) (tot 5))]) (zD (vs:= [(vI 5),(.slice a2 (tot 5) (tot 5))]) (hBw16.all)) ?_))))))
 have hK12:=(((((hK9.ext hEw14)).ext hEw15)).chg hCw16 (fun hs=>by have h:_=_:=hs;omega))
 have hK13:=(((((hK10.ext hEw14)).ext hEw15)).chg hCw16 (fun hs=>by have h:_=_:=hs;omega))
 have hK14:=(((((hK11.ext hEw14)).ext hEw15)).chg hCw16 (fun hs=>by have h:_=_:=hs;omega))
 have hK15:=(((((((((((((((hK7.ext hEw9)).ext hEw10)).chg hCw11 (fun hs=>by have h:_=_:=hs;omega))).ext hEw12)).ext hEw13)).ext hEw14)).ext hEw15)).chg hCw16 (fun hs=>by have h:_=_:=hs;omega))
 refine zb (zi (some 42) (zgC 5 0 _ (((hma2.ext hEw15)).chg hCw16 (fun k h1 h2 hs=>by have h:k=_:=hs;omega)) (by first | omega | decide) (by first | omega | decide) (rfl) (zcE (zeN (zbg 1 7))) (by first | omega | decide) hK12 hK13 hK14 hK15) ?_)
 rintro _ w17 ⟨a3,rfl,hFz5_0,hEw17⟩
 have hzw17:=hEw17.size
 have hlea3:=hFz5_0.le
 rw [show mny 5 (zaa ([(mkR 1 7),Rec.zero,Rec.zero,Rec.zero,Rec.zero]) ([1,0,0])) 0=2 from zfD (zbg 1 7) (show (mkR 1 7).st≠0 by decide)] at hFz5_0
 rw [show mny 5 (zaa ([(mkR 1 7),Rec.zero,Rec.zero,Rec.zero,Rec.zero]) ([1,0,0])) 0=2 from zfD (zbg 1 7) (show (mkR 1 7).st≠0 by decide)]
 refine zd 3 [(44,(vI 0)),(43,(vA [(vI 0),(.slice a3 2 2)])),(40,(.tuple #[(vA [(vI 0),(.slice a3 2 2)]),(vI 0)]))] (zb (zt (some 8) (Instr.alloc 26 true (.tuple #[])) (vP w17.heap.size 0) ([(vI 0),(.slice none 0 0)]) 26 ?_))
 intro w18 hBw18 hEw18
 have hzw18:=hEw18.size;have hlw18:=hBw18.lt
 refine zb (zz 26 w17.heap.size 0 26 (vA [(vI 0),(.slice a3 2 2)]) ([(vI 0),(.slice none 0 0)]) ([(vI 0),(.slice a3 2 2)]) hBw18 (by kernel_rfl) (by first | decide |(simp;done)|(simp;omega)) (by simp [Value.oneCell']) ?_)
 intro w19 hBw19 hCw19
 have hzw19:=hCw19.size
 rw [zm _ _ (by kernel_rfl)] at hBw19
 refine zd 1 [(9,(vI 0))] (zg (zc (zf (ze ?_))))
 have hK16:=(((((hBw16.ext hEw17)).ext hEw18)).chg hCw19 (fun hs=>by have h:_=_:=hs;omega))
 refine zb (zj (some 46) (Instr.loadAt 50 (vP w14.heap.size 0)) (vA [(vI 5),(.slice a2 (tot 5) (tot 5))]) (zD (vs:= [(vI 5),(.slice a2 (tot 5) (tot 5))]) (hK16.all)) ?_)
 have hK17:=(((((((((hma2.ext hEw15)).chg hCw16 (fun k h1 h2 hs=>by have h:k=_:=hs;omega))).ext hEw17)).ext hEw18)).chg hCw19 (fun k h1 h2 hs=>by have h:k=_:=hs;omega))
 have hK18:=(((((hK12.ext hEw17)).ext hEw18)).chg hCw19 (fun hs=>by have h:_=_:=hs;omega))
 have hK19:=(((((hK13.ext hEw17)).ext hEw18)).chg hCw19 (fun hs=>by have h:_=_:=hs;omega))
 have hK20:=(((((hK14.ext hEw17)).ext hEw18)).chg hCw19 (fun hs=>by have h:_=_:=hs;omega))
 have hK21:=(((((hK15.ext hEw17)).ext hEw18)).chg hCw19 (fun hs=>by have h:_=_:=hs;omega))
 refine zb (zi (some 47) (zgC 5 4 _ hK17 (by first | omega | decide) (by first | omega | decide) (rfl) (zcE (zeN (zbg 1 7))) (by first | omega | decide) hK18 hK19 hK20 hK21) ?_)
 rintro _ w20 ⟨a4,rfl,hFz6_0,hEw20⟩
 have hzw20:=hEw20.size
 have hlea4:=hFz6_0.le
 rw [show mny 5 (zaa ([(mkR 1 7),Rec.zero,Rec.zero,Rec.zero,Rec.zero]) ([1,0,0])) 4=1 from zfE (zbg 1 7)] at hFz6_0
 rw [show mny 5 (zaa ([(mkR 1 7),Rec.zero,Rec.zero,Rec.zero,Rec.zero]) ([1,0,0])) 4=1 from zfE (zbg 1 7)]
 refine zd 3 [(49,(vI 0)),(48,(vA [(vI 4),(.slice a4 1 1)])),(45,(.tuple #[(vA [(vI 4),(.slice a4 1 1)]),(vI 0)]))] (zb (zt (some 10) (Instr.alloc 26 true (.tuple #[])) (vP w20.heap.size 0) ([(vI 0),(.slice none 0 0)]) 26 ?_))
 intro w21 hBw21 hEw21
 have hzw21:=hEw21.size;have hlw21:=hBw21.lt
 refine zb (zz 26 w20.heap.size 0 26 (vA [(vI 4),(.slice a4 1 1)]) ([(vI 0),(.slice none 0 0)]) ([(vI 4),(.slice a4 1 1)]) hBw21 (by kernel_rfl) (by first | decide |(simp;done)|(simp;omega)) (by simp [Value.oneCell']) ?_)
 intro w22 hBw22 hCw22
 have hzw22:=hCw22.size
 rw [zm _ _ (by kernel_rfl)] at hBw22
 refine zd 1 [(11,(vI 0))] (zg (zc (zf (ze ?_))))
 have hK22:=(((((hK16.ext hEw20)).ext hEw21)).chg hCw22 (fun hs=>by have h:_=_:=hs;omega))
 refine zb (zj (some 51) (Instr.loadAt 50 (vP w14.heap.size 0)) (vA [(vI 5),(.slice a2 (tot 5) (tot 5))]) (zD (vs:= [(vI 5),(.slice a2 (tot 5) (tot 5))]) (hK22.all)) ?_)
 have hK23:=(((((hK17.ext hEw20)).ext hEw21)).chg hCw22 (fun k h1 h2 hs=>by have h:k=_:=hs;omega))
 have hK24:=(((((hK18.ext hEw20)).ext hEw21)).chg hCw22 (fun hs=>by have h:_=_:=hs;omega))
 have hK25:=(((((hK19.ext hEw20)).ext hEw21)).chg hCw22 (fun hs=>by have h:_=_:=hs;omega))
 have hK26:=(((((hK20.ext hEw20)).ext hEw21)).chg hCw22 (fun hs=>by have h:_=_:=hs;omega))
 have hK27:=(((((hK21.ext hEw20)).ext hEw21)).chg hCw22 (fun hs=>by have h:_=_:=hs;omega))
 refine zb (zi (some 52) (zeP 5 _ hK23 (by first | omega | decide) (by first | omega | decide) (rfl) (zcE (zeN (zbg 1 7))) hK24 hK25 hK26 hK27) ?_)
 rintro _ w23 ⟨rfl,hEw23⟩
 have hzw23:=hEw23.size
 rw [show zN (zM ((zaa ([(mkR 1 7),Rec.zero,Rec.zero,Rec.zero,Rec.zero]) ([1,0,0])).getD (num 5 (hgt 5)) Nod.zero))=(zan ([(mkR 1 7),Rec.zero,Rec.zero,Rec.zero,Rec.zero]) ([1,0,0])) from znJ _]
 refine zd 3 [(54,(vI 0)),(53,(vA (zw ((zan ([(mkR 1 7),Rec.zero,Rec.zero,Rec.zero,Rec.zero]) ([1,0,0])))))),(50,(.tuple #[(vA (zw ((zan ([(mkR 1 7),Rec.zero,Rec.zero,Rec.zero,Rec.zero]) ([1,0,0]))))),(vI 0)]))] (zb (zt (some 12) (Instr.alloc 23 true (.tuple #[])) (vP w23.heap.size 0) (zw Dig.zero) 23 ?_))
 intro w24 hBw24 hEw24
 have hzw24:=hEw24.size;have hlw24:=hBw24.lt
 refine zb (zz 23 w23.heap.size 0 23 (vA (zw ((zan ([(mkR 1 7),Rec.zero,Rec.zero,Rec.zero,Rec.zero]) ([1,0,0]))))) (zw Dig.zero) (zw ((zan ([(mkR 1 7),Rec.zero,Rec.zero,Rec.zero,Rec.zero]) ([1,0,0])))) hBw24 (by rw [zac];kernel_rfl) (by first |(simp;done)|(simp;omega)) (zaT _) ?_)
 intro w25 hBw25 hCw25
 have hzw25:=hCw25.size
 rw [zm _ _ (by simp)] at hBw25
 refine zd 1 [(13,(vI 0))] (zg (zc (zf (zf (zag (Ext w25.drew) 36 [(56,8,0),(57,32,0),(58,108086391056891904,3),(59,128,0),(60,432345564227567616,12),(61,512,0),(62,1729382256910270464,48),(63,2048,0),(64,6917529027641081856,192),(65,8192,0),(66,27670116110564327424,768),(67,36893488147419103232,1024),(68,73786976294838206464,2048),(69,147573952589676412944,4096),(70,147573952589676412928,4096),(71,737869762948382064640,20480),(72,1623313478486440542208,45056),(73,2508757194024499019776,69632),(74,4722366482869645213696,163840),(75,9444732965739290427456,262144),(76,28334198897217871282176,786432),(77,47223664828696452136960,1310720),(78,85002596691653613846528,2359296),(79,160560460417567937265664,4456448),(80,302231454903657293676544,8650752),(81,604462909807314587353344,16777216),(82,1813388729421943762059264,50331648),(83,3022314549036572936765440,83886080),(84,5440166188265831286177792,150994944),(85,10275869466724347985002496,285212672),(86,19342813113834066795298816,553648128),(87,38685626227668133590598656,1073741824),(88,116056878683004400771792896,3221225472),(89,193428131138340667952988160,5368709120),(90,348170636049013202315378688,9663676416),(91,657655645870358271040159744,18253611008)] (fun hT187=> ?_))))))
 have hEw26:Ext w25 w25.drew:=Ext.drew w25
 generalize w25.drew=w26 at hEw26⊢
 have hzw26:=hEw26.size
 refine zk hT187 [(0,55,(vI 0)),(1,56,(vI 0))] 2 3 (zh hT187 2 7 (some 57) (vI 0) (zq .i64 (IntKind.i64.wrap (((0:Nat):Int)+((0:Nat):Int))) (zG (by omega) (by omega) (by omega))) (zk hT187 [(3,58,(vI 0))] 1 15 (zh hT187 4 31 (some 59) (vI 0) (zq .i64 (IntKind.i64.wrap (((0:Nat):Int)+((0:Nat):Int))) (zG (by omega) (by omega) (by omega))) (zk hT187 [(5,60,(vI 0))] 1 63 (zh hT187 6 127 (some 61) (vI 0) (zq .i64 (IntKind.i64.wrap (((0:Nat):Int)+((0:Nat):Int))) (zG (by omega) (by omega) (by omega))) (zk hT187 [(7,62,(vI 0))] 1 255 (zh hT187 8 511 (some 63) (vI 0) (zq .i64 (IntKind.i64.wrap (((0:Nat):Int)+((0:Nat):Int))) (zG (by omega) (by omega) (by omega))) (zk hT187 [(9,64,(vI 0))] 1 1023 (zh hT187 10 2047 (some 65) (vI 0) (zq .i64 (IntKind.i64.wrap (((0:Nat):Int)+((0:Nat):Int))) (zG (by omega) (by omega) (by omega))) ?_)))))))))
 refine zk hT187 [(11,66,vF),(12,67,vF)] 2 8191 ?_
 have hK28:=(((((((((((((((((((((((((((((hBw11.ext hEw12)).ext hEw13)).ext hEw14)).ext hEw15)).chg hCw16 (fun hs=>by have h:_=_:=hs;omega))).ext hEw17)).ext hEw18)).chg hCw19 (fun hs=>by have h:_=_:=hs;omega))).ext hEw20)).ext hEw21)).chg hCw22 (fun hs=>by have h:_=_:=hs;omega))).ext hEw23)).ext hEw24)).chg hCw25 (fun hs=>by have h:_=_:=hs;omega))).ext hEw26)
 refine zh hT187 13 16383 (some 68) (vA (zw (zN (zM Nod.zero)))) (zl (Instr.loadAt 23 (vP w9.heap.size 0)) (fun w' hC=>zD (vs:=zw (zN (zM Nod.zero))) ((hK28.ext hC).all) (by rw [zac];kernel_rfl))) (zk hT187 [(14,69,(vA (zK Nod.zero)))] 1 32767 (zn 15 65535 (zi (some 70) (zhm Nod.zero _) ?_)))
 rintro _ w27 ⟨rfl,hEw27⟩
 have hzw27:=hEw27.size
 refine ⟨.inr hEw27, ?_⟩
 refine zh (hw:=hEw27) hT187 16 131071 (some 71) vF (zl (bo .neq 23 (.tmp 68) (.tmp 70) (vA (zw (zN (zM Nod.zero)))) (vA (zw (zN (zM Nod.zero))))) (fun w' hC=>zav (r:=true) (T:=23) ((zbj (dd:=9998) (t:=23) (e:=5) (zN (zM Nod.zero)) (zN (zM Nod.zero))).trans (congrArg (fun b=>Result.ok b _) (show ((zN (zM Nod.zero)).l==(zN (zM Nod.zero)).l)=true from beq_iff_eq.2 rfl))))) (zk (hw:=hEw27) hT187 [(17,72,vF),(18,73,vF),(19,74,(vP w14.heap.size 1))] 3 1048575 ?_)
 have hK29:=(((((((hK22.ext hEw23)).ext hEw24)).chg hCw25 (fun hs=>by have h:_=_:=hs;omega))).ext hEw26)
 refine zh (hw:=hEw27) hT187 20 2097151 (some 75) (.slice a2 (tot 5) (tot 5)) (zl (Instr.loadAt 24 (vP w14.heap.size 1)) (fun w' hC=>zo ((hK29.ext hC).cell rfl))) (zk (hw:=hEw27) hT187 [(21,76,(vI (tot 5)))] 1 4194303 (zh (hw:=hEw27) hT187 22 8388607 (some 77) vF (zaI (((tot 5:Nat):Int) !=((3:Nat):Int)) (zaL (by omega))) (zk (hw:=hEw27) hT187 [(23,78,vF),(24,79,vF),(25,80,(vP w17.heap.size 1))] 3 67108863 ?_)))
 have hK30:=(((((((((((((hBw19.ext hEw20)).ext hEw21)).chg hCw22 (fun hs=>by have h:_=_:=hs;omega))).ext hEw23)).ext hEw24)).chg hCw25 (fun hs=>by have h:_=_:=hs;omega))).ext hEw26)
 refine zh (hw:=hEw27) hT187 26 134217727 (some 81) (.slice a3 2 2) (zl (Instr.loadAt 24 (vP w17.heap.size 1)) (fun w' hC=>zo ((hK30.ext hC).cell rfl))) (zk (hw:=hEw27) hT187 [(27,82,(vI 2))] 1 268435455 (zh (hw:=hEw27) hT187 28 536870911 (some 83) vF (zaI (((2:Nat):Int) !=((2:Nat):Int)) (zaL (by omega))) (zk (hw:=hEw27) hT187 [(29,84,vF),(30,85,vF),(31,86,(vP w20.heap.size 1))] 3 4294967295 ?_)))
 have hK31:=(((((((hBw22.ext hEw23)).ext hEw24)).chg hCw25 (fun hs=>by have h:_=_:=hs;omega))).ext hEw26)
 refine zh (hw:=hEw27) hT187 32 8589934591 (some 87) (.slice a4 1 1) (zl (Instr.loadAt 24 (vP w20.heap.size 1)) (fun w' hC=>zo ((hK31.ext hC).cell rfl))) (zk (hw:=hEw27) hT187 [(33,88,(vI 1))] 1 17179869183 (zh (hw:=hEw27) hT187 34 34359738367 (some 89) vF (zaI (((1:Nat):Int) !=((1:Nat):Int)) (zaL (by omega))) (zk (hw:=hEw27) hT187 [(35,90,vF)] 1 68719476735 (zJ (zc (zr (zy (zc (zf ?_)))))))))
 refine zf (zag (Ext w27.drew) 12 [(92,64,0),(93,2475880078570760549798248448,1),(94,4951760157141521099596496896,2),(95,9903520314283042199192993792,4),(96,19807040628566084398385987584,8),(97,2,0),(98,79228162514264337593543950336,32),(99,158456325028528675187087900672,64),(100,316912650057057350374175801344,128),(101,633825300114114700748351602688,256),(102,1267650600228229401496703205376,512),(103,2574915281713590971790178385920,1040)] (fun hT233=> ?_))
 have hEw28:Ext w27 w27.drew:=Ext.drew w27
 generalize w27.drew=w28 at hEw28⊢
 have hzw28:=hEw28.size
 refine zk hT233 [(0,91,(vP w14.heap.size 1))] 1 1 (zh hT233 1 3 (some 92) (.slice a2 (tot 5) (tot 5)) (zl (Instr.loadAt 24 (vP w14.heap.size 1)) (fun w' hC=>zo (((((hK29.ext hEw27)).ext hEw28).ext hC).cell rfl))) ?_)
 obtain ⟨b1,o1,rfl⟩:=hK23.addr (by omega) (by decide)
 refine zh hT233 2 7 (some 93) (vP b1 (o1+2*274)) (zl (Instr.indexAt 24 (.slice (pA b1 o1) (tot 5) (tot 5)) (vI 2)) (fun w' hC=>zap (E:=47) (sz:=274) (by omega))) (zk hT233 [(3,94,(vP b1 (o1+2*274+142)))] 1 15 ?_)
 have hK32:=(((((((((((hK23.ext hEw23)).ext hEw24)).chg hCw25 (fun k h1 h2 hs=>by have h:k=_:=hs;omega))).ext hEw26)).ext hEw27)).ext hEw28)
 refine zh hT233 4 31 (some 95) (vA (e4C ((zaa ([(mkR 1 7),Rec.zero,Rec.zero,Rec.zero,Rec.zero]) ([1,0,0])).getD 2 Nod.zero).es)) (zl (Instr.loadAt 45 (vP b1 (o1+2*274+142))) (fun w' hC=>zD (vs:=e4C ((zaa ([(mkR 1 7),Rec.zero,Rec.zero,Rec.zero,Rec.zero]) ([1,0,0])).getD 2 Nod.zero).es) (((hK32.ext hC).at Nod.zero (by omega)).sub 142 (e4C ((zaa ([(mkR 1 7),Rec.zero,Rec.zero,Rec.zero,Rec.zero]) ([1,0,0])).getD 2 Nod.zero).es) (zeK _)) (by rw [zdg];kernel_rfl))) ?_
 have hK33:=(((((((((((((((((((((((((((((((((hK8.ext hEw12)).ext hEw13)).ext hEw14)).ext hEw15)).chg hCw16 (fun hs=>by have h:_=_:=hs;omega))).ext hEw17)).ext hEw18)).chg hCw19 (fun hs=>by have h:_=_:=hs;omega))).ext hEw20)).ext hEw21)).chg hCw22 (fun hs=>by have h:_=_:=hs;omega))).ext hEw23)).ext hEw24)).chg hCw25 (fun hs=>by have h:_=_:=hs;omega))).ext hEw26)).ext hEw27)).ext hEw28)
 refine zh hT233 5 63 (some 96) (vA (zE (mkR 1 7))) (zl (Instr.loadAt 33 (vP w1.heap.size 0)) (fun w' hC=>zD (vs:=zE (mkR 1 7)) ((hK33.ext hC).all) (by rw [zY];kernel_rfl))) (zh hT233 6 127 (some 97) (vA (r4C (R4.zero.set 0 (mkR 1 7)))) (zl (Instr.build 42 #[(0,(vA (zE (mkR 1 7))))]) (fun w' hC=>zjo (E:=33) (mkR 1 7))) (zh hT233 7 255 (some 98) (vA (zK (⟨0,0,(R4.zero.set 0 (mkR 1 7)),E4.zero,by decide,by decide⟩))) (zl (Instr.build 47 #[(2,(vA (r4C (R4.zero.set 0 (mkR 1 7)))))]) (fun w' hC=>zhR (R4.zero.set 0 (mkR 1 7)))) (zn 8 511 (zi (some 99) (zhm (⟨0,0,(R4.zero.set 0 (mkR 1 7)),E4.zero,by decide,by decide⟩) _) ?_))))
 rintro _ w29 ⟨rfl,hEw29⟩
 have hzw29:=hEw29.size
 refine ⟨.inr hEw29, ?_⟩
 refine zh (hw:=hEw29) hT233 9 1023 (some 100) (vA (zai (⟨2,(zN (zM (⟨0,0,(R4.zero.set 0 (mkR 1 7)),E4.zero,by decide,by decide⟩))),by omega⟩))) (zl (Instr.build 44 #[(0,(vB 2)),(1,(vA (zw (zN (zM (⟨0,0,(R4.zero.set 0 (mkR 1 7)),E4.zero,by decide,by decide⟩))))))]) (fun w' hC=>zfP 2 (zN (zM (⟨0,0,(R4.zero.set 0 (mkR 1 7)),E4.zero,by decide,by decide⟩))) (by omega))) (zh (hw:=hEw29) hT233 10 2047 (some 101) (vA (e4C (E4.zero.set 0 (⟨2,(zN (zM (⟨0,0,(R4.zero.set 0 (mkR 1 7)),E4.zero,by decide,by decide⟩))),by omega⟩)))) (zl (Instr.build 45 #[(0,(vA (zai (⟨2,(zN (zM (⟨0,0,(R4.zero.set 0 (mkR 1 7)),E4.zero,by decide,by decide⟩))),by omega⟩))))]) (fun w' hC=>zjh (E:=44) (⟨2,(zN (zM (⟨0,0,(R4.zero.set 0 (mkR 1 7)),E4.zero,by decide,by decide⟩))),by omega⟩))) ?_)
 refine zh (hw:=hEw29) hT233 11 4095 (some 102) vF (zl (bo .neq 45 (.tmp 95) (.tmp 101) (vA (e4C ((zaa ([(mkR 1 7),Rec.zero,Rec.zero,Rec.zero,Rec.zero]) ([1,0,0])).getD 2 Nod.zero).es)) (vA (e4C (E4.zero.set 0 (⟨2,(zN (zM (⟨0,0,(R4.zero.set 0 (mkR 1 7)),E4.zero,by decide,by decide⟩))),by omega⟩))))) (fun w' hC=>zav (r:=true) (T:=45) ((zeW (dd:=9996) (T:=45) (t:=44) (t8:=5) (td:=23) (e:=5) (((zaa ([(mkR 1 7),Rec.zero,Rec.zero,Rec.zero,Rec.zero]) ([1,0,0])).getD 2 Nod.zero).es) (E4.zero.set 0 (⟨2,(zN (zM (⟨0,0,(R4.zero.set 0 (mkR 1 7)),E4.zero,by decide,by decide⟩))),by omega⟩))).trans (congrArg (fun b=>Result.ok b _) (show ((((zaa ([(mkR 1 7),Rec.zero,Rec.zero,Rec.zero,Rec.zero]) ([1,0,0])).getD 2 Nod.zero).es).eqb (E4.zero.set 0 (⟨2,(zN (zM (⟨0,0,(R4.zero.set 0 (mkR 1 7)),E4.zero,by decide,by decide⟩))),by omega⟩)))=true from (E4.eqb_iff _ _).2 (zqo (show (mkR 1 7).st≠0 by decide))))))) (zJ (zc (zr (zy (zc (zf (ze ?_)))))))
 have hK34:=(((((((hBw25.ext hEw26)).ext hEw27)).ext hEw28)).ext hEw29)
 refine zb (zj (some 104) (Instr.loadAt 23 (vP w23.heap.size 0)) (vA (zw ((zan ([(mkR 1 7),Rec.zero,Rec.zero,Rec.zero,Rec.zero]) ([1,0,0]))))) (zD (vs:=zw ((zan ([(mkR 1 7),Rec.zero,Rec.zero,Rec.zero,Rec.zero]) ([1,0,0])))) (hK34.all) (by rw [zac];kernel_rfl)) ?_)
 have hK35:=(((((hK30.ext hEw27)).ext hEw28)).ext hEw29)
 refine zb (zj (some 105) (Instr.loadAt 26 (vP w17.heap.size 0)) (vA [(vI 0),(.slice a3 2 2)]) (zD (vs:= [(vI 0),(.slice a3 2 2)]) (hK35.all)) ?_)
 have hK36:=(((((((((((((((((((((((hFz5_0.ext hEw18)).chg hCw19 (fun k h1 h2 hs=>by have h:k=_:=hs;omega))).ext hEw20)).ext hEw21)).chg hCw22 (fun k h1 h2 hs=>by have h:k=_:=hs;omega))).ext hEw23)).ext hEw24)).chg hCw25 (fun k h1 h2 hs=>by have h:k=_:=hs;omega))).ext hEw26)).ext hEw27)).ext hEw28)).ext hEw29)
 have hK37:=(((((((((((((hK24.ext hEw23)).ext hEw24)).chg hCw25 (fun hs=>by have h:_=_:=hs;omega))).ext hEw26)).ext hEw27)).ext hEw28)).ext hEw29)
 have hK38:=(((((((((((((hK25.ext hEw23)).ext hEw24)).chg hCw25 (fun hs=>by have h:_=_:=hs;omega))).ext hEw26)).ext hEw27)).ext hEw28)).ext hEw29)
 have hK39:=(((((((((((((hK26.ext hEw23)).ext hEw24)).chg hCw25 (fun hs=>by have h:_=_:=hs;omega))).ext hEw26)).ext hEw27)).ext hEw28)).ext hEw29)
 have hK40:=(((((((((((((hK27.ext hEw23)).ext hEw24)).chg hCw25 (fun hs=>by have h:_=_:=hs;omega))).ext hEw26)).ext hEw27)).ext hEw28)).ext hEw29)
 refine zb (zi (some 106) (zcN ((5:Nat):Int) ((zan ([(mkR 1 7),Rec.zero,Rec.zero,Rec.zero,Rec.zero]) ([1,0,0]))) ((0:Nat):Int) _ hK36 hK37 hK38 hK39 hK40) ?_)
 rintro _ w30 ⟨rfl,hEw30⟩
 have hzw30:=hEw30.size
 rw [show zbu ((5:Nat):Int) ((zan ([(mkR 1 7),Rec.zero,Rec.zero,Rec.zero,Rec.zero]) ([1,0,0]))) ((0:Nat):Int) (zaR 5 (zaa ([(mkR 1 7),Rec.zero,Rec.zero,Rec.zero,Rec.zero]) ([1,0,0])) 0 2)=0 from by have hz:=(zgz (zbg 1 7) (b:=0) (by decide)).1;rw [zfD (zbg 1 7) (show (mkR 1 7).st≠0 by decide)] at hz;exact hz]
 rw [show zbs ((5:Nat):Int) ((zan ([(mkR 1 7),Rec.zero,Rec.zero,Rec.zero,Rec.zero]) ([1,0,0]))) ((0:Nat):Int) (zaR 5 (zaa ([(mkR 1 7),Rec.zero,Rec.zero,Rec.zero,Rec.zero]) ([1,0,0])) 0 2)=mkR 1 7 from by have hz:=(zgz (zbg 1 7) (b:=0) (by decide)).2;rw [zfD (zbg 1 7) (show (mkR 1 7).st≠0 by decide)] at hz;exact hz]
 refine zd 3 [(108,(vI 0)),(107,(vA (zE (mkR 1 7)))),(103,(.tuple #[(vA (zE (mkR 1 7))),(vI 0)]))] (zb (zt (some 14) (Instr.alloc 33 true (.tuple #[])) (vP w30.heap.size 0) (zE Rec.zero) 33 ?_))
 intro w31 hBw31 hEw31
 have hzw31:=hEw31.size;have hlw31:=hBw31.lt
 refine zb (zz 33 w30.heap.size 0 33 (vA (zE (mkR 1 7))) (zE Rec.zero) (zE (mkR 1 7)) hBw31 (by rw [zY];kernel_rfl) (by first |(simp;done)|(simp;omega)) (zaU _) ?_)
 intro w32 hBw32 hCw32
 have hzw32:=hCw32.size
 rw [zm _ _ (by simp)] at hBw32
 refine zd 1 [(3,(vI 0))] (zg (zc (zf (ze ?_))))
 have hK41:=(((((hK34.ext hEw30)).ext hEw31)).chg hCw32 (fun hs=>by have h:_=_:=hs;omega))
 refine zb (zj (some 110) (Instr.loadAt 23 (vP w23.heap.size 0)) (vA (zw ((zan ([(mkR 1 7),Rec.zero,Rec.zero,Rec.zero,Rec.zero]) ([1,0,0]))))) (zD (vs:=zw ((zan ([(mkR 1 7),Rec.zero,Rec.zero,Rec.zero,Rec.zero]) ([1,0,0])))) (hK41.all) (by rw [zac];kernel_rfl)) ?_)
 have hK42:=(((((((((((hK31.ext hEw27)).ext hEw28)).ext hEw29)).ext hEw30)).ext hEw31)).chg hCw32 (fun hs=>by have h:_=_:=hs;omega))
 refine zb (zj (some 111) (Instr.loadAt 26 (vP w20.heap.size 0)) (vA [(vI 4),(.slice a4 1 1)]) (zD (vs:= [(vI 4),(.slice a4 1 1)]) (hK42.all)) ?_)
 have hK43:=(((((((((((((((((((((((hFz6_0.ext hEw21)).chg hCw22 (fun k h1 h2 hs=>by have h:k=_:=hs;omega))).ext hEw23)).ext hEw24)).chg hCw25 (fun k h1 h2 hs=>by have h:k=_:=hs;omega))).ext hEw26)).ext hEw27)).ext hEw28)).ext hEw29)).ext hEw30)).ext hEw31)).chg hCw32 (fun k h1 h2 hs=>by have h:k=_:=hs;omega))
 have hK44:=(((((hK37.ext hEw30)).ext hEw31)).chg hCw32 (fun hs=>by have h:_=_:=hs;omega))
 have hK45:=(((((hK38.ext hEw30)).ext hEw31)).chg hCw32 (fun hs=>by have h:_=_:=hs;omega))
 have hK46:=(((((hK39.ext hEw30)).ext hEw31)).chg hCw32 (fun hs=>by have h:_=_:=hs;omega))
 have hK47:=(((((hK40.ext hEw30)).ext hEw31)).chg hCw32 (fun hs=>by have h:_=_:=hs;omega))
 refine zb (zi (some 112) (zcN ((5:Nat):Int) ((zan ([(mkR 1 7),Rec.zero,Rec.zero,Rec.zero,Rec.zero]) ([1,0,0]))) ((4:Nat):Int) _ hK43 hK44 hK45 hK46 hK47) ?_)
 rintro _ w33 ⟨rfl,hEw33⟩
 have hzw33:=hEw33.size
 rw [show zbu ((5:Nat):Int) ((zan ([(mkR 1 7),Rec.zero,Rec.zero,Rec.zero,Rec.zero]) ([1,0,0]))) ((4:Nat):Int) (zaR 5 (zaa ([(mkR 1 7),Rec.zero,Rec.zero,Rec.zero,Rec.zero]) ([1,0,0])) 4 1)=0 from by have hz:=(zgz (zbg 1 7) (b:=4) (by decide)).1;rw [zfE (zbg 1 7)] at hz;exact hz]
 rw [show zbs ((5:Nat):Int) ((zan ([(mkR 1 7),Rec.zero,Rec.zero,Rec.zero,Rec.zero]) ([1,0,0]))) ((4:Nat):Int) (zaR 5 (zaa ([(mkR 1 7),Rec.zero,Rec.zero,Rec.zero,Rec.zero]) ([1,0,0])) 4 1)=Rec.zero from by have hz:=(zgz (zbg 1 7) (b:=4) (by decide)).2;rw [zfE (zbg 1 7)] at hz;exact hz]
 refine zd 3 [(114,(vI 0)),(113,(vA (zE (Rec.zero)))),(109,(.tuple #[(vA (zE (Rec.zero))),(vI 0)]))] (zb (zt (some 15) (Instr.alloc 33 true (.tuple #[])) (vP w33.heap.size 0) (zE Rec.zero) 33 ?_))
 intro w34 hBw34 hEw34
 have hzw34:=hEw34.size;have hlw34:=hBw34.lt
 refine zb (zz 33 w33.heap.size 0 33 (vA (zE (Rec.zero))) (zE Rec.zero) (zE (Rec.zero)) hBw34 (by rw [zY];kernel_rfl) (by first |(simp;done)|(simp;omega)) (zaU _) ?_)
 intro w35 hBw35 hCw35
 have hzw35:=hCw35.size
 rw [zm _ _ (by simp)] at hBw35
 refine zd 1 [(5,(vI 0))] (zg (zc (zf (ze (zb (zcU (some 116) 39 33 35 56 4 4 .i64 .i64 (vA (zE Rec.zero)) (by omega) (by omega) (by omega) ?_))))))
 rw [zeX (f:=zE) (x:=Rec.zero) rfl (zY _) (by decide)]
 intro w36 hBw36 hEw36
 have hzw36:=hEw36.size;have hlw36:=hBw36.lt
 have hmw36:Ms zE 35 w35.heap.size (w35.heap.size+1) w36 (pA w35.heap.size 0) 4 4 (List.replicate 4 Rec.zero):=Ms.of_pre (r:= []) (by rw [List.append_nil];exact hBw36) zY (by simp) (Nat.le_refl _) (by simp only [maxLen];omega) (Nat.le_refl _) (Nat.lt_succ_self _)
 refine zb (zt (some 117) (Instr.buildSlice 40 3 #[(0,(vI 0)),(1,(vI 0)),(2,(vI 0))]) (.slice (pA w36.heap.size 0) 3 3) [(vI 0),(vI 0),(vI 0)] 3 ?_)
 intro w37 hBw37 hEw37
 have hzw37:=hEw37.size;have hlw37:=hBw37.lt
 have hSw37:Es (nv .i64) w36.heap.size (w36.heap.size+1) w37 (pA w36.heap.size 0) 3 3 ([0,0,0]):=Es.of_blk hBw37 rfl rfl (Nat.le_refl _) (by decide) (Nat.le_refl _) (Nat.lt_succ_self _)
 refine zb (zi (some 118) (zmW 5 (pA w35.heap.size 0) 4 4 (pA w36.heap.size 0) 3 3 _ (by first | omega | decide) (by first | omega | decide) (by first | omega | decide)) ?_)
 rintro _ w38 ⟨rfl,hEw38⟩
 have hzw38:=hEw38.size
 refine zd 4 [(7,(vI 1)),(120,(vI 1)),(119,(vA [(vI 0),(.slice none 0 0)])),(115,(.tuple #[(vA [(vI 0),(.slice none 0 0)]),(vI 1)]))] (zg (zc (zf (ze ?_))))
 have hK48:=(((((((((((hK41.ext hEw33)).ext hEw34)).chg hCw35 (fun hs=>by have h:_=_:=hs;omega))).ext hEw36)).ext hEw37)).ext hEw38)
 refine zb (zj (some 122) (Instr.loadAt 23 (vP w23.heap.size 0)) (vA (zw ((zan ([(mkR 1 7),Rec.zero,Rec.zero,Rec.zero,Rec.zero]) ([1,0,0]))))) (zD (vs:=zw ((zan ([(mkR 1 7),Rec.zero,Rec.zero,Rec.zero,Rec.zero]) ([1,0,0])))) (hK48.all) (by rw [zac];kernel_rfl)) ?_)
 refine zd 1 [(123,(vA [(vI 0),(.slice none 0 0)]))] ?_
 have hK49:=(((((((((((hK44.ext hEw33)).ext hEw34)).chg hCw35 (fun hs=>by have h:_=_:=hs;omega))).ext hEw36)).ext hEw37)).ext hEw38)
 have hK50:=(((((((((((hK45.ext hEw33)).ext hEw34)).chg hCw35 (fun hs=>by have h:_=_:=hs;omega))).ext hEw36)).ext hEw37)).ext hEw38)
 have hK51:=(((((((((((hK46.ext hEw33)).ext hEw34)).chg hCw35 (fun hs=>by have h:_=_:=hs;omega))).ext hEw36)).ext hEw37)).ext hEw38)
 have hK52:=(((((((((((hK47.ext hEw33)).ext hEw34)).chg hCw35 (fun hs=>by have h:_=_:=hs;omega))).ext hEw36)).ext hEw37)).ext hEw38)
 refine zb (zi (some 124) (zcN ((5:Nat):Int) ((zan ([(mkR 1 7),Rec.zero,Rec.zero,Rec.zero,Rec.zero]) ([1,0,0]))) ((0:Nat):Int) _ (Ms.nil zK 0 0 _ (by simp)) hK49 hK50 hK51 hK52) ?_)
 rintro _ w39 ⟨rfl,hEw39⟩
 have hzw39:=hEw39.size
 rw [show zbu ((5:Nat):Int) ((zan ([(mkR 1 7),Rec.zero,Rec.zero,Rec.zero,Rec.zero]) ([1,0,0]))) ((0:Nat):Int) ([])=1 from zeF (fun h=>absurd h.2.2.2.2.1 (by decide))]
 refine zd 4 [(9,(vI 1)),(126,(vI 1)),(125,(vA (zE (zbs ((5:Nat):Int) ((zan ([(mkR 1 7),Rec.zero,Rec.zero,Rec.zero,Rec.zero]) ([1,0,0]))) ((0:Nat):Int) ([]))))),(121,(.tuple #[(vA (zE (zbs ((5:Nat):Int) ((zan ([(mkR 1 7),Rec.zero,Rec.zero,Rec.zero,Rec.zero]) ([1,0,0]))) ((0:Nat):Int) ([])))),(vI 1)]))] (zg (zc (zf (ze (zd 2 [(128,(vI 0)),(127,(vI 0))] (zb (zv (some 129) .i64 (IntKind.i64.wrap (((0:Nat):Int)+((0:Nat):Int))) 0 (zG (by omega) (by omega) (by omega)) ?_)))))))
 refine zd 2 [(131,vT),(130,vT)] ?_
 have hK53:=(((((((((((((hBw32.ext hEw33)).ext hEw34)).chg hCw35 (fun hs=>by have h:_=_:=hs;omega))).ext hEw36)).ext hEw37)).ext hEw38)).ext hEw39)
 refine zb (zj (some 132) (Instr.loadAt 33 (vP w30.heap.size 0)) (vA (zE (mkR 1 7))) (zD (vs:=zE (mkR 1 7)) (hK53.all) (by rw [zY];kernel_rfl)) ?_)
 have hK54:=(((((((((((((((((((((hK33.ext hEw29)).ext hEw30)).ext hEw31)).chg hCw32 (fun hs=>by have h:_=_:=hs;omega))).ext hEw33)).ext hEw34)).chg hCw35 (fun hs=>by have h:_=_:=hs;omega))).ext hEw36)).ext hEw37)).ext hEw38)).ext hEw39)
 refine zb (zj (some 133) (Instr.loadAt 33 (vP w1.heap.size 0)) (vA (zE (mkR 1 7))) (zD (vs:=zE (mkR 1 7)) (hK54.all) (by rw [zY];kernel_rfl)) ?_)
 refine zb (zj (some 134) (bo .eql 33 (.tmp 132) (.tmp 133) (vA (zE (mkR 1 7))) (vA (zE (mkR 1 7)))) vT (zhE (r:=true) (T:=33) ((zb8 (dd:=9997) (t:=33) (t8:=5) (tn:=31) (td:=23) (e:=5) (t32:=28) (t64:=29) (mkR 1 7) (mkR 1 7)).trans (congrArg (fun b=>Result.ok b _) (show ((mkR 1 7).eqb (mkR 1 7))=true from (Rec.eqb_iff _ _).2 rfl)))) ?_)
 refine zd 2 [(136,vT),(135,vT)] ?_
 have hK55:=(((((((hBw35.ext hEw36)).ext hEw37)).ext hEw38)).ext hEw39)
 refine zb (zj (some 137) (Instr.loadAt 33 (vP w33.heap.size 0)) (vA (zE (Rec.zero))) (zD (vs:=zE (Rec.zero)) (hK55.all) (by rw [zY];kernel_rfl)) ?_)
 refine zd 1 [(138,(vA (zE Rec.zero)))] (zb (zj (some 139) (bo .eql 33 (.tmp 137) (.tmp 138) (vA (zE (Rec.zero))) (vA (zE Rec.zero))) vT (zhE (r:=true) (T:=33) ((zb8 (dd:=9997) (t:=33) (t8:=5) (tn:=31) (td:=23) (e:=5) (t32:=28) (t64:=29) (Rec.zero) Rec.zero).trans (congrArg (fun b=>Result.ok b _) (show ((Rec.zero).eqb Rec.zero)=true from (Rec.eqb_iff _ _).2 rfl)))) ?_))
 refine zd 10 [(0,vT),(148,vT),(147,vT),(146,(vI 1)),(145,vT),(144,vT),(143,vT),(142,(vI 1)),(141,vT),(140,vT)] (zg (zc (zx (zB vT ?_))))
 have hX1:Ext w w39:=(((((Ext.own (((Ext.own (((((((Ext.own (((Ext.own (((Ext.own (((Ext.own (((((Ext.own (((Ext.own (((((Ext.own (hEw1.trans hEw2) hCw3 (by omega)).trans hEw4).trans hEw5).trans hEw6).trans hEw7) hCw8 (by omega)).trans hEw9).trans hEw10) hCw11 (by omega)).trans hEw12).trans hEw13).trans hEw14).trans hEw15) hCw16 (by omega)).trans hEw17).trans hEw18) hCw19 (by omega)).trans hEw20).trans hEw21) hCw22 (by omega)).trans hEw23).trans hEw24) hCw25 (by omega)).trans hEw26).trans hEw27).trans hEw28).trans hEw29).trans hEw30).trans hEw31) hCw32 (by omega)).trans hEw33).trans hEw34) hCw35 (by omega)).trans hEw36).trans hEw37).trans hEw38).trans hEw39)
 exact ⟨rfl,hX1⟩
end Go.Proofs.YtgdpdnokcnhgnaaGreatDoor
namespace Go.Proofs.YtgdpdnokcnhgnaaGreatDoor
open Go Go.RowKit Go.Cs
set_option maxRecDepth 100000
theorem zwA (n:Int) (root:Dig) (b:Int) {lo_p hi_p:Nat} {a_p:Option Addr} {n_p c_p:Nat} {p:List Nod} (d:Int) {lo_q hi_q:Nat} {a_q:Option Addr} {n_q c_q:Nat} {q:List Nod} (w:World) (h_p:Ms zK 274 lo_p hi_p w a_p n_p c_p p) (h_q:Ms zK 274 lo_q hi_q w a_q n_q c_q q) (hp0:8<n_p) (hg0:Gl 0 [vI 45,vI 33] w) (hg1:Gl 2 (w8C za2) w) (hg2:Gl 3 (zR kA) w) (hg3:Gl 1 [.iface 199 (.agg #[.pointer (some ⟨4,99,none⟩)])] w):
  Calls Tryz.prog 8 #[(.int .i64 n),(vA (zw root)),(vA [(.int .i64 b),(.slice a_p n_p c_p),(.int .i64 d),(.slice a_q n_q c_q)])] w (Ret fun r w'=>r=vT∧Ext w w'):=by
 refine zL (n:=102) (σ:= [(0,(.int .i64 n)),(1,(vA (zw root))),(2,(vA [(.int .i64 b),(.slice a_p n_p c_p),(.int .i64 d),(.slice a_q n_q c_q)]))]) Tryz.func8 rfl ?_
 replace h_p:=h_p.now;have hle_p:=h_p.le
 replace h_q:=h_q.now;have hle_q:=h_q.le
 have hgl0:=hg0.lt
 have hgl1:=hg1.lt
 have hgl2:=hg2.lt
 have hgl3:=hg3.lt
 have hlp:=h_p.len_eq;have hlep:=h_p.le;have hlq:=h_q.len_eq;have hleq:=h_q.le
 refine zf (ze (zb (zt (some 4) (Instr.box 23 (vA (zw root))) (vP w.heap.size 0) (zw root) 23 ?_)))
 intro w1 hBw1 hEw1
 have hzw1:=hEw1.size;have hlw1:=hBw1.lt
 refine zb (zt (some 5) (Instr.box 86 (vA [(.int .i64 b),(.slice a_p n_p c_p),(.int .i64 d),(.slice a_q n_q c_q)])) (vP w1.heap.size 0) ([(.int .i64 b),(.slice a_p n_p c_p),(.int .i64 d),(.slice a_q n_q c_q)]) 86 ?_)
 intro w2 hBw2 hEw2
 have hzw2:=hEw2.size;have hlw2:=hBw2.lt
 refine zd 1 [(6,vF)] (zg (zc (zf (zf (ze (zb (zj (some 15) (Instr.indexAt 86 (vP w1.heap.size 0) (vI 0)) (vP w1.heap.size 0) (zX (E:=26) (sz:=2) (m:=2) (by omega)) ?_)))))))
 refine zd 1 [(16,(vP w1.heap.size 1))] (zb (zj (some 17) (Instr.loadAt 24 (vP w1.heap.size 1)) (.slice a_p n_p c_p) (zo (hBw2.cell rfl)) ?_))
 refine zd 1 [(18,(vI n_p))] (zb (zat (some 19) (decide (((n_p:Nat):Int)>((8:Nat):Int))) true (zeu (by omega)) ?_))
 refine zd 7 [(26,vT),(25,undef),(24,undef),(23,undef),(22,undef),(21,undef),(20,vT)] (zg (zc (zF (zf (ze (zb (zi (some 27) (zmt _ (((hg0.ext hEw1)).ext hEw2) (((hg1.ext hEw1)).ext hEw2) (((hg2.ext hEw1)).ext hEw2) (((hg3.ext hEw1)).ext hEw2)) ?_)))))))
 rintro _ w3 ⟨rfl,hEw3⟩
 have hzw3:=hEw3.size
 exact zd 1 [(6,vT)] (zg (zc (zx (zu (zB vT (⟨rfl,((hEw1.trans hEw2).trans hEw3)⟩))))))
theorem zwz (n:Int) (root:Dig) (b:Int) {lo_p hi_p:Nat} {a_p:Option Addr} {n_p c_p:Nat} {p:List Nod} (d:Int) {lo_q hi_q:Nat} {a_q:Option Addr} {n_q c_q:Nat} {q:List Nod} (w:World) (h_p:Ms zK 274 lo_p hi_p w a_p n_p c_p p) (h_q:Ms zK 274 lo_q hi_q w a_q n_q c_q q) (hp0:n_p≤8) (hp1:8<n_q) (hg0:Gl 0 [vI 45,vI 33] w) (hg1:Gl 2 (w8C za2) w) (hg2:Gl 3 (zR kA) w) (hg3:Gl 1 [.iface 199 (.agg #[.pointer (some ⟨4,99,none⟩)])] w):
  Calls Tryz.prog 8 #[(.int .i64 n),(vA (zw root)),(vA [(.int .i64 b),(.slice a_p n_p c_p),(.int .i64 d),(.slice a_q n_q c_q)])] w (Ret fun r w'=>r=vT∧Ext w w'):=by
 refine zL (n:=102) (σ:= [(0,(.int .i64 n)),(1,(vA (zw root))),(2,(vA [(.int .i64 b),(.slice a_p n_p c_p),(.int .i64 d),(.slice a_q n_q c_q)]))]) Tryz.func8 rfl ?_
 replace h_p:=h_p.now;have hle_p:=h_p.le
 replace h_q:=h_q.now;have hle_q:=h_q.le
 have hgl0:=hg0.lt
 have hgl1:=hg1.lt
 have hgl2:=hg2.lt
 have hgl3:=hg3.lt
 have hlp:=h_p.len_eq;have hlep:=h_p.le;have hlq:=h_q.len_eq;have hleq:=h_q.le
 refine zf (ze (zb (zt (some 4) (Instr.box 23 (vA (zw root))) (vP w.heap.size 0) (zw root) 23 ?_)))
 intro w1 hBw1 hEw1
 have hzw1:=hEw1.size;have hlw1:=hBw1.lt
 refine zb (zt (some 5) (Instr.box 86 (vA [(.int .i64 b),(.slice a_p n_p c_p),(.int .i64 d),(.slice a_q n_q c_q)])) (vP w1.heap.size 0) ([(.int .i64 b),(.slice a_p n_p c_p),(.int .i64 d),(.slice a_q n_q c_q)]) 86 ?_)
 intro w2 hBw2 hEw2
 have hzw2:=hEw2.size;have hlw2:=hBw2.lt
 refine zd 1 [(6,vF)] (zg (zc (zf (zf (ze (zb (zj (some 15) (Instr.indexAt 86 (vP w1.heap.size 0) (vI 0)) (vP w1.heap.size 0) (zX (E:=26) (sz:=2) (m:=2) (by omega)) ?_)))))))
 refine zd 1 [(16,(vP w1.heap.size 1))] (zb (zj (some 17) (Instr.loadAt 24 (vP w1.heap.size 1)) (.slice a_p n_p c_p) (zo (hBw2.cell rfl)) ?_))
 refine zd 1 [(18,(vI n_p))] (zb (zat (some 19) (decide (((n_p:Nat):Int)>((8:Nat):Int))) false (zce (by omega)) ?_))
 refine zd 1 [(20,vF)] (zb (zj (some 21) (Instr.indexAt 86 (vP w1.heap.size 0) (vI 1)) (vP w1.heap.size 2) (zX (E:=26) (sz:=2) (m:=2) (by omega)) ?_))
 refine zd 1 [(22,(vP w1.heap.size 3))] (zb (zj (some 23) (Instr.loadAt 24 (vP w1.heap.size 3)) (.slice a_q n_q c_q) (zo (hBw2.cell rfl)) ?_))
 refine zd 1 [(24,(vI n_q))] (zb (zat (some 25) (decide (((n_q:Nat):Int)>((8:Nat):Int))) true (zeu (by omega)) ?_))
 refine zd 1 [(26,vT)] (zg (zc (zF (zf (ze (zb (zi (some 27) (zmt _ (((hg0.ext hEw1)).ext hEw2) (((hg1.ext hEw1)).ext hEw2) (((hg2.ext hEw1)).ext hEw2) (((hg3.ext hEw1)).ext hEw2)) ?_)))))))
 rintro _ w3 ⟨rfl,hEw3⟩
 have hzw3:=hEw3.size
 exact zd 1 [(6,vT)] (zg (zc (zx (zu (zB vT (⟨rfl,((hEw1.trans hEw2).trans hEw3)⟩))))))
theorem zwD (n:Int) (root:Dig) (b:Int) {lo_p hi_p:Nat} {a_p:Option Addr} {n_p c_p:Nat} {p:List Nod} (d:Int) {lo_q hi_q:Nat} {a_q:Option Addr} {n_q c_q:Nat} {q:List Nod} (w:World) (h_p:Ms zK 274 lo_p hi_p w a_p n_p c_p p) (h_q:Ms zK 274 lo_q hi_q w a_q n_q c_q q) (hp0:n_p≤8) (hp1:n_q≤8) (hp2:¬zbu n root b p=0) (hg0:Gl 0 [vI 45,vI 33] w) (hg1:Gl 2 (w8C za2) w) (hg2:Gl 3 (zR kA) w) (hg3:Gl 1 [.iface 199 (.agg #[.pointer (some ⟨4,99,none⟩)])] w):
  Calls Tryz.prog 8 #[(.int .i64 n),(vA (zw root)),(vA [(.int .i64 b),(.slice a_p n_p c_p),(.int .i64 d),(.slice a_q n_q c_q)])] w (Ret fun r w'=>r=vT∧Ext w w'):=by
 refine zL (n:=102) (σ:= [(0,(.int .i64 n)),(1,(vA (zw root))),(2,(vA [(.int .i64 b),(.slice a_p n_p c_p),(.int .i64 d),(.slice a_q n_q c_q)]))]) Tryz.func8 rfl ?_
 replace h_p:=h_p.now;have hle_p:=h_p.le
 replace h_q:=h_q.now;have hle_q:=h_q.le
 have hgl0:=hg0.lt
 have hgl1:=hg1.lt
 have hgl2:=hg2.lt
 have hgl3:=hg3.lt
 have hlp:=h_p.len_eq;have hlep:=h_p.le;have hlq:=h_q.len_eq;have hleq:=h_q.le
 refine zf (ze (zb (zt (some 4) (Instr.box 23 (vA (zw root))) (vP w.heap.size 0) (zw root) 23 ?_)))
 intro w1 hBw1 hEw1
 have hzw1:=hEw1.size;have hlw1:=hBw1.lt
 refine zb (zt (some 5) (Instr.box 86 (vA [(.int .i64 b),(.slice a_p n_p c_p),(.int .i64 d),(.slice a_q n_q c_q)])) (vP w1.heap.size 0) ([(.int .i64 b),(.slice a_p n_p c_p),(.int .i64 d),(.slice a_q n_q c_q)]) 86 ?_)
 intro w2 hBw2 hEw2
 have hzw2:=hEw2.size;have hlw2:=hBw2.lt
 refine zd 1 [(6,vF)] (zg (zc (zf (zf (ze (zb (zj (some 15) (Instr.indexAt 86 (vP w1.heap.size 0) (vI 0)) (vP w1.heap.size 0) (zX (E:=26) (sz:=2) (m:=2) (by omega)) ?_)))))))
 refine zd 1 [(16,(vP w1.heap.size 1))] (zb (zj (some 17) (Instr.loadAt 24 (vP w1.heap.size 1)) (.slice a_p n_p c_p) (zo (hBw2.cell rfl)) ?_))
 refine zd 1 [(18,(vI n_p))] (zb (zat (some 19) (decide (((n_p:Nat):Int)>((8:Nat):Int))) false (zce (by omega)) ?_))
 refine zd 1 [(20,vF)] (zb (zj (some 21) (Instr.indexAt 86 (vP w1.heap.size 0) (vI 1)) (vP w1.heap.size 2) (zX (E:=26) (sz:=2) (m:=2) (by omega)) ?_))
 refine zd 1 [(22,(vP w1.heap.size 3))] (zb (zj (some 23) (Instr.loadAt 24 (vP w1.heap.size 3)) (.slice a_q n_q c_q) (zo (hBw2.cell rfl)) ?_))
 refine zd 1 [(24,(vI n_q))] (zb (zat (some 25) (decide (((n_q:Nat):Int)>((8:Nat):Int))) false (zce (by omega)) ?_))
 refine zd 1 [(26,vF)] (zg (zc (zr (zy (zc (zf (ze (zd 1 [(29,(.int .i64 n))] (zb (zj (some 30) (Instr.loadAt 23 (vP w.heap.size 0)) (vA (zw root)) (zD (vs:=zw root) ((hBw1.ext hEw2).all) (by rw [zac];kernel_rfl)) ?_))))))))))
 refine zb (zj (some 31) (Instr.indexAt 86 (vP w1.heap.size 0) (vI 0)) (vP w1.heap.size 0) (zX (E:=26) (sz:=2) (m:=2) (by omega)) ?_)
 refine zd 1 [(32,(vP w1.heap.size 0))] (zb (zj (some 33) (Instr.loadAt 3 (vP w1.heap.size 0)) (.int .i64 b) (zo (hBw2.cell rfl)) ?_))
 refine zb (zj (some 34) (Instr.indexAt 86 (vP w1.heap.size 0) (vI 0)) (vP w1.heap.size 0) (zX (E:=26) (sz:=2) (m:=2) (by omega)) ?_)
 refine zd 1 [(35,(vP w1.heap.size 1))] (zb (zj (some 36) (Instr.loadAt 24 (vP w1.heap.size 1)) (.slice a_p n_p c_p) (zo (hBw2.cell rfl)) ?_))
 refine zb (zi (some 37) (zwb n root b _ (((h_p.ext hEw1)).ext hEw2)) ?_)
 rintro _ w3 ⟨rfl,hEw3⟩
 have hzw3:=hEw3.size
 refine zd 3 [(39,(vI (zbu n root b p))),(38,(vA (zE (zbs n root b p)))),(28,(.tuple #[(vA (zE (zbs n root b p))),(vI (zbu n root b p))]))] (zb (zt (some 7) (Instr.alloc 33 true (.tuple #[])) (vP w3.heap.size 0) (zE Rec.zero) 33 ?_))
 intro w4 hBw4 hEw4
 have hzw4:=hEw4.size;have hlw4:=hBw4.lt
 refine zb (zz 33 w3.heap.size 0 33 (vA (zE (zbs n root b p))) (zE Rec.zero) (zE (zbs n root b p)) hBw4 (by rw [zY];kernel_rfl) (by first |(simp;done)|(simp;omega)) (zaU _) ?_)
 intro w5 hBw5 hCw5
 have hzw5:=hCw5.size
 rw [zm _ _ (by simp)] at hBw5
 refine zd 1 [(8,(vI (zbu n root b p)))] (zg (zc (zf (ze (zd 1 [(41,(.int .i64 n))] ?_)))))
 have hK1:=(((((((hBw1.ext hEw2)).ext hEw3)).ext hEw4)).chg hCw5 (fun hs=>by have h:_=_:=hs;omega))
 refine zb (zj (some 42) (Instr.loadAt 23 (vP w.heap.size 0)) (vA (zw root)) (zD (vs:=zw root) (hK1.all) (by rw [zac];kernel_rfl)) ?_)
 refine zb (zj (some 43) (Instr.indexAt 86 (vP w1.heap.size 0) (vI 1)) (vP w1.heap.size 2) (zX (E:=26) (sz:=2) (m:=2) (by omega)) ?_)
 refine zd 1 [(44,(vP w1.heap.size 2))] ?_
 have hK2:=(((((hBw2.ext hEw3)).ext hEw4)).chg hCw5 (fun hs=>by have h:_=_:=hs;omega))
 refine zb (zj (some 45) (Instr.loadAt 3 (vP w1.heap.size 2)) (.int .i64 d) (zo (hK2.cell rfl)) ?_)
 refine zb (zj (some 46) (Instr.indexAt 86 (vP w1.heap.size 0) (vI 1)) (vP w1.heap.size 2) (zX (E:=26) (sz:=2) (m:=2) (by omega)) ?_)
 refine zd 1 [(47,(vP w1.heap.size 3))] (zb (zj (some 48) (Instr.loadAt 24 (vP w1.heap.size 3)) (.slice a_q n_q c_q) (zo (hK2.cell rfl)) ?_))
 have hK3:=(((((((((h_q.ext hEw1)).ext hEw2)).ext hEw3)).ext hEw4)).chg hCw5 (fun k h1 h2 hs=>by have h:k=_:=hs;omega))
 refine zb (zi (some 49) (zwb n root d _ hK3) ?_)
 rintro _ w6 ⟨rfl,hEw6⟩
 have hzw6:=hEw6.size
 refine zd 3 [(51,(vI (zbu n root d q))),(50,(vA (zE (zbs n root d q)))),(40,(.tuple #[(vA (zE (zbs n root d q))),(vI (zbu n root d q))]))] (zb (zt (some 9) (Instr.alloc 33 true (.tuple #[])) (vP w6.heap.size 0) (zE Rec.zero) 33 ?_))
 intro w7 hBw7 hEw7
 have hzw7:=hEw7.size;have hlw7:=hBw7.lt
 refine zb (zz 33 w6.heap.size 0 33 (vA (zE (zbs n root d q))) (zE Rec.zero) (zE (zbs n root d q)) hBw7 (by rw [zY];kernel_rfl) (by first |(simp;done)|(simp;omega)) (zaU _) ?_)
 intro w8 hBw8 hCw8
 have hzw8:=hCw8.size
 rw [zm _ _ (by simp)] at hBw8
 refine zd 1 [(10,(vI (zbu n root d q)))] (zg (zc (zf (ze (zd 1 [(53,(.int .i64 n))] ?_)))))
 have hK4:=(((((hK1.ext hEw6)).ext hEw7)).chg hCw8 (fun hs=>by have h:_=_:=hs;omega))
 refine zb (zj (some 54) (Instr.loadAt 23 (vP w.heap.size 0)) (vA (zw root)) (zD (vs:=zw root) (hK4.all) (by rw [zac];kernel_rfl)) ?_)
 refine zb (zj (some 55) (Instr.indexAt 86 (vP w1.heap.size 0) (vI 0)) (vP w1.heap.size 0) (zX (E:=26) (sz:=2) (m:=2) (by omega)) ?_)
 have hK5:=(((((hK2.ext hEw6)).ext hEw7)).chg hCw8 (fun hs=>by have h:_=_:=hs;omega))
 refine zb (zj (some 56) (Instr.loadAt 26 (vP w1.heap.size 0)) (vA [(.int .i64 b),(.slice a_p n_p c_p)]) (zD (vs:= [(.int .i64 b),(.slice a_p n_p c_p)]) (hK5.at 0 [(.int .i64 b),(.slice a_p n_p c_p)] rfl)) ?_)
 refine zb (zj (some 57) (Instr.indexAt 86 (vP w1.heap.size 0) (vI 1)) (vP w1.heap.size 2) (zX (E:=26) (sz:=2) (m:=2) (by omega)) ?_)
 refine zb (zj (some 58) (Instr.loadAt 26 (vP w1.heap.size 2)) (vA [(.int .i64 d),(.slice a_q n_q c_q)]) (zD (vs:= [(.int .i64 d),(.slice a_q n_q c_q)]) (hK5.at 2 [(.int .i64 d),(.slice a_q n_q c_q)] rfl)) ?_)
 have hK6:=(((((((((((((((h_p.ext hEw1)).ext hEw2)).ext hEw3)).ext hEw4)).chg hCw5 (fun k h1 h2 hs=>by have h:k=_:=hs;omega))).ext hEw6)).ext hEw7)).chg hCw8 (fun k h1 h2 hs=>by have h:k=_:=hs;omega))
 have hK7:=(((((hK3.ext hEw6)).ext hEw7)).chg hCw8 (fun k h1 h2 hs=>by have h:k=_:=hs;omega))
 have hK8:=(((((((((((((((hg0.ext hEw1)).ext hEw2)).ext hEw3)).ext hEw4)).chg hCw5 (fun hs=>by have h:_=_:=hs;omega))).ext hEw6)).ext hEw7)).chg hCw8 (fun hs=>by have h:_=_:=hs;omega))
 have hK9:=(((((((((((((((hg1.ext hEw1)).ext hEw2)).ext hEw3)).ext hEw4)).chg hCw5 (fun hs=>by have h:_=_:=hs;omega))).ext hEw6)).ext hEw7)).chg hCw8 (fun hs=>by have h:_=_:=hs;omega))
 have hK10:=(((((((((((((((hg2.ext hEw1)).ext hEw2)).ext hEw3)).ext hEw4)).chg hCw5 (fun hs=>by have h:_=_:=hs;omega))).ext hEw6)).ext hEw7)).chg hCw8 (fun hs=>by have h:_=_:=hs;omega))
 have hK11:=(((((((((((((((hg3.ext hEw1)).ext hEw2)).ext hEw3)).ext hEw4)).chg hCw5 (fun hs=>by have h:_=_:=hs;omega))).ext hEw6)).ext hEw7)).chg hCw8 (fun hs=>by have h:_=_:=hs;omega))
 refine zb (zi (some 59) (zwv n root b d _ hK6 hK7 (by assumption) hK8 hK9 hK10 hK11) ?_)
 rintro _ w9 ⟨rfl,hEw9⟩
 have hzw9:=hEw9.size
 refine zd 7 [(13,(vI (zbu n root b p))),(12,(.slice none 0 0)),(11,(.slice none 0 0)),(62,(vI (zbu n root b p))),(61,(.slice none 0 0)),(60,(.slice none 0 0)),(52,(.tuple #[(.slice none 0 0),(.slice none 0 0),(vI (zbu n root b p))]))] (zg (zc (zf (ze (zd 1 [(14,(vI 0))] (zg (zc (zf (zf ?_)))))))))
 refine ze ?_
 have hK12:=(((((((hBw5.ext hEw6)).ext hEw7)).chg hCw8 (fun hs=>by have h:_=_:=hs;omega))).ext hEw9)
 refine zb (zj (some 63) (Instr.loadAt 33 (vP w3.heap.size 0)) (vA (zE (zbs n root b p))) (zD (vs:=zE (zbs n root b p)) (hK12.all) (by rw [zY];kernel_rfl)) ?_)
 refine zb (zj (some 64) (Instr.loadAt 33 (vP w6.heap.size 0)) (vA (zE (zbs n root d q))) (zD (vs:=zE (zbs n root d q)) ((hBw8.ext hEw9).all) (by rw [zY];kernel_rfl)) ?_)
 rcases Bool.eq_false_or_eq_true ((zbs n root b p).eqb (zbs n root d q)) with hq65 | hq65
 ·refine zb (zj (some 65) (bo .eql 33 (.tmp 63) (.tmp 64) (vA (zE (zbs n root b p))) (vA (zE (zbs n root d q)))) vT (zhE (r:=true) (T:=33) ((zb8 (dd:=9997) (t:=33) (t8:=5) (tn:=31) (td:=23) (e:=5) (t32:=28) (t64:=29) (zbs n root b p) (zbs n root d q)).trans (congrArg (fun b=>Result.ok b _) (show ((zbs n root b p).eqb (zbs n root d q))=true from hq65)))) ?_)
  refine zg (zc (zF (ze (zd 1 [(14,(vI 11))] (zg (zc (zf (zf (ze ?_)))))))))
  refine zb (zj (some 66) (Instr.indexAt 86 (vP w1.heap.size 0) (vI 0)) (vP w1.heap.size 0) (zX (E:=26) (sz:=2) (m:=2) (by omega)) ?_)
  refine zd 1 [(67,(vP w1.heap.size 0))] (zb (zj (some 68) (Instr.loadAt 3 (vP w1.heap.size 0)) (.int .i64 b) (zo ((hK5.ext hEw9).cell rfl)) ?_))
  refine zb (zj (some 69) (Instr.indexAt 86 (vP w1.heap.size 0) (vI 1)) (vP w1.heap.size 2) (zX (E:=26) (sz:=2) (m:=2) (by omega)) ?_)
  refine zd 1 [(70,(vP w1.heap.size 2))] (zb (zj (some 71) (Instr.loadAt 3 (vP w1.heap.size 2)) (.int .i64 d) (zo ((hK5.ext hEw9).cell rfl)) ?_))
  refine zb (zO (some 72) ((b !=d)) (fun hc72=> ?_) (fun hc72=> ?_))
  ·replace hc72:¬(b=d):=by have:=zbY hc72;omega
   refine zg (zc (zF (ze (zd 1 [(14,(vI 1))] (zg (zc (zf (zf (ze ?_)))))))))
   refine zd 1 [(73,(vI (zbu n root d q)))] (zb (zO (some 74) ((((zbu n root d q:Nat):Int) !=((0:Nat):Int))) (fun hc74=> ?_) (fun hc74=> ?_)))
   ·replace hc74:¬(zbu n root d q=0):=by have:=zbY hc74;omega
    refine zg (zc (zF (ze (zd 2 [(14,(vI (zbu n root d q))),(75,(vI (zbu n root d q)))] (zg (zc (zf (zf (ze ?_)))))))))
    refine zd 1 [(76,(vI (zbu n root b p)))] (zb (zat (some 77) (((zbu n root b p:Nat):Int) !=((0:Nat):Int)) true (zcq (by omega)) ?_))
    refine zg (zc (zF (ze (zd 2 [(14,(vI (zbu n root b p))),(78,(vI (zbu n root b p)))] (zg (zc (zf (zf (ze ?_)))))))))
    refine zd 2 [(80,(vI (zbu n root b p))),(79,(vI (zbu n root b p)))] (zb (zat (some 81) (((zbu n root b p:Nat):Int) !=((zbu n root b p:Nat):Int)) false (zaL (by omega)) ?_))
    refine zg (zc (zr (zy (zc (zf (zf (ze (zd 1 [(82,(vI (zbu n root b p)))] (zb (zat (some 83) (((zbu n root b p:Nat):Int) !=((0:Nat):Int)) true (zcq (by omega)) ?_))))))))))
    refine zg (zc (zF (zf (ze (zd 9 [(92,vT),(91,vT),(90,vT),(89,(vI 0)),(88,(.slice none 0 0)),(87,vT),(86,vT),(85,(vI 0)),(84,(.slice none 0 0))] (zb (zi (some 93) (zmt _ (hK8.ext hEw9) (hK9.ext hEw9) (hK10.ext hEw9) (hK11.ext hEw9)) ?_)))))))
    rintro _ w10 ⟨rfl,hEw10⟩
    have hzw10:=hEw10.size
    refine zd 2 [(6,vT),(94,vT)] (zg (zc (zx (zu (zB vT ?_)))))
    have hX1:Ext w w10:=(((Ext.own (((Ext.own (((hEw1.trans hEw2).trans hEw3).trans hEw4) hCw5 (by omega)).trans hEw6).trans hEw7) hCw8 (by omega)).trans hEw9).trans hEw10)
    exact ⟨rfl,hX1⟩
   ·replace hc74:zbu n root d q=0:=by have:=zbX hc74;omega
    refine zg (zc (zr (zy (zc (zf (zf (ze (zd 1 [(76,(vI (zbu n root b p)))] (zb (zat (some 77) (((zbu n root b p:Nat):Int) !=((0:Nat):Int)) true (zcq (by omega)) ?_))))))))))
    refine zg (zc (zF (ze (zd 2 [(14,(vI (zbu n root b p))),(78,(vI (zbu n root b p)))] (zg (zc (zf (zf (ze ?_)))))))))
    refine zd 2 [(80,(vI (zbu n root b p))),(79,(vI (zbu n root b p)))] (zb (zat (some 81) (((zbu n root b p:Nat):Int) !=((zbu n root b p:Nat):Int)) false (zaL (by omega)) ?_))
    refine zg (zc (zr (zy (zc (zf (zf (ze (zd 1 [(82,(vI (zbu n root b p)))] (zb (zat (some 83) (((zbu n root b p:Nat):Int) !=((0:Nat):Int)) true (zcq (by omega)) ?_))))))))))
    refine zg (zc (zF (zf (ze (zd 9 [(92,vT),(91,vT),(90,vT),(89,(vI 0)),(88,(.slice none 0 0)),(87,vT),(86,vT),(85,(vI 0)),(84,(.slice none 0 0))] (zb (zi (some 93) (zmt _ (hK8.ext hEw9) (hK9.ext hEw9) (hK10.ext hEw9) (hK11.ext hEw9)) ?_)))))))
    rintro _ w11 ⟨rfl,hEw11⟩
    have hzw11:=hEw11.size
    refine zd 2 [(6,vT),(94,vT)] (zg (zc (zx (zu (zB vT ?_)))))
    have hX2:Ext w w11:=(((Ext.own (((Ext.own (((hEw1.trans hEw2).trans hEw3).trans hEw4) hCw5 (by omega)).trans hEw6).trans hEw7) hCw8 (by omega)).trans hEw9).trans hEw11)
    exact ⟨rfl,hX2⟩
  ·replace hc72:b=d:=by have:=zbX hc72;omega
   refine zg (zc (zr (zy (zc (zf (zf (ze (zd 1 [(73,(vI (zbu n root d q)))] (zb (zO (some 74) ((((zbu n root d q:Nat):Int) !=((0:Nat):Int))) (fun hc74=> ?_) (fun hc74=> ?_)))))))))))
   ·replace hc74:¬(zbu n root d q=0):=by have:=zbY hc74;omega
    refine zg (zc (zF (ze (zd 2 [(14,(vI (zbu n root d q))),(75,(vI (zbu n root d q)))] (zg (zc (zf (zf (ze ?_)))))))))
    refine zd 1 [(76,(vI (zbu n root b p)))] (zb (zat (some 77) (((zbu n root b p:Nat):Int) !=((0:Nat):Int)) true (zcq (by omega)) ?_))
    refine zg (zc (zF (ze (zd 2 [(14,(vI (zbu n root b p))),(78,(vI (zbu n root b p)))] (zg (zc (zf (zf (ze ?_)))))))))
    refine zd 2 [(80,(vI (zbu n root b p))),(79,(vI (zbu n root b p)))] (zb (zat (some 81) (((zbu n root b p:Nat):Int) !=((zbu n root b p:Nat):Int)) false (zaL (by omega)) ?_))
    refine zg (zc (zr (zy (zc (zf (zf (ze (zd 1 [(82,(vI (zbu n root b p)))] (zb (zat (some 83) (((zbu n root b p:Nat):Int) !=((0:Nat):Int)) true (zcq (by omega)) ?_))))))))))
    refine zg (zc (zF (zf (ze (zd 9 [(92,vT),(91,vT),(90,vT),(89,(vI 0)),(88,(.slice none 0 0)),(87,vT),(86,vT),(85,(vI 0)),(84,(.slice none 0 0))] (zb (zi (some 93) (zmt _ (hK8.ext hEw9) (hK9.ext hEw9) (hK10.ext hEw9) (hK11.ext hEw9)) ?_)))))))
    rintro _ w12 ⟨rfl,hEw12⟩
    have hzw12:=hEw12.size
    refine zd 2 [(6,vT),(94,vT)] (zg (zc (zx (zu (zB vT ?_)))))
    have hX3:Ext w w12:=(((Ext.own (((Ext.own (((hEw1.trans hEw2).trans hEw3).trans hEw4) hCw5 (by omega)).trans hEw6).trans hEw7) hCw8 (by omega)).trans hEw9).trans hEw12)
    exact ⟨rfl,hX3⟩
   ·replace hc74:zbu n root d q=0:=by have:=zbX hc74;omega
    refine zg (zc (zr (zy (zc (zf (zf (ze (zd 1 [(76,(vI (zbu n root b p)))] (zb (zat (some 77) (((zbu n root b p:Nat):Int) !=((0:Nat):Int)) true (zcq (by omega)) ?_))))))))))
    refine zg (zc (zF (ze (zd 2 [(14,(vI (zbu n root b p))),(78,(vI (zbu n root b p)))] (zg (zc (zf (zf (ze ?_)))))))))
    refine zd 2 [(80,(vI (zbu n root b p))),(79,(vI (zbu n root b p)))] (zb (zat (some 81) (((zbu n root b p:Nat):Int) !=((zbu n root b p:Nat):Int)) false (zaL (by omega)) ?_))
    refine zg (zc (zr (zy (zc (zf (zf (ze (zd 1 [(82,(vI (zbu n root b p)))] (zb (zat (some 83) (((zbu n root b p:Nat):Int) !=((0:Nat):Int)) true (zcq (by omega)) ?_))))))))))
    refine zg (zc (zF (zf (ze (zd 9 [(92,vT),(91,vT),(90,vT),(89,(vI 0)),(88,(.slice none 0 0)),(87,vT),(86,vT),(85,(vI 0)),(84,(.slice none 0 0))] (zb (zi (some 93) (zmt _ (hK8.ext hEw9) (hK9.ext hEw9) (hK10.ext hEw9) (hK11.ext hEw9)) ?_)))))))
    rintro _ w13 ⟨rfl,hEw13⟩
    have hzw13:=hEw13.size
    refine zd 2 [(6,vT),(94,vT)] (zg (zc (zx (zu (zB vT ?_)))))
    have hX4:Ext w w13:=(((Ext.own (((Ext.own (((hEw1.trans hEw2).trans hEw3).trans hEw4) hCw5 (by omega)).trans hEw6).trans hEw7) hCw8 (by omega)).trans hEw9).trans hEw13)
    exact ⟨rfl,hX4⟩
 ·refine zb (zj (some 65) (bo .eql 33 (.tmp 63) (.tmp 64) (vA (zE (zbs n root b p))) (vA (zE (zbs n root d q)))) vF (zhE (r:=false) (T:=33) ((zb8 (dd:=9997) (t:=33) (t8:=5) (tn:=31) (td:=23) (e:=5) (t32:=28) (t64:=29) (zbs n root b p) (zbs n root d q)).trans (congrArg (fun b=>Result.ok b _) (show ((zbs n root b p).eqb (zbs n root d q))=false from hq65)))) ?_)
  refine zg (zc (zr (zy (zc (zf (zf (ze (zb (zj (some 66) (Instr.indexAt 86 (vP w1.heap.size 0) (vI 0)) (vP w1.heap.size 0) (zX (E:=26) (sz:=2) (m:=2) (by omega)) ?_)))))))))
  refine zd 1 [(67,(vP w1.heap.size 0))] (zb (zj (some 68) (Instr.loadAt 3 (vP w1.heap.size 0)) (.int .i64 b) (zo ((hK5.ext hEw9).cell rfl)) ?_))
  refine zb (zj (some 69) (Instr.indexAt 86 (vP w1.heap.size 0) (vI 1)) (vP w1.heap.size 2) (zX (E:=26) (sz:=2) (m:=2) (by omega)) ?_)
  refine zd 1 [(70,(vP w1.heap.size 2))] (zb (zj (some 71) (Instr.loadAt 3 (vP w1.heap.size 2)) (.int .i64 d) (zo ((hK5.ext hEw9).cell rfl)) ?_))
  refine zb (zO (some 72) ((b !=d)) (fun hc72=> ?_) (fun hc72=> ?_))
  ·replace hc72:¬(b=d):=by have:=zbY hc72;omega
   refine zg (zc (zF (ze (zd 1 [(14,(vI 1))] (zg (zc (zf (zf (ze ?_)))))))))
   refine zd 1 [(73,(vI (zbu n root d q)))] (zb (zO (some 74) ((((zbu n root d q:Nat):Int) !=((0:Nat):Int))) (fun hc74=> ?_) (fun hc74=> ?_)))
   ·replace hc74:¬(zbu n root d q=0):=by have:=zbY hc74;omega
    refine zg (zc (zF (ze (zd 2 [(14,(vI (zbu n root d q))),(75,(vI (zbu n root d q)))] (zg (zc (zf (zf (ze ?_)))))))))
    refine zd 1 [(76,(vI (zbu n root b p)))] (zb (zat (some 77) (((zbu n root b p:Nat):Int) !=((0:Nat):Int)) true (zcq (by omega)) ?_))
    refine zg (zc (zF (ze (zd 2 [(14,(vI (zbu n root b p))),(78,(vI (zbu n root b p)))] (zg (zc (zf (zf (ze ?_)))))))))
    refine zd 2 [(80,(vI (zbu n root b p))),(79,(vI (zbu n root b p)))] (zb (zat (some 81) (((zbu n root b p:Nat):Int) !=((zbu n root b p:Nat):Int)) false (zaL (by omega)) ?_))
    refine zg (zc (zr (zy (zc (zf (zf (ze (zd 1 [(82,(vI (zbu n root b p)))] (zb (zat (some 83) (((zbu n root b p:Nat):Int) !=((0:Nat):Int)) true (zcq (by omega)) ?_))))))))))
    refine zg (zc (zF (zf (ze (zd 9 [(92,vT),(91,vT),(90,vT),(89,(vI 0)),(88,(.slice none 0 0)),(87,vT),(86,vT),(85,(vI 0)),(84,(.slice none 0 0))] (zb (zi (some 93) (zmt _ (hK8.ext hEw9) (hK9.ext hEw9) (hK10.ext hEw9) (hK11.ext hEw9)) ?_)))))))
    rintro _ w14 ⟨rfl,hEw14⟩
    have hzw14:=hEw14.size
    refine zd 2 [(6,vT),(94,vT)] (zg (zc (zx (zu (zB vT ?_)))))
    have hX5:Ext w w14:=(((Ext.own (((Ext.own (((hEw1.trans hEw2).trans hEw3).trans hEw4) hCw5 (by omega)).trans hEw6).trans hEw7) hCw8 (by omega)).trans hEw9).trans hEw14)
    exact ⟨rfl,hX5⟩
   ·replace hc74:zbu n root d q=0:=by have:=zbX hc74;omega
    refine zg (zc (zr (zy (zc (zf (zf (ze (zd 1 [(76,(vI (zbu n root b p)))] (zb (zat (some 77) (((zbu n root b p:Nat):Int) !=((0:Nat):Int)) true (zcq (by omega)) ?_))))))))))
    refine zg (zc (zF (ze (zd 2 [(14,(vI (zbu n root b p))),(78,(vI (zbu n root b p)))] (zg (zc (zf (zf (ze ?_)))))))))
    refine zd 2 [(80,(vI (zbu n root b p))),(79,(vI (zbu n root b p)))] (zb (zat (some 81) (((zbu n root b p:Nat):Int) !=((zbu n root b p:Nat):Int)) false (zaL (by omega)) ?_))
    refine zg (zc (zr (zy (zc (zf (zf (ze (zd 1 [(82,(vI (zbu n root b p)))] (zb (zat (some 83) (((zbu n root b p:Nat):Int) !=((0:Nat):Int)) true (zcq (by omega)) ?_))))))))))
    refine zg (zc (zF (zf (ze (zd 9 [(92,vT),(91,vT),(90,vT),(89,(vI 0)),(88,(.slice none 0 0)),(87,vT),(86,vT),(85,(vI 0)),(84,(.slice none 0 0))] (zb (zi (some 93) (zmt _ (hK8.ext hEw9) (hK9.ext hEw9) (hK10.ext hEw9) (hK11.ext hEw9)) ?_)))))))
    rintro _ w15 ⟨rfl,hEw15⟩
    have hzw15:=hEw15.size
    refine zd 2 [(6,vT),(94,vT)] (zg (zc (zx (zu (zB vT ?_)))))
    have hX6:Ext w w15:=(((Ext.own (((Ext.own (((hEw1.trans hEw2).trans hEw3).trans hEw4) hCw5 (by omega)).trans hEw6).trans hEw7) hCw8 (by omega)).trans hEw9).trans hEw15)
    exact ⟨rfl,hX6⟩
  ·replace hc72:b=d:=by have:=zbX hc72;omega
   refine zg (zc (zr (zy (zc (zf (zf (ze (zd 1 [(73,(vI (zbu n root d q)))] (zb (zO (some 74) ((((zbu n root d q:Nat):Int) !=((0:Nat):Int))) (fun hc74=> ?_) (fun hc74=> ?_)))))))))))
   ·replace hc74:¬(zbu n root d q=0):=by have:=zbY hc74;omega
    refine zg (zc (zF (ze (zd 2 [(14,(vI (zbu n root d q))),(75,(vI (zbu n root d q)))] (zg (zc (zf (zf (ze ?_)))))))))
    refine zd 1 [(76,(vI (zbu n root b p)))] (zb (zat (some 77) (((zbu n root b p:Nat):Int) !=((0:Nat):Int)) true (zcq (by omega)) ?_))
    refine zg (zc (zF (ze (zd 2 [(14,(vI (zbu n root b p))),(78,(vI (zbu n root b p)))] (zg (zc (zf (zf (ze ?_)))))))))
    refine zd 2 [(80,(vI (zbu n root b p))),(79,(vI (zbu n root b p)))] (zb (zat (some 81) (((zbu n root b p:Nat):Int) !=((zbu n root b p:Nat):Int)) false (zaL (by omega)) ?_))
    refine zg (zc (zr (zy (zc (zf (zf (ze (zd 1 [(82,(vI (zbu n root b p)))] (zb (zat (some 83) (((zbu n root b p:Nat):Int) !=((0:Nat):Int)) true (zcq (by omega)) ?_))))))))))
    refine zg (zc (zF (zf (ze (zd 9 [(92,vT),(91,vT),(90,vT),(89,(vI 0)),(88,(.slice none 0 0)),(87,vT),(86,vT),(85,(vI 0)),(84,(.slice none 0 0))] (zb (zi (some 93) (zmt _ (hK8.ext hEw9) (hK9.ext hEw9) (hK10.ext hEw9) (hK11.ext hEw9)) ?_)))))))
    rintro _ w16 ⟨rfl,hEw16⟩
    have hzw16:=hEw16.size
    refine zd 2 [(6,vT),(94,vT)] (zg (zc (zx (zu (zB vT ?_)))))
    have hX7:Ext w w16:=(((Ext.own (((Ext.own (((hEw1.trans hEw2).trans hEw3).trans hEw4) hCw5 (by omega)).trans hEw6).trans hEw7) hCw8 (by omega)).trans hEw9).trans hEw16)
    exact ⟨rfl,hX7⟩
   ·replace hc74:zbu n root d q=0:=by have:=zbX hc74;omega
    refine zg (zc (zr (zy (zc (zf (zf (ze (zd 1 [(76,(vI (zbu n root b p)))] (zb (zat (some 77) (((zbu n root b p:Nat):Int) !=((0:Nat):Int)) true (zcq (by omega)) ?_))))))))))
    refine zg (zc (zF (ze (zd 2 [(14,(vI (zbu n root b p))),(78,(vI (zbu n root b p)))] (zg (zc (zf (zf (ze ?_)))))))))
    refine zd 2 [(80,(vI (zbu n root b p))),(79,(vI (zbu n root b p)))] (zb (zat (some 81) (((zbu n root b p:Nat):Int) !=((zbu n root b p:Nat):Int)) false (zaL (by omega)) ?_))
    refine zg (zc (zr (zy (zc (zf (zf (ze (zd 1 [(82,(vI (zbu n root b p)))] (zb (zat (some 83) (((zbu n root b p:Nat):Int) !=((0:Nat):Int)) true (zcq (by omega)) ?_))))))))))
    refine zg (zc (zF (zf (ze (zd 9 [(92,vT),(91,vT),(90,vT),(89,(vI 0)),(88,(.slice none 0 0)),(87,vT),(86,vT),(85,(vI 0)),(84,(.slice none 0 0))] (zb (zi (some 93) (zmt _ (hK8.ext hEw9) (hK9.ext hEw9) (hK10.ext hEw9) (hK11.ext hEw9)) ?_)))))))
    rintro _ w17 ⟨rfl,hEw17⟩
    have hzw17:=hEw17.size
    refine zd 2 [(6,vT),(94,vT)] (zg (zc (zx (zu (zB vT ?_)))))
    have hX8:Ext w w17:=(((Ext.own (((Ext.own (((hEw1.trans hEw2).trans hEw3).trans hEw4) hCw5 (by omega)).trans hEw6).trans hEw7) hCw8 (by omega)).trans hEw9).trans hEw17)
    exact ⟨rfl,hX8⟩
theorem zwE (n:Int) (root:Dig) (b:Int) {lo_p hi_p:Nat} {a_p:Option Addr} {n_p c_p:Nat} {p:List Nod} (d:Int) {lo_q hi_q:Nat} {a_q:Option Addr} {n_q c_q:Nat} {q:List Nod} (w:World) (h_p:Ms zK 274 lo_p hi_p w a_p n_p c_p p) (h_q:Ms zK 274 lo_q hi_q w a_q n_q c_q q) (hp0:n_p≤8) (hp1:n_q≤8) (hp2:zbu n root b p=0) (hp3:¬zbu n root d q=0) (hg0:Gl 0 [vI 45,vI 33] w) (hg1:Gl 2 (w8C za2) w) (hg2:Gl 3 (zR kA) w) (hg3:Gl 1 [.iface 199 (.agg #[.pointer (some ⟨4,99,none⟩)])] w):
  Calls Tryz.prog 8 #[(.int .i64 n),(vA (zw root)),(vA [(.int .i64 b),(.slice a_p n_p c_p),(.int .i64 d),(.slice a_q n_q c_q)])] w (Ret fun r w'=>r=vT∧Ext w w'):=by
 refine zL (n:=102) (σ:= [(0,(.int .i64 n)),(1,(vA (zw root))),(2,(vA [(.int .i64 b),(.slice a_p n_p c_p),(.int .i64 d),(.slice a_q n_q c_q)]))]) Tryz.func8 rfl ?_
 replace h_p:=h_p.now;have hle_p:=h_p.le
 replace h_q:=h_q.now;have hle_q:=h_q.le
 have hgl0:=hg0.lt
 have hgl1:=hg1.lt
 have hgl2:=hg2.lt
 have hgl3:=hg3.lt
 have hlp:=h_p.len_eq;have hlep:=h_p.le;have hlq:=h_q.len_eq;have hleq:=h_q.le
 refine zf (ze (zb (zt (some 4) (Instr.box 23 (vA (zw root))) (vP w.heap.size 0) (zw root) 23 ?_)))
 intro w1 hBw1 hEw1
 have hzw1:=hEw1.size;have hlw1:=hBw1.lt
 refine zb (zt (some 5) (Instr.box 86 (vA [(.int .i64 b),(.slice a_p n_p c_p),(.int .i64 d),(.slice a_q n_q c_q)])) (vP w1.heap.size 0) ([(.int .i64 b),(.slice a_p n_p c_p),(.int .i64 d),(.slice a_q n_q c_q)]) 86 ?_)
 intro w2 hBw2 hEw2
 have hzw2:=hEw2.size;have hlw2:=hBw2.lt
 refine zd 1 [(6,vF)] (zg (zc (zf (zf (ze (zb (zj (some 15) (Instr.indexAt 86 (vP w1.heap.size 0) (vI 0)) (vP w1.heap.size 0) (zX (E:=26) (sz:=2) (m:=2) (by omega)) ?_)))))))
 refine zd 1 [(16,(vP w1.heap.size 1))] (zb (zj (some 17) (Instr.loadAt 24 (vP w1.heap.size 1)) (.slice a_p n_p c_p) (zo (hBw2.cell rfl)) ?_))
 refine zd 1 [(18,(vI n_p))] (zb (zat (some 19) (decide (((n_p:Nat):Int)>((8:Nat):Int))) false (zce (by omega)) ?_))
 refine zd 1 [(20,vF)] (zb (zj (some 21) (Instr.indexAt 86 (vP w1.heap.size 0) (vI 1)) (vP w1.heap.size 2) (zX (E:=26) (sz:=2) (m:=2) (by omega)) ?_))
 refine zd 1 [(22,(vP w1.heap.size 3))] (zb (zj (some 23) (Instr.loadAt 24 (vP w1.heap.size 3)) (.slice a_q n_q c_q) (zo (hBw2.cell rfl)) ?_))
 refine zd 1 [(24,(vI n_q))] (zb (zat (some 25) (decide (((n_q:Nat):Int)>((8:Nat):Int))) false (zce (by omega)) ?_))
 refine zd 1 [(26,vF)] (zg (zc (zr (zy (zc (zf (ze (zd 1 [(29,(.int .i64 n))] (zb (zj (some 30) (Instr.loadAt 23 (vP w.heap.size 0)) (vA (zw root)) (zD (vs:=zw root) ((hBw1.ext hEw2).all) (by rw [zac];kernel_rfl)) ?_))))))))))
 refine zb (zj (some 31) (Instr.indexAt 86 (vP w1.heap.size 0) (vI 0)) (vP w1.heap.size 0) (zX (E:=26) (sz:=2) (m:=2) (by omega)) ?_)
 refine zd 1 [(32,(vP w1.heap.size 0))] (zb (zj (some 33) (Instr.loadAt 3 (vP w1.heap.size 0)) (.int .i64 b) (zo (hBw2.cell rfl)) ?_))
 refine zb (zj (some 34) (Instr.indexAt 86 (vP w1.heap.size 0) (vI 0)) (vP w1.heap.size 0) (zX (E:=26) (sz:=2) (m:=2) (by omega)) ?_)
 refine zd 1 [(35,(vP w1.heap.size 1))] (zb (zj (some 36) (Instr.loadAt 24 (vP w1.heap.size 1)) (.slice a_p n_p c_p) (zo (hBw2.cell rfl)) ?_))
 refine zb (zi (some 37) (zwb n root b _ (((h_p.ext hEw1)).ext hEw2)) ?_)
 rintro _ w3 ⟨rfl,hEw3⟩
 have hzw3:=hEw3.size
 rw [show zbu n root b p=0 from hp2]
 refine zd 3 [(39,(vI 0)),(38,(vA (zE (zbs n root b p)))),(28,(.tuple #[(vA (zE (zbs n root b p))),(vI 0)]))] (zb (zt (some 7) (Instr.alloc 33 true (.tuple #[])) (vP w3.heap.size 0) (zE Rec.zero) 33 ?_))
 intro w4 hBw4 hEw4
 have hzw4:=hEw4.size;have hlw4:=hBw4.lt
 refine zb (zz 33 w3.heap.size 0 33 (vA (zE (zbs n root b p))) (zE Rec.zero) (zE (zbs n root b p)) hBw4 (by rw [zY];kernel_rfl) (by first |(simp;done)|(simp;omega)) (zaU _) ?_)
 intro w5 hBw5 hCw5
 have hzw5:=hCw5.size
 rw [zm _ _ (by simp)] at hBw5
 refine zd 1 [(8,(vI 0))] (zg (zc (zf (ze (zd 1 [(41,(.int .i64 n))] ?_)))))
 have hK1:=(((((((hBw1.ext hEw2)).ext hEw3)).ext hEw4)).chg hCw5 (fun hs=>by have h:_=_:=hs;omega))
 refine zb (zj (some 42) (Instr.loadAt 23 (vP w.heap.size 0)) (vA (zw root)) (zD (vs:=zw root) (hK1.all) (by rw [zac];kernel_rfl)) ?_)
 refine zb (zj (some 43) (Instr.indexAt 86 (vP w1.heap.size 0) (vI 1)) (vP w1.heap.size 2) (zX (E:=26) (sz:=2) (m:=2) (by omega)) ?_)
 refine zd 1 [(44,(vP w1.heap.size 2))] ?_
 have hK2:=(((((hBw2.ext hEw3)).ext hEw4)).chg hCw5 (fun hs=>by have h:_=_:=hs;omega))
 refine zb (zj (some 45) (Instr.loadAt 3 (vP w1.heap.size 2)) (.int .i64 d) (zo (hK2.cell rfl)) ?_)
 refine zb (zj (some 46) (Instr.indexAt 86 (vP w1.heap.size 0) (vI 1)) (vP w1.heap.size 2) (zX (E:=26) (sz:=2) (m:=2) (by omega)) ?_)
 refine zd 1 [(47,(vP w1.heap.size 3))] (zb (zj (some 48) (Instr.loadAt 24 (vP w1.heap.size 3)) (.slice a_q n_q c_q) (zo (hK2.cell rfl)) ?_))
 have hK3:=(((((((((h_q.ext hEw1)).ext hEw2)).ext hEw3)).ext hEw4)).chg hCw5 (fun k h1 h2 hs=>by have h:k=_:=hs;omega))
 refine zb (zi (some 49) (zwb n root d _ hK3) ?_)
 rintro _ w6 ⟨rfl,hEw6⟩
 have hzw6:=hEw6.size
 refine zd 3 [(51,(vI (zbu n root d q))),(50,(vA (zE (zbs n root d q)))),(40,(.tuple #[(vA (zE (zbs n root d q))),(vI (zbu n root d q))]))] (zb (zt (some 9) (Instr.alloc 33 true (.tuple #[])) (vP w6.heap.size 0) (zE Rec.zero) 33 ?_))
 intro w7 hBw7 hEw7
 have hzw7:=hEw7.size;have hlw7:=hBw7.lt
 refine zb (zz 33 w6.heap.size 0 33 (vA (zE (zbs n root d q))) (zE Rec.zero) (zE (zbs n root d q)) hBw7 (by rw [zY];kernel_rfl) (by first |(simp;done)|(simp;omega)) (zaU _) ?_)
 intro w8 hBw8 hCw8
 have hzw8:=hCw8.size
 rw [zm _ _ (by simp)] at hBw8
 refine zd 1 [(10,(vI (zbu n root d q)))] (zg (zc (zf (ze (zd 1 [(53,(.int .i64 n))] ?_)))))
 have hK4:=(((((hK1.ext hEw6)).ext hEw7)).chg hCw8 (fun hs=>by have h:_=_:=hs;omega))
 refine zb (zj (some 54) (Instr.loadAt 23 (vP w.heap.size 0)) (vA (zw root)) (zD (vs:=zw root) (hK4.all) (by rw [zac];kernel_rfl)) ?_)
 refine zb (zj (some 55) (Instr.indexAt 86 (vP w1.heap.size 0) (vI 0)) (vP w1.heap.size 0) (zX (E:=26) (sz:=2) (m:=2) (by omega)) ?_)
 have hK5:=(((((hK2.ext hEw6)).ext hEw7)).chg hCw8 (fun hs=>by have h:_=_:=hs;omega))
 refine zb (zj (some 56) (Instr.loadAt 26 (vP w1.heap.size 0)) (vA [(.int .i64 b),(.slice a_p n_p c_p)]) (zD (vs:= [(.int .i64 b),(.slice a_p n_p c_p)]) (hK5.at 0 [(.int .i64 b),(.slice a_p n_p c_p)] rfl)) ?_)
 refine zb (zj (some 57) (Instr.indexAt 86 (vP w1.heap.size 0) (vI 1)) (vP w1.heap.size 2) (zX (E:=26) (sz:=2) (m:=2) (by omega)) ?_)
 refine zb (zj (some 58) (Instr.loadAt 26 (vP w1.heap.size 2)) (vA [(.int .i64 d),(.slice a_q n_q c_q)]) (zD (vs:= [(.int .i64 d),(.slice a_q n_q c_q)]) (hK5.at 2 [(.int .i64 d),(.slice a_q n_q c_q)] rfl)) ?_)
 have hK6:=(((((((((((((((h_p.ext hEw1)).ext hEw2)).ext hEw3)).ext hEw4)).chg hCw5 (fun k h1 h2 hs=>by have h:k=_:=hs;omega))).ext hEw6)).ext hEw7)).chg hCw8 (fun k h1 h2 hs=>by have h:k=_:=hs;omega))
 have hK7:=(((((hK3.ext hEw6)).ext hEw7)).chg hCw8 (fun k h1 h2 hs=>by have h:k=_:=hs;omega))
 have hK8:=(((((((((((((((hg0.ext hEw1)).ext hEw2)).ext hEw3)).ext hEw4)).chg hCw5 (fun hs=>by have h:_=_:=hs;omega))).ext hEw6)).ext hEw7)).chg hCw8 (fun hs=>by have h:_=_:=hs;omega))
 have hK9:=(((((((((((((((hg1.ext hEw1)).ext hEw2)).ext hEw3)).ext hEw4)).chg hCw5 (fun hs=>by have h:_=_:=hs;omega))).ext hEw6)).ext hEw7)).chg hCw8 (fun hs=>by have h:_=_:=hs;omega))
 have hK10:=(((((((((((((((hg2.ext hEw1)).ext hEw2)).ext hEw3)).ext hEw4)).chg hCw5 (fun hs=>by have h:_=_:=hs;omega))).ext hEw6)).ext hEw7)).chg hCw8 (fun hs=>by have h:_=_:=hs;omega))
 have hK11:=(((((((((((((((hg3.ext hEw1)).ext hEw2)).ext hEw3)).ext hEw4)).chg hCw5 (fun hs=>by have h:_=_:=hs;omega))).ext hEw6)).ext hEw7)).chg hCw8 (fun hs=>by have h:_=_:=hs;omega))
 refine zb (zi (some 59) (zwx n root b d _ hK6 hK7 (by assumption) (by assumption) hK8 hK9 hK10 hK11) ?_)
 rintro _ w9 ⟨rfl,hEw9⟩
 have hzw9:=hEw9.size
 refine zd 7 [(13,(vI (zbu n root d q))),(12,(.slice none 0 0)),(11,(.slice none 0 0)),(62,(vI (zbu n root d q))),(61,(.slice none 0 0)),(60,(.slice none 0 0)),(52,(.tuple #[(.slice none 0 0),(.slice none 0 0),(vI (zbu n root d q))]))] (zg (zc (zf (ze (zd 1 [(14,(vI 0))] (zg (zc (zf (zf ?_)))))))))
 refine ze ?_
 have hK12:=(((((((hBw5.ext hEw6)).ext hEw7)).chg hCw8 (fun hs=>by have h:_=_:=hs;omega))).ext hEw9)
 refine zb (zj (some 63) (Instr.loadAt 33 (vP w3.heap.size 0)) (vA (zE (zbs n root b p))) (zD (vs:=zE (zbs n root b p)) (hK12.all) (by rw [zY];kernel_rfl)) ?_)
 refine zb (zj (some 64) (Instr.loadAt 33 (vP w6.heap.size 0)) (vA (zE (zbs n root d q))) (zD (vs:=zE (zbs n root d q)) ((hBw8.ext hEw9).all) (by rw [zY];kernel_rfl)) ?_)
 rcases Bool.eq_false_or_eq_true ((zbs n root b p).eqb (zbs n root d q)) with hq65 | hq65
 ·refine zb (zj (some 65) (bo .eql 33 (.tmp 63) (.tmp 64) (vA (zE (zbs n root b p))) (vA (zE (zbs n root d q)))) vT (zhE (r:=true) (T:=33) ((zb8 (dd:=9997) (t:=33) (t8:=5) (tn:=31) (td:=23) (e:=5) (t32:=28) (t64:=29) (zbs n root b p) (zbs n root d q)).trans (congrArg (fun b=>Result.ok b _) (show ((zbs n root b p).eqb (zbs n root d q))=true from hq65)))) ?_)
  refine zg (zc (zF (ze (zd 1 [(14,(vI 11))] (zg (zc (zf (zf (ze ?_)))))))))
  refine zb (zj (some 66) (Instr.indexAt 86 (vP w1.heap.size 0) (vI 0)) (vP w1.heap.size 0) (zX (E:=26) (sz:=2) (m:=2) (by omega)) ?_)
  refine zd 1 [(67,(vP w1.heap.size 0))] (zb (zj (some 68) (Instr.loadAt 3 (vP w1.heap.size 0)) (.int .i64 b) (zo ((hK5.ext hEw9).cell rfl)) ?_))
  refine zb (zj (some 69) (Instr.indexAt 86 (vP w1.heap.size 0) (vI 1)) (vP w1.heap.size 2) (zX (E:=26) (sz:=2) (m:=2) (by omega)) ?_)
  refine zd 1 [(70,(vP w1.heap.size 2))] (zb (zj (some 71) (Instr.loadAt 3 (vP w1.heap.size 2)) (.int .i64 d) (zo ((hK5.ext hEw9).cell rfl)) ?_))
  refine zb (zO (some 72) ((b !=d)) (fun hc72=> ?_) (fun hc72=> ?_))
  ·replace hc72:¬(b=d):=by have:=zbY hc72;omega
   refine zg (zc (zF (ze (zd 1 [(14,(vI 1))] (zg (zc (zf (zf (ze ?_)))))))))
   refine zd 1 [(73,(vI (zbu n root d q)))] (zb (zat (some 74) (((zbu n root d q:Nat):Int) !=((0:Nat):Int)) true (zcq (by omega)) ?_))
   refine zg (zc (zF (ze (zd 2 [(14,(vI (zbu n root d q))),(75,(vI (zbu n root d q)))] (zg (zc (zf (zf (ze ?_)))))))))
   refine zd 1 [(76,(vI 0))] (zb (zat (some 77) (((0:Nat):Int) !=((0:Nat):Int)) false (zaL (by omega)) ?_))
   refine zg (zc (zr (zy (zc (zf (zf (ze (zd 2 [(80,(vI (zbu n root d q))),(79,(vI (zbu n root d q)))] (zb (zat (some 81) (((zbu n root d q:Nat):Int) !=((zbu n root d q:Nat):Int)) false (zaL (by omega)) ?_))))))))))
   refine zg (zc (zr (zy (zc (zf (zf (ze (zd 1 [(82,(vI (zbu n root d q)))] (zb (zat (some 83) (((zbu n root d q:Nat):Int) !=((0:Nat):Int)) true (zcq (by omega)) ?_))))))))))
   refine zg (zc (zF (zf (ze (zd 9 [(92,vT),(91,vT),(90,vT),(89,(vI 0)),(88,(.slice none 0 0)),(87,vT),(86,vT),(85,(vI 0)),(84,(.slice none 0 0))] (zb (zi (some 93) (zmt _ (hK8.ext hEw9) (hK9.ext hEw9) (hK10.ext hEw9) (hK11.ext hEw9)) ?_)))))))
   rintro _ w10 ⟨rfl,hEw10⟩
   have hzw10:=hEw10.size
   refine zd 2 [(6,vT),(94,vT)] (zg (zc (zx (zu (zB vT ?_)))))
   have hX1:Ext w w10:=(((Ext.own (((Ext.own (((hEw1.trans hEw2).trans hEw3).trans hEw4) hCw5 (by omega)).trans hEw6).trans hEw7) hCw8 (by omega)).trans hEw9).trans hEw10)
   exact ⟨rfl,hX1⟩
  ·replace hc72:b=d:=by have:=zbX hc72;omega
   refine zg (zc (zr (zy (zc (zf (zf (ze (zd 1 [(73,(vI (zbu n root d q)))] (zb (zat (some 74) (((zbu n root d q:Nat):Int) !=((0:Nat):Int)) true (zcq (by omega)) ?_))))))))))
   refine zg (zc (zF (ze (zd 2 [(14,(vI (zbu n root d q))),(75,(vI (zbu n root d q)))] (zg (zc (zf (zf (ze ?_)))))))))
   refine zd 1 [(76,(vI 0))] (zb (zat (some 77) (((0:Nat):Int) !=((0:Nat):Int)) false (zaL (by omega)) ?_))
   refine zg (zc (zr (zy (zc (zf (zf (ze (zd 2 [(80,(vI (zbu n root d q))),(79,(vI (zbu n root d q)))] (zb (zat (some 81) (((zbu n root d q:Nat):Int) !=((zbu n root d q:Nat):Int)) false (zaL (by omega)) ?_))))))))))
   refine zg (zc (zr (zy (zc (zf (zf (ze (zd 1 [(82,(vI (zbu n root d q)))] (zb (zat (some 83) (((zbu n root d q:Nat):Int) !=((0:Nat):Int)) true (zcq (by omega)) ?_))))))))))
   refine zg (zc (zF (zf (ze (zd 9 [(92,vT),(91,vT),(90,vT),(89,(vI 0)),(88,(.slice none 0 0)),(87,vT),(86,vT),(85,(vI 0)),(84,(.slice none 0 0))] (zb (zi (some 93) (zmt _ (hK8.ext hEw9) (hK9.ext hEw9) (hK10.ext hEw9) (hK11.ext hEw9)) ?_)))))))
   rintro _ w11 ⟨rfl,hEw11⟩
   have hzw11:=hEw11.size
   refine zd 2 [(6,vT),(94,vT)] (zg (zc (zx (zu (zB vT ?_)))))
   have hX2:Ext w w11:=(((Ext.own (((Ext.own (((hEw1.trans hEw2).trans hEw3).trans hEw4) hCw5 (by omega)).trans hEw6).trans hEw7) hCw8 (by omega)).trans hEw9).trans hEw11)
   exact ⟨rfl,hX2⟩
 ·refine zb (zj (some 65) (bo .eql 33 (.tmp 63) (.tmp 64) (vA (zE (zbs n root b p))) (vA (zE (zbs n root d q)))) vF (zhE (r:=false) (T:=33) ((zb8 (dd:=9997) (t:=33) (t8:=5) (tn:=31) (td:=23) (e:=5) (t32:=28) (t64:=29) (zbs n root b p) (zbs n root d q)).trans (congrArg (fun b=>Result.ok b _) (show ((zbs n root b p).eqb (zbs n root d q))=false from hq65)))) ?_)
  refine zg (zc (zr (zy (zc (zf (zf (ze (zb (zj (some 66) (Instr.indexAt 86 (vP w1.heap.size 0) (vI 0)) (vP w1.heap.size 0) (zX (E:=26) (sz:=2) (m:=2) (by omega)) ?_)))))))))
  refine zd 1 [(67,(vP w1.heap.size 0))] (zb (zj (some 68) (Instr.loadAt 3 (vP w1.heap.size 0)) (.int .i64 b) (zo ((hK5.ext hEw9).cell rfl)) ?_))
  refine zb (zj (some 69) (Instr.indexAt 86 (vP w1.heap.size 0) (vI 1)) (vP w1.heap.size 2) (zX (E:=26) (sz:=2) (m:=2) (by omega)) ?_)
  refine zd 1 [(70,(vP w1.heap.size 2))] (zb (zj (some 71) (Instr.loadAt 3 (vP w1.heap.size 2)) (.int .i64 d) (zo ((hK5.ext hEw9).cell rfl)) ?_))
  refine zb (zO (some 72) ((b !=d)) (fun hc72=> ?_) (fun hc72=> ?_))
  ·replace hc72:¬(b=d):=by have:=zbY hc72;omega
   refine zg (zc (zF (ze (zd 1 [(14,(vI 1))] (zg (zc (zf (zf (ze ?_)))))))))
   refine zd 1 [(73,(vI (zbu n root d q)))] (zb (zat (some 74) (((zbu n root d q:Nat):Int) !=((0:Nat):Int)) true (zcq (by omega)) ?_))
   refine zg (zc (zF (ze (zd 2 [(14,(vI (zbu n root d q))),(75,(vI (zbu n root d q)))] (zg (zc (zf (zf (ze ?_)))))))))
   refine zd 1 [(76,(vI 0))] (zb (zat (some 77) (((0:Nat):Int) !=((0:Nat):Int)) false (zaL (by omega)) ?_))
   refine zg (zc (zr (zy (zc (zf (zf (ze (zd 2 [(80,(vI (zbu n root d q))),(79,(vI (zbu n root d q)))] (zb (zat (some 81) (((zbu n root d q:Nat):Int) !=((zbu n root d q:Nat):Int)) false (zaL (by omega)) ?_))))))))))
   refine zg (zc (zr (zy (zc (zf (zf (ze (zd 1 [(82,(vI (zbu n root d q)))] (zb (zat (some 83) (((zbu n root d q:Nat):Int) !=((0:Nat):Int)) true (zcq (by omega)) ?_))))))))))
   refine zg (zc (zF (zf (ze (zd 9 [(92,vT),(91,vT),(90,vT),(89,(vI 0)),(88,(.slice none 0 0)),(87,vT),(86,vT),(85,(vI 0)),(84,(.slice none 0 0))] (zb (zi (some 93) (zmt _ (hK8.ext hEw9) (hK9.ext hEw9) (hK10.ext hEw9) (hK11.ext hEw9)) ?_)))))))
   rintro _ w12 ⟨rfl,hEw12⟩
   have hzw12:=hEw12.size
   refine zd 2 [(6,vT),(94,vT)] (zg (zc (zx (zu (zB vT ?_)))))
   have hX3:Ext w w12:=(((Ext.own (((Ext.own (((hEw1.trans hEw2).trans hEw3).trans hEw4) hCw5 (by omega)).trans hEw6).trans hEw7) hCw8 (by omega)).trans hEw9).trans hEw12)
   exact ⟨rfl,hX3⟩
  ·replace hc72:b=d:=by have:=zbX hc72;omega
   refine zg (zc (zr (zy (zc (zf (zf (ze (zd 1 [(73,(vI (zbu n root d q)))] (zb (zat (some 74) (((zbu n root d q:Nat):Int) !=((0:Nat):Int)) true (zcq (by omega)) ?_))))))))))
   refine zg (zc (zF (ze (zd 2 [(14,(vI (zbu n root d q))),(75,(vI (zbu n root d q)))] (zg (zc (zf (zf (ze ?_)))))))))
   refine zd 1 [(76,(vI 0))] (zb (zat (some 77) (((0:Nat):Int) !=((0:Nat):Int)) false (zaL (by omega)) ?_))
   refine zg (zc (zr (zy (zc (zf (zf (ze (zd 2 [(80,(vI (zbu n root d q))),(79,(vI (zbu n root d q)))] (zb (zat (some 81) (((zbu n root d q:Nat):Int) !=((zbu n root d q:Nat):Int)) false (zaL (by omega)) ?_))))))))))
   refine zg (zc (zr (zy (zc (zf (zf (ze (zd 1 [(82,(vI (zbu n root d q)))] (zb (zat (some 83) (((zbu n root d q:Nat):Int) !=((0:Nat):Int)) true (zcq (by omega)) ?_))))))))))
   refine zg (zc (zF (zf (ze (zd 9 [(92,vT),(91,vT),(90,vT),(89,(vI 0)),(88,(.slice none 0 0)),(87,vT),(86,vT),(85,(vI 0)),(84,(.slice none 0 0))] (zb (zi (some 93) (zmt _ (hK8.ext hEw9) (hK9.ext hEw9) (hK10.ext hEw9) (hK11.ext hEw9)) ?_)))))))
   rintro _ w13 ⟨rfl,hEw13⟩
   have hzw13:=hEw13.size
   refine zd 2 [(6,vT),(94,vT)] (zg (zc (zx (zu (zB vT ?_)))))
   have hX4:Ext w w13:=(((Ext.own (((Ext.own (((hEw1.trans hEw2).trans hEw3).trans hEw4) hCw5 (by omega)).trans hEw6).trans hEw7) hCw8 (by omega)).trans hEw9).trans hEw13)
   exact ⟨rfl,hX4⟩
theorem zwH (n:Int) (root:Dig) (b:Int) {lo_p hi_p:Nat} {a_p:Option Addr} {n_p c_p:Nat} {p:List Nod} (d:Int) {lo_q hi_q:Nat} {a_q:Option Addr} {n_q c_q:Nat} {q:List Nod} (w:World) (h_p:Ms zK 274 lo_p hi_p w a_p n_p c_p p) (h_q:Ms zK 274 lo_q hi_q w a_q n_q c_q q) (hp0:n_p≤8) (hp1:n_q≤8) (hp2:zbu n root b p=0) (hp3:zbu n root d q=0) (hp4:b≠d) (hg0:Gl 0 [vI 45,vI 33] w) (hg1:Gl 2 (w8C za2) w) (hg2:Gl 3 (zR kA) w) (hg3:Gl 1 [.iface 199 (.agg #[.pointer (some ⟨4,99,none⟩)])] w):
  Calls Tryz.prog 8 #[(.int .i64 n),(vA (zw root)),(vA [(.int .i64 b),(.slice a_p n_p c_p),(.int .i64 d),(.slice a_q n_q c_q)])] w (Ret fun r w'=>r=vT∧Ext w w'):=by
 refine zL (n:=102) (σ:= [(0,(.int .i64 n)),(1,(vA (zw root))),(2,(vA [(.int .i64 b),(.slice a_p n_p c_p),(.int .i64 d),(.slice a_q n_q c_q)]))]) Tryz.func8 rfl ?_
 replace h_p:=h_p.now;have hle_p:=h_p.le
 replace h_q:=h_q.now;have hle_q:=h_q.le
 have hgl0:=hg0.lt
 have hgl1:=hg1.lt
 have hgl2:=hg2.lt
 have hgl3:=hg3.lt
 have hlp:=h_p.len_eq;have hlep:=h_p.le;have hlq:=h_q.len_eq;have hleq:=h_q.le
 refine zf (ze (zb (zt (some 4) (Instr.box 23 (vA (zw root))) (vP w.heap.size 0) (zw root) 23 ?_)))
 intro w1 hBw1 hEw1
 have hzw1:=hEw1.size;have hlw1:=hBw1.lt
 refine zb (zt (some 5) (Instr.box 86 (vA [(.int .i64 b),(.slice a_p n_p c_p),(.int .i64 d),(.slice a_q n_q c_q)])) (vP w1.heap.size 0) ([(.int .i64 b),(.slice a_p n_p c_p),(.int .i64 d),(.slice a_q n_q c_q)]) 86 ?_)
 intro w2 hBw2 hEw2
 have hzw2:=hEw2.size;have hlw2:=hBw2.lt
 refine zd 1 [(6,vF)] (zg (zc (zf (zf (ze (zb (zj (some 15) (Instr.indexAt 86 (vP w1.heap.size 0) (vI 0)) (vP w1.heap.size 0) (zX (E:=26) (sz:=2) (m:=2) (by omega)) ?_)))))))
 refine zd 1 [(16,(vP w1.heap.size 1))] (zb (zj (some 17) (Instr.loadAt 24 (vP w1.heap.size 1)) (.slice a_p n_p c_p) (zo (hBw2.cell rfl)) ?_))
 refine zd 1 [(18,(vI n_p))] (zb (zat (some 19) (decide (((n_p:Nat):Int)>((8:Nat):Int))) false (zce (by omega)) ?_))
 refine zd 1 [(20,vF)] (zb (zj (some 21) (Instr.indexAt 86 (vP w1.heap.size 0) (vI 1)) (vP w1.heap.size 2) (zX (E:=26) (sz:=2) (m:=2) (by omega)) ?_))
 refine zd 1 [(22,(vP w1.heap.size 3))] (zb (zj (some 23) (Instr.loadAt 24 (vP w1.heap.size 3)) (.slice a_q n_q c_q) (zo (hBw2.cell rfl)) ?_))
 refine zd 1 [(24,(vI n_q))] (zb (zat (some 25) (decide (((n_q:Nat):Int)>((8:Nat):Int))) false (zce (by omega)) ?_))
 refine zd 1 [(26,vF)] (zg (zc (zr (zy (zc (zf (ze (zd 1 [(29,(.int .i64 n))] (zb (zj (some 30) (Instr.loadAt 23 (vP w.heap.size 0)) (vA (zw root)) (zD (vs:=zw root) ((hBw1.ext hEw2).all) (by rw [zac];kernel_rfl)) ?_))))))))))
 refine zb (zj (some 31) (Instr.indexAt 86 (vP w1.heap.size 0) (vI 0)) (vP w1.heap.size 0) (zX (E:=26) (sz:=2) (m:=2) (by omega)) ?_)
 refine zd 1 [(32,(vP w1.heap.size 0))] (zb (zj (some 33) (Instr.loadAt 3 (vP w1.heap.size 0)) (.int .i64 b) (zo (hBw2.cell rfl)) ?_))
 refine zb (zj (some 34) (Instr.indexAt 86 (vP w1.heap.size 0) (vI 0)) (vP w1.heap.size 0) (zX (E:=26) (sz:=2) (m:=2) (by omega)) ?_)
 refine zd 1 [(35,(vP w1.heap.size 1))] (zb (zj (some 36) (Instr.loadAt 24 (vP w1.heap.size 1)) (.slice a_p n_p c_p) (zo (hBw2.cell rfl)) ?_))
 refine zb (zi (some 37) (zwb n root b _ (((h_p.ext hEw1)).ext hEw2)) ?_)
 rintro _ w3 ⟨rfl,hEw3⟩
 have hzw3:=hEw3.size
 rw [show zbu n root b p=0 from hp2]
 refine zd 3 [(39,(vI 0)),(38,(vA (zE (zbs n root b p)))),(28,(.tuple #[(vA (zE (zbs n root b p))),(vI 0)]))] (zb (zt (some 7) (Instr.alloc 33 true (.tuple #[])) (vP w3.heap.size 0) (zE Rec.zero) 33 ?_))
 intro w4 hBw4 hEw4
 have hzw4:=hEw4.size;have hlw4:=hBw4.lt
 refine zb (zz 33 w3.heap.size 0 33 (vA (zE (zbs n root b p))) (zE Rec.zero) (zE (zbs n root b p)) hBw4 (by rw [zY];kernel_rfl) (by first |(simp;done)|(simp;omega)) (zaU _) ?_)
 intro w5 hBw5 hCw5
 have hzw5:=hCw5.size
 rw [zm _ _ (by simp)] at hBw5
 refine zd 1 [(8,(vI 0))] (zg (zc (zf (ze (zd 1 [(41,(.int .i64 n))] ?_)))))
 have hK1:=(((((((hBw1.ext hEw2)).ext hEw3)).ext hEw4)).chg hCw5 (fun hs=>by have h:_=_:=hs;omega))
 refine zb (zj (some 42) (Instr.loadAt 23 (vP w.heap.size 0)) (vA (zw root)) (zD (vs:=zw root) (hK1.all) (by rw [zac];kernel_rfl)) ?_)
 refine zb (zj (some 43) (Instr.indexAt 86 (vP w1.heap.size 0) (vI 1)) (vP w1.heap.size 2) (zX (E:=26) (sz:=2) (m:=2) (by omega)) ?_)
 refine zd 1 [(44,(vP w1.heap.size 2))] ?_
 have hK2:=(((((hBw2.ext hEw3)).ext hEw4)).chg hCw5 (fun hs=>by have h:_=_:=hs;omega))
 refine zb (zj (some 45) (Instr.loadAt 3 (vP w1.heap.size 2)) (.int .i64 d) (zo (hK2.cell rfl)) ?_)
 refine zb (zj (some 46) (Instr.indexAt 86 (vP w1.heap.size 0) (vI 1)) (vP w1.heap.size 2) (zX (E:=26) (sz:=2) (m:=2) (by omega)) ?_)
 refine zd 1 [(47,(vP w1.heap.size 3))] (zb (zj (some 48) (Instr.loadAt 24 (vP w1.heap.size 3)) (.slice a_q n_q c_q) (zo (hK2.cell rfl)) ?_))
 have hK3:=(((((((((h_q.ext hEw1)).ext hEw2)).ext hEw3)).ext hEw4)).chg hCw5 (fun k h1 h2 hs=>by have h:k=_:=hs;omega))
 refine zb (zi (some 49) (zwb n root d _ hK3) ?_)
 rintro _ w6 ⟨rfl,hEw6⟩
 have hzw6:=hEw6.size
 rw [show zbu n root d q=0 from hp3]
 refine zd 3 [(51,(vI 0)),(50,(vA (zE (zbs n root d q)))),(40,(.tuple #[(vA (zE (zbs n root d q))),(vI 0)]))] (zb (zt (some 9) (Instr.alloc 33 true (.tuple #[])) (vP w6.heap.size 0) (zE Rec.zero) 33 ?_))
 intro w7 hBw7 hEw7
 have hzw7:=hEw7.size;have hlw7:=hBw7.lt
 refine zb (zz 33 w6.heap.size 0 33 (vA (zE (zbs n root d q))) (zE Rec.zero) (zE (zbs n root d q)) hBw7 (by rw [zY];kernel_rfl) (by first |(simp;done)|(simp;omega)) (zaU _) ?_)
 intro w8 hBw8 hCw8
 have hzw8:=hCw8.size
 rw [zm _ _ (by simp)] at hBw8
 refine zd 1 [(10,(vI 0))] (zg (zc (zf (ze (zd 1 [(53,(.int .i64 n))] ?_)))))
 have hK4:=(((((hK1.ext hEw6)).ext hEw7)).chg hCw8 (fun hs=>by have h:_=_:=hs;omega))
 refine zb (zj (some 54) (Instr.loadAt 23 (vP w.heap.size 0)) (vA (zw root)) (zD (vs:=zw root) (hK4.all) (by rw [zac];kernel_rfl)) ?_)
 refine zb (zj (some 55) (Instr.indexAt 86 (vP w1.heap.size 0) (vI 0)) (vP w1.heap.size 0) (zX (E:=26) (sz:=2) (m:=2) (by omega)) ?_)
 have hK5:=(((((hK2.ext hEw6)).ext hEw7)).chg hCw8 (fun hs=>by have h:_=_:=hs;omega))
 refine zb (zj (some 56) (Instr.loadAt 26 (vP w1.heap.size 0)) (vA [(.int .i64 b),(.slice a_p n_p c_p)]) (zD (vs:= [(.int .i64 b),(.slice a_p n_p c_p)]) (hK5.at 0 [(.int .i64 b),(.slice a_p n_p c_p)] rfl)) ?_)
 refine zb (zj (some 57) (Instr.indexAt 86 (vP w1.heap.size 0) (vI 1)) (vP w1.heap.size 2) (zX (E:=26) (sz:=2) (m:=2) (by omega)) ?_)
 refine zb (zj (some 58) (Instr.loadAt 26 (vP w1.heap.size 2)) (vA [(.int .i64 d),(.slice a_q n_q c_q)]) (zD (vs:= [(.int .i64 d),(.slice a_q n_q c_q)]) (hK5.at 2 [(.int .i64 d),(.slice a_q n_q c_q)] rfl)) ?_)
 have hK6:=(((((((((((((((h_p.ext hEw1)).ext hEw2)).ext hEw3)).ext hEw4)).chg hCw5 (fun k h1 h2 hs=>by have h:k=_:=hs;omega))).ext hEw6)).ext hEw7)).chg hCw8 (fun k h1 h2 hs=>by have h:k=_:=hs;omega))
 have hK7:=(((((hK3.ext hEw6)).ext hEw7)).chg hCw8 (fun k h1 h2 hs=>by have h:k=_:=hs;omega))
 have hK8:=(((((((((((((((hg0.ext hEw1)).ext hEw2)).ext hEw3)).ext hEw4)).chg hCw5 (fun hs=>by have h:_=_:=hs;omega))).ext hEw6)).ext hEw7)).chg hCw8 (fun hs=>by have h:_=_:=hs;omega))
 have hK9:=(((((((((((((((hg1.ext hEw1)).ext hEw2)).ext hEw3)).ext hEw4)).chg hCw5 (fun hs=>by have h:_=_:=hs;omega))).ext hEw6)).ext hEw7)).chg hCw8 (fun hs=>by have h:_=_:=hs;omega))
 have hK10:=(((((((((((((((hg2.ext hEw1)).ext hEw2)).ext hEw3)).ext hEw4)).chg hCw5 (fun hs=>by have h:_=_:=hs;omega))).ext hEw6)).ext hEw7)).chg hCw8 (fun hs=>by have h:_=_:=hs;omega))
 have hK11:=(((((((((((((((hg3.ext hEw1)).ext hEw2)).ext hEw3)).ext hEw4)).chg hCw5 (fun hs=>by have h:_=_:=hs;omega))).ext hEw6)).ext hEw7)).chg hCw8 (fun hs=>by have h:_=_:=hs;omega))
 refine zb (zi (some 59) (zq0 n root b d _ hK6 hK7 (by assumption) (by assumption) (by assumption) hK8 hK9 hK10 hK11) ?_)
 rintro _ w9 ⟨rfl,hEw9⟩
 have hzw9:=hEw9.size
 refine zd 7 [(13,(vI 1)),(12,(.slice none 0 0)),(11,(.slice none 0 0)),(62,(vI 1)),(61,(.slice none 0 0)),(60,(.slice none 0 0)),(52,(.tuple #[(.slice none 0 0),(.slice none 0 0),(vI 1)]))] (zg (zc (zf (ze (zd 1 [(14,(vI 0))] (zg (zc (zf (zf ?_)))))))))
 refine ze ?_
 have hK12:=(((((((hBw5.ext hEw6)).ext hEw7)).chg hCw8 (fun hs=>by have h:_=_:=hs;omega))).ext hEw9)
 refine zb (zj (some 63) (Instr.loadAt 33 (vP w3.heap.size 0)) (vA (zE (zbs n root b p))) (zD (vs:=zE (zbs n root b p)) (hK12.all) (by rw [zY];kernel_rfl)) ?_)
 refine zb (zj (some 64) (Instr.loadAt 33 (vP w6.heap.size 0)) (vA (zE (zbs n root d q))) (zD (vs:=zE (zbs n root d q)) ((hBw8.ext hEw9).all) (by rw [zY];kernel_rfl)) ?_)
 rcases Bool.eq_false_or_eq_true ((zbs n root b p).eqb (zbs n root d q)) with hq65 | hq65
 ·refine zb (zj (some 65) (bo .eql 33 (.tmp 63) (.tmp 64) (vA (zE (zbs n root b p))) (vA (zE (zbs n root d q)))) vT (zhE (r:=true) (T:=33) ((zb8 (dd:=9997) (t:=33) (t8:=5) (tn:=31) (td:=23) (e:=5) (t32:=28) (t64:=29) (zbs n root b p) (zbs n root d q)).trans (congrArg (fun b=>Result.ok b _) (show ((zbs n root b p).eqb (zbs n root d q))=true from hq65)))) ?_)
  refine zg (zc (zF (ze (zd 1 [(14,(vI 11))] (zg (zc (zf (zf (ze ?_)))))))))
  refine zb (zj (some 66) (Instr.indexAt 86 (vP w1.heap.size 0) (vI 0)) (vP w1.heap.size 0) (zX (E:=26) (sz:=2) (m:=2) (by omega)) ?_)
  refine zd 1 [(67,(vP w1.heap.size 0))] (zb (zj (some 68) (Instr.loadAt 3 (vP w1.heap.size 0)) (.int .i64 b) (zo ((hK5.ext hEw9).cell rfl)) ?_))
  refine zb (zj (some 69) (Instr.indexAt 86 (vP w1.heap.size 0) (vI 1)) (vP w1.heap.size 2) (zX (E:=26) (sz:=2) (m:=2) (by omega)) ?_)
  refine zd 1 [(70,(vP w1.heap.size 2))] (zb (zj (some 71) (Instr.loadAt 3 (vP w1.heap.size 2)) (.int .i64 d) (zo ((hK5.ext hEw9).cell rfl)) ?_))
  refine zb (zat (some 72) (b !=d) true (zcq (by omega)) ?_)
  refine zg (zc (zF (ze (zd 1 [(14,(vI 1))] (zg (zc (zf (zf (ze ?_)))))))))
  refine zd 1 [(73,(vI 0))] (zb (zat (some 74) (((0:Nat):Int) !=((0:Nat):Int)) false (zaL (by omega)) ?_))
  refine zg (zc (zr (zy (zc (zf (zf (ze (zd 1 [(76,(vI 0))] (zb (zat (some 77) (((0:Nat):Int) !=((0:Nat):Int)) false (zaL (by omega)) ?_))))))))))
  refine zg (zc (zr (zy (zc (zf (zf (ze (zd 2 [(80,(vI 1)),(79,(vI 1))] (zb (zat (some 81) (((1:Nat):Int) !=((1:Nat):Int)) false (zaL (by omega)) ?_))))))))))
  refine zg (zc (zr (zy (zc (zf (zf (ze (zd 1 [(82,(vI 1))] (zb (zat (some 83) (((1:Nat):Int) !=((0:Nat):Int)) true (zcq (by omega)) ?_))))))))))
  refine zg (zc (zF (zf (ze (zd 9 [(92,vT),(91,vT),(90,vT),(89,(vI 0)),(88,(.slice none 0 0)),(87,vT),(86,vT),(85,(vI 0)),(84,(.slice none 0 0))] (zb (zi (some 93) (zmt _ (hK8.ext hEw9) (hK9.ext hEw9) (hK10.ext hEw9) (hK11.ext hEw9)) ?_)))))))
  rintro _ w10 ⟨rfl,hEw10⟩
  have hzw10:=hEw10.size
  refine zd 2 [(6,vT),(94,vT)] (zg (zc (zx (zu (zB vT ?_)))))
  have hX1:Ext w w10:=(((Ext.own (((Ext.own (((hEw1.trans hEw2).trans hEw3).trans hEw4) hCw5 (by omega)).trans hEw6).trans hEw7) hCw8 (by omega)).trans hEw9).trans hEw10)
  exact ⟨rfl,hX1⟩
 ·refine zb (zj (some 65) (bo .eql 33 (.tmp 63) (.tmp 64) (vA (zE (zbs n root b p))) (vA (zE (zbs n root d q)))) vF (zhE (r:=false) (T:=33) ((zb8 (dd:=9997) (t:=33) (t8:=5) (tn:=31) (td:=23) (e:=5) (t32:=28) (t64:=29) (zbs n root b p) (zbs n root d q)).trans (congrArg (fun b=>Result.ok b _) (show ((zbs n root b p).eqb (zbs n root d q))=false from hq65)))) ?_)
  refine zg (zc (zr (zy (zc (zf (zf (ze (zb (zj (some 66) (Instr.indexAt 86 (vP w1.heap.size 0) (vI 0)) (vP w1.heap.size 0) (zX (E:=26) (sz:=2) (m:=2) (by omega)) ?_)))))))))
  refine zd 1 [(67,(vP w1.heap.size 0))] (zb (zj (some 68) (Instr.loadAt 3 (vP w1.heap.size 0)) (.int .i64 b) (zo ((hK5.ext hEw9).cell rfl)) ?_))
  refine zb (zj (some 69) (Instr.indexAt 86 (vP w1.heap.size 0) (vI 1)) (vP w1.heap.size 2) (zX (E:=26) (sz:=2) (m:=2) (by omega)) ?_)
  refine zd 1 [(70,(vP w1.heap.size 2))] (zb (zj (some 71) (Instr.loadAt 3 (vP w1.heap.size 2)) (.int .i64 d) (zo ((hK5.ext hEw9).cell rfl)) ?_))
  refine zb (zat (some 72) (b !=d) true (zcq (by omega)) ?_)
  refine zg (zc (zF (ze (zd 1 [(14,(vI 1))] (zg (zc (zf (zf (ze ?_)))))))))
  refine zd 1 [(73,(vI 0))] (zb (zat (some 74) (((0:Nat):Int) !=((0:Nat):Int)) false (zaL (by omega)) ?_))
  refine zg (zc (zr (zy (zc (zf (zf (ze (zd 1 [(76,(vI 0))] (zb (zat (some 77) (((0:Nat):Int) !=((0:Nat):Int)) false (zaL (by omega)) ?_))))))))))
  refine zg (zc (zr (zy (zc (zf (zf (ze (zd 2 [(80,(vI 1)),(79,(vI 1))] (zb (zat (some 81) (((1:Nat):Int) !=((1:Nat):Int)) false (zaL (by omega)) ?_))))))))))
  refine zg (zc (zr (zy (zc (zf (zf (ze (zd 1 [(82,(vI 1))] (zb (zat (some 83) (((1:Nat):Int) !=((0:Nat):Int)) true (zcq (by omega)) ?_))))))))))
  refine zg (zc (zF (zf (ze (zd 9 [(92,vT),(91,vT),(90,vT),(89,(vI 0)),(88,(.slice none 0 0)),(87,vT),(86,vT),(85,(vI 0)),(84,(.slice none 0 0))] (zb (zi (some 93) (zmt _ (hK8.ext hEw9) (hK9.ext hEw9) (hK10.ext hEw9) (hK11.ext hEw9)) ?_)))))))
  rintro _ w11 ⟨rfl,hEw11⟩
  have hzw11:=hEw11.size
  refine zd 2 [(6,vT),(94,vT)] (zg (zc (zx (zu (zB vT ?_)))))
  have hX2:Ext w w11:=(((Ext.own (((Ext.own (((hEw1.trans hEw2).trans hEw3).trans hEw4) hCw5 (by omega)).trans hEw6).trans hEw7) hCw8 (by omega)).trans hEw9).trans hEw11)
  exact ⟨rfl,hX2⟩
theorem zwF (n:Int) (root:Dig) (b:Int) {lo_p hi_p:Nat} {a_p:Option Addr} {n_p c_p:Nat} {p:List Nod} (d:Int) {lo_q hi_q:Nat} {a_q:Option Addr} {n_q c_q:Nat} {q:List Nod} (w:World) (h_p:Ms zK 274 lo_p hi_p w a_p n_p c_p p) (h_q:Ms zK 274 lo_q hi_q w a_q n_q c_q q) (hp0:n_p≤8) (hp1:n_q≤8) (hp2:zbu n root b p=0) (hp3:zbu n root d q=0) (hp4:b=d) (hp5:zbs n root b p=zbs n root d q) (hg0:Gl 0 [vI 45,vI 33] w) (hg1:Gl 2 (w8C za2) w) (hg2:Gl 3 (zR kA) w) (hg3:Gl 1 [.iface 199 (.agg #[.pointer (some ⟨4,99,none⟩)])] w):
  Calls Tryz.prog 8 #[(.int .i64 n),(vA (zw root)),(vA [(.int .i64 b),(.slice a_p n_p c_p),(.int .i64 d),(.slice a_q n_q c_q)])] w (Ret fun r w'=>r=vT∧Ext w w'):=by
 refine zL (n:=102) (σ:= [(0,(.int .i64 n)),(1,(vA (zw root))),(2,(vA [(.int .i64 b),(.slice a_p n_p c_p),(.int .i64 d),(.slice a_q n_q c_q)]))]) Tryz.func8 rfl ?_
 replace h_p:=h_p.now;have hle_p:=h_p.le
 replace h_q:=h_q.now;have hle_q:=h_q.le
 have hgl0:=hg0.lt
 have hgl1:=hg1.lt
 have hgl2:=hg2.lt
 have hgl3:=hg3.lt
 have hlp:=h_p.len_eq;have hlep:=h_p.le;have hlq:=h_q.len_eq;have hleq:=h_q.le
 refine zf (ze (zb (zt (some 4) (Instr.box 23 (vA (zw root))) (vP w.heap.size 0) (zw root) 23 ?_)))
 intro w1 hBw1 hEw1
 have hzw1:=hEw1.size;have hlw1:=hBw1.lt
 refine zb (zt (some 5) (Instr.box 86 (vA [(.int .i64 b),(.slice a_p n_p c_p),(.int .i64 d),(.slice a_q n_q c_q)])) (vP w1.heap.size 0) ([(.int .i64 b),(.slice a_p n_p c_p),(.int .i64 d),(.slice a_q n_q c_q)]) 86 ?_)
 intro w2 hBw2 hEw2
 have hzw2:=hEw2.size;have hlw2:=hBw2.lt
 refine zd 1 [(6,vF)] (zg (zc (zf (zf (ze (zb (zj (some 15) (Instr.indexAt 86 (vP w1.heap.size 0) (vI 0)) (vP w1.heap.size 0) (zX (E:=26) (sz:=2) (m:=2) (by omega)) ?_)))))))
 refine zd 1 [(16,(vP w1.heap.size 1))] (zb (zj (some 17) (Instr.loadAt 24 (vP w1.heap.size 1)) (.slice a_p n_p c_p) (zo (hBw2.cell rfl)) ?_))
 refine zd 1 [(18,(vI n_p))] (zb (zat (some 19) (decide (((n_p:Nat):Int)>((8:Nat):Int))) false (zce (by omega)) ?_))
 refine zd 1 [(20,vF)] (zb (zj (some 21) (Instr.indexAt 86 (vP w1.heap.size 0) (vI 1)) (vP w1.heap.size 2) (zX (E:=26) (sz:=2) (m:=2) (by omega)) ?_))
 refine zd 1 [(22,(vP w1.heap.size 3))] (zb (zj (some 23) (Instr.loadAt 24 (vP w1.heap.size 3)) (.slice a_q n_q c_q) (zo (hBw2.cell rfl)) ?_))
 refine zd 1 [(24,(vI n_q))] (zb (zat (some 25) (decide (((n_q:Nat):Int)>((8:Nat):Int))) false (zce (by omega)) ?_))
 refine zd 1 [(26,vF)] (zg (zc (zr (zy (zc (zf (ze (zd 1 [(29,(.int .i64 n))] (zb (zj (some 30) (Instr.loadAt 23 (vP w.heap.size 0)) (vA (zw root)) (zD (vs:=zw root) ((hBw1.ext hEw2).all) (by rw [zac];kernel_rfl)) ?_))))))))))
 refine zb (zj (some 31) (Instr.indexAt 86 (vP w1.heap.size 0) (vI 0)) (vP w1.heap.size 0) (zX (E:=26) (sz:=2) (m:=2) (by omega)) ?_)
 refine zd 1 [(32,(vP w1.heap.size 0))] (zb (zj (some 33) (Instr.loadAt 3 (vP w1.heap.size 0)) (.int .i64 b) (zo (hBw2.cell rfl)) ?_))
 refine zb (zj (some 34) (Instr.indexAt 86 (vP w1.heap.size 0) (vI 0)) (vP w1.heap.size 0) (zX (E:=26) (sz:=2) (m:=2) (by omega)) ?_)
 refine zd 1 [(35,(vP w1.heap.size 1))] (zb (zj (some 36) (Instr.loadAt 24 (vP w1.heap.size 1)) (.slice a_p n_p c_p) (zo (hBw2.cell rfl)) ?_))
 refine zb (zi (some 37) (zwb n root b _ (((h_p.ext hEw1)).ext hEw2)) ?_)
 rintro _ w3 ⟨rfl,hEw3⟩
 have hzw3:=hEw3.size
 rw [show zbu n root b p=0 from hp2]
 refine zd 3 [(39,(vI 0)),(38,(vA (zE (zbs n root b p)))),(28,(.tuple #[(vA (zE (zbs n root b p))),(vI 0)]))] (zb (zt (some 7) (Instr.alloc 33 true (.tuple #[])) (vP w3.heap.size 0) (zE Rec.zero) 33 ?_))
 intro w4 hBw4 hEw4
 have hzw4:=hEw4.size;have hlw4:=hBw4.lt
 refine zb (zz 33 w3.heap.size 0 33 (vA (zE (zbs n root b p))) (zE Rec.zero) (zE (zbs n root b p)) hBw4 (by rw [zY];kernel_rfl) (by first |(simp;done)|(simp;omega)) (zaU _) ?_)
 intro w5 hBw5 hCw5
 have hzw5:=hCw5.size
 rw [zm _ _ (by simp)] at hBw5
 refine zd 1 [(8,(vI 0))] (zg (zc (zf (ze (zd 1 [(41,(.int .i64 n))] ?_)))))
 have hK1:=(((((((hBw1.ext hEw2)).ext hEw3)).ext hEw4)).chg hCw5 (fun hs=>by have h:_=_:=hs;omega))
 refine zb (zj (some 42) (Instr.loadAt 23 (vP w.heap.size 0)) (vA (zw root)) (zD (vs:=zw root) (hK1.all) (by rw [zac];kernel_rfl)) ?_)
 refine zb (zj (some 43) (Instr.indexAt 86 (vP w1.heap.size 0) (vI 1)) (vP w1.heap.size 2) (zX (E:=26) (sz:=2) (m:=2) (by omega)) ?_)
 refine zd 1 [(44,(vP w1.heap.size 2))] ?_
 have hK2:=(((((hBw2.ext hEw3)).ext hEw4)).chg hCw5 (fun hs=>by have h:_=_:=hs;omega))
 refine zb (zj (some 45) (Instr.loadAt 3 (vP w1.heap.size 2)) (.int .i64 d) (zo (hK2.cell rfl)) ?_)
 refine zb (zj (some 46) (Instr.indexAt 86 (vP w1.heap.size 0) (vI 1)) (vP w1.heap.size 2) (zX (E:=26) (sz:=2) (m:=2) (by omega)) ?_)
 refine zd 1 [(47,(vP w1.heap.size 3))] (zb (zj (some 48) (Instr.loadAt 24 (vP w1.heap.size 3)) (.slice a_q n_q c_q) (zo (hK2.cell rfl)) ?_))
 have hK3:=(((((((((h_q.ext hEw1)).ext hEw2)).ext hEw3)).ext hEw4)).chg hCw5 (fun k h1 h2 hs=>by have h:k=_:=hs;omega))
 refine zb (zi (some 49) (zwb n root d _ hK3) ?_)
 rintro _ w6 ⟨rfl,hEw6⟩
 have hzw6:=hEw6.size
 rw [show zbu n root d q=0 from hp3]
 refine zd 3 [(51,(vI 0)),(50,(vA (zE (zbs n root d q)))),(40,(.tuple #[(vA (zE (zbs n root d q))),(vI 0)]))] (zb (zt (some 9) (Instr.alloc 33 true (.tuple #[])) (vP w6.heap.size 0) (zE Rec.zero) 33 ?_))
 intro w7 hBw7 hEw7
 have hzw7:=hEw7.size;have hlw7:=hBw7.lt
 refine zb (zz 33 w6.heap.size 0 33 (vA (zE (zbs n root d q))) (zE Rec.zero) (zE (zbs n root d q)) hBw7 (by rw [zY];kernel_rfl) (by first |(simp;done)|(simp;omega)) (zaU _) ?_)
 intro w8 hBw8 hCw8
 have hzw8:=hCw8.size
 rw [zm _ _ (by simp)] at hBw8
 refine zd 1 [(10,(vI 0))] (zg (zc (zf (ze (zd 1 [(53,(.int .i64 n))] ?_)))))
 have hK4:=(((((hK1.ext hEw6)).ext hEw7)).chg hCw8 (fun hs=>by have h:_=_:=hs;omega))
 refine zb (zj (some 54) (Instr.loadAt 23 (vP w.heap.size 0)) (vA (zw root)) (zD (vs:=zw root) (hK4.all) (by rw [zac];kernel_rfl)) ?_)
 refine zb (zj (some 55) (Instr.indexAt 86 (vP w1.heap.size 0) (vI 0)) (vP w1.heap.size 0) (zX (E:=26) (sz:=2) (m:=2) (by omega)) ?_)
 have hK5:=(((((hK2.ext hEw6)).ext hEw7)).chg hCw8 (fun hs=>by have h:_=_:=hs;omega))
 refine zb (zj (some 56) (Instr.loadAt 26 (vP w1.heap.size 0)) (vA [(.int .i64 b),(.slice a_p n_p c_p)]) (zD (vs:= [(.int .i64 b),(.slice a_p n_p c_p)]) (hK5.at 0 [(.int .i64 b),(.slice a_p n_p c_p)] rfl)) ?_)
 refine zb (zj (some 57) (Instr.indexAt 86 (vP w1.heap.size 0) (vI 1)) (vP w1.heap.size 2) (zX (E:=26) (sz:=2) (m:=2) (by omega)) ?_)
 refine zb (zj (some 58) (Instr.loadAt 26 (vP w1.heap.size 2)) (vA [(.int .i64 d),(.slice a_q n_q c_q)]) (zD (vs:= [(.int .i64 d),(.slice a_q n_q c_q)]) (hK5.at 2 [(.int .i64 d),(.slice a_q n_q c_q)] rfl)) ?_)
 have hK6:=(((((((((((((((h_p.ext hEw1)).ext hEw2)).ext hEw3)).ext hEw4)).chg hCw5 (fun k h1 h2 hs=>by have h:k=_:=hs;omega))).ext hEw6)).ext hEw7)).chg hCw8 (fun k h1 h2 hs=>by have h:k=_:=hs;omega))
 have hK7:=(((((hK3.ext hEw6)).ext hEw7)).chg hCw8 (fun k h1 h2 hs=>by have h:k=_:=hs;omega))
 have hK8:=(((((((((((((((hg0.ext hEw1)).ext hEw2)).ext hEw3)).ext hEw4)).chg hCw5 (fun hs=>by have h:_=_:=hs;omega))).ext hEw6)).ext hEw7)).chg hCw8 (fun hs=>by have h:_=_:=hs;omega))
 have hK9:=(((((((((((((((hg1.ext hEw1)).ext hEw2)).ext hEw3)).ext hEw4)).chg hCw5 (fun hs=>by have h:_=_:=hs;omega))).ext hEw6)).ext hEw7)).chg hCw8 (fun hs=>by have h:_=_:=hs;omega))
 have hK10:=(((((((((((((((hg2.ext hEw1)).ext hEw2)).ext hEw3)).ext hEw4)).chg hCw5 (fun hs=>by have h:_=_:=hs;omega))).ext hEw6)).ext hEw7)).chg hCw8 (fun hs=>by have h:_=_:=hs;omega))
 have hK11:=(((((((((((((((hg3.ext hEw1)).ext hEw2)).ext hEw3)).ext hEw4)).chg hCw5 (fun hs=>by have h:_=_:=hs;omega))).ext hEw6)).ext hEw7)).chg hCw8 (fun hs=>by have h:_=_:=hs;omega))
 refine zb (zi (some 59) (zwy n root b d _ hK6 hK7 (by assumption) (by assumption) (by assumption) (by assumption) hK8 hK9 hK10 hK11) ?_)
 rintro _ w9 ⟨rfl,hEw9⟩
 have hzw9:=hEw9.size
 refine zd 7 [(13,(vI 11)),(12,(.slice none 0 0)),(11,(.slice none 0 0)),(62,(vI 11)),(61,(.slice none 0 0)),(60,(.slice none 0 0)),(52,(.tuple #[(.slice none 0 0),(.slice none 0 0),(vI 11)]))] (zg (zc (zf (ze (zd 1 [(14,(vI 0))] (zg (zc (zf (zf ?_)))))))))
 refine ze ?_
 have hK12:=(((((((hBw5.ext hEw6)).ext hEw7)).chg hCw8 (fun hs=>by have h:_=_:=hs;omega))).ext hEw9)
 refine zb (zj (some 63) (Instr.loadAt 33 (vP w3.heap.size 0)) (vA (zE (zbs n root b p))) (zD (vs:=zE (zbs n root b p)) (hK12.all) (by rw [zY];kernel_rfl)) ?_)
 refine zb (zj (some 64) (Instr.loadAt 33 (vP w6.heap.size 0)) (vA (zE (zbs n root d q))) (zD (vs:=zE (zbs n root d q)) ((hBw8.ext hEw9).all) (by rw [zY];kernel_rfl)) ?_)
 refine zb (zj (some 65) (bo .eql 33 (.tmp 63) (.tmp 64) (vA (zE (zbs n root b p))) (vA (zE (zbs n root d q)))) vT (zhE (r:=true) (T:=33) ((zb8 (dd:=9997) (t:=33) (t8:=5) (tn:=31) (td:=23) (e:=5) (t32:=28) (t64:=29) (zbs n root b p) (zbs n root d q)).trans (congrArg (fun b=>Result.ok b _) (show ((zbs n root b p).eqb (zbs n root d q))=true from (Rec.eqb_iff _ _).2 hp5)))) ?_)
 refine zg (zc (zF (ze (zd 1 [(14,(vI 11))] (zg (zc (zf (zf (ze ?_)))))))))
 refine zb (zj (some 66) (Instr.indexAt 86 (vP w1.heap.size 0) (vI 0)) (vP w1.heap.size 0) (zX (E:=26) (sz:=2) (m:=2) (by omega)) ?_)
 refine zd 1 [(67,(vP w1.heap.size 0))] (zb (zj (some 68) (Instr.loadAt 3 (vP w1.heap.size 0)) (.int .i64 b) (zo ((hK5.ext hEw9).cell rfl)) ?_))
 refine zb (zj (some 69) (Instr.indexAt 86 (vP w1.heap.size 0) (vI 1)) (vP w1.heap.size 2) (zX (E:=26) (sz:=2) (m:=2) (by omega)) ?_)
 refine zd 1 [(70,(vP w1.heap.size 2))] (zb (zj (some 71) (Instr.loadAt 3 (vP w1.heap.size 2)) (.int .i64 d) (zo ((hK5.ext hEw9).cell rfl)) ?_))
 refine zb (zat (some 72) (b !=d) false (zaL (by omega)) ?_)
 refine zg (zc (zr (zy (zc (zf (zf (ze (zd 1 [(73,(vI 0))] (zb (zat (some 74) (((0:Nat):Int) !=((0:Nat):Int)) false (zaL (by omega)) ?_))))))))))
 refine zg (zc (zr (zy (zc (zf (zf (ze (zd 1 [(76,(vI 0))] (zb (zat (some 77) (((0:Nat):Int) !=((0:Nat):Int)) false (zaL (by omega)) ?_))))))))))
 refine zg (zc (zr (zy (zc (zf (zf (ze (zd 2 [(80,(vI 11)),(79,(vI 11))] (zb (zat (some 81) (((11:Nat):Int) !=((11:Nat):Int)) false (zaL (by omega)) ?_))))))))))
 refine zg (zc (zr (zy (zc (zf (zf (ze (zd 1 [(82,(vI 11))] (zb (zat (some 83) (((11:Nat):Int) !=((0:Nat):Int)) true (zcq (by omega)) ?_))))))))))
 refine zg (zc (zF (zf (ze (zd 9 [(92,vT),(91,vT),(90,vT),(89,(vI 0)),(88,(.slice none 0 0)),(87,vT),(86,vT),(85,(vI 0)),(84,(.slice none 0 0))] (zb (zi (some 93) (zmt _ (hK8.ext hEw9) (hK9.ext hEw9) (hK10.ext hEw9) (hK11.ext hEw9)) ?_)))))))
 rintro _ w10 ⟨rfl,hEw10⟩
 have hzw10:=hEw10.size
 refine zd 2 [(6,vT),(94,vT)] (zg (zc (zx (zu (zB vT ?_)))))
 have hX1:Ext w w10:=(((Ext.own (((Ext.own (((hEw1.trans hEw2).trans hEw3).trans hEw4) hCw5 (by omega)).trans hEw6).trans hEw7) hCw8 (by omega)).trans hEw9).trans hEw10)
 exact ⟨rfl,hX1⟩
theorem zwC (n:Int) (root:Dig) (b:Int) {lo_p hi_p:Nat} {a_p:Option Addr} {n_p c_p:Nat} {p:List Nod} (d:Int) {lo_q hi_q:Nat} {a_q:Option Addr} {n_q c_q:Nat} {q:List Nod} (k:Nat) (w:World) (h_p:Ms zK 274 lo_p hi_p w a_p n_p c_p p) (h_q:Ms zK 274 lo_q hi_q w a_q n_q c_q q) (hp0:n_p≤8) (hp1:n_q≤8) (hp2:zbu n root b p=0) (hp3:zbu n root d q=0) (hp4:b=d) (hp5:¬zbs n root b p=zbs n root d q) (hp6:k<n_p) (hp7:k<n_q) (hp8:∀m,m<k→p.getD m Nod.zero=q.getD m Nod.zero) (hp9:(p.getD k Nod.zero)≠(q.getD k Nod.zero)) (hp10:zar (p.getD k Nod.zero)=0) (hp11:zar (q.getD k Nod.zero)=0) (hp12:(zN (zM (p.getD k Nod.zero))).l=(zN (zM (q.getD k Nod.zero))).l) (hg0:Gl 0 [vI 45,vI 33] w) (hg1:Gl 2 (w8C za2) w) (hg2:Gl 3 (zR kA) w) (hg3:Gl 1 [.iface 199 (.agg #[.pointer (some ⟨4,99,none⟩)])] w):
  Calls Tryz.prog 8 #[(.int .i64 n),(vA (zw root)),(vA [(.int .i64 b),(.slice a_p n_p c_p),(.int .i64 d),(.slice a_q n_q c_q)])] w (Ret fun r w'=>r=vT∧Ext w w'):=by
 refine zL (n:=102) (σ:= [(0,(.int .i64 n)),(1,(vA (zw root))),(2,(vA [(.int .i64 b),(.slice a_p n_p c_p),(.int .i64 d),(.slice a_q n_q c_q)]))]) Tryz.func8 rfl ?_
 replace h_p:=h_p.now;have hle_p:=h_p.le
 replace h_q:=h_q.now;have hle_q:=h_q.le
 have hgl0:=hg0.lt
 have hgl1:=hg1.lt
 have hgl2:=hg2.lt
 have hgl3:=hg3.lt
 have hlp:=h_p.len_eq;have hlep:=h_p.le;have hlq:=h_q.len_eq;have hleq:=h_q.le
 refine zf (ze (zb (zt (some 4) (Instr.box 23 (vA (zw root))) (vP w.heap.size 0) (zw root) 23 ?_)))
 intro w1 hBw1 hEw1
 have hzw1:=hEw1.size;have hlw1:=hBw1.lt
 refine zb (zt (some 5) (Instr.box 86 (vA [(.int .i64 b),(.slice a_p n_p c_p),(.int .i64 d),(.slice a_q n_q c_q)])) (vP w1.heap.size 0) ([(.int .i64 b),(.slice a_p n_p c_p),(.int .i64 d),(.slice a_q n_q c_q)]) 86 ?_)
 intro w2 hBw2 hEw2
 have hzw2:=hEw2.size;have hlw2:=hBw2.lt
 refine zd 1 [(6,vF)] (zg (zc (zf (zf (ze (zb (zj (some 15) (Instr.indexAt 86 (vP w1.heap.size 0) (vI 0)) (vP w1.heap.size 0) (zX (E:=26) (sz:=2) (m:=2) (by omega)) ?_)))))))
 refine zd 1 [(16,(vP w1.heap.size 1))] (zb (zj (some 17) (Instr.loadAt 24 (vP w1.heap.size 1)) (.slice a_p n_p c_p) (zo (hBw2.cell rfl)) ?_))
 refine zd 1 [(18,(vI n_p))] (zb (zat (some 19) (decide (((n_p:Nat):Int)>((8:Nat):Int))) false (zce (by omega)) ?_))
 refine zd 1 [(20,vF)] (zb (zj (some 21) (Instr.indexAt 86 (vP w1.heap.size 0) (vI 1)) (vP w1.heap.size 2) (zX (E:=26) (sz:=2) (m:=2) (by omega)) ?_))
 refine zd 1 [(22,(vP w1.heap.size 3))] (zb (zj (some 23) (Instr.loadAt 24 (vP w1.heap.size 3)) (.slice a_q n_q c_q) (zo (hBw2.cell rfl)) ?_))
 refine zd 1 [(24,(vI n_q))] (zb (zat (some 25) (decide (((n_q:Nat):Int)>((8:Nat):Int))) false (zce (by omega)) ?_))
 refine zd 1 [(26,vF)] (zg (zc (zr (zy (zc (zf (ze (zd 1 [(29,(.int .i64 n))] (zb (zj (some 30) (Instr.loadAt 23 (vP w.heap.size 0)) (vA (zw root)) (zD (vs:=zw root) ((hBw1.ext hEw2).all) (by rw [zac];kernel_rfl)) ?_))))))))))
 refine zb (zj (some 31) (Instr.indexAt 86 (vP w1.heap.size 0) (vI 0)) (vP w1.heap.size 0) (zX (E:=26) (sz:=2) (m:=2) (by omega)) ?_)
 refine zd 1 [(32,(vP w1.heap.size 0))] (zb (zj (some 33) (Instr.loadAt 3 (vP w1.heap.size 0)) (.int .i64 b) (zo (hBw2.cell rfl)) ?_))
 refine zb (zj (some 34) (Instr.indexAt 86 (vP w1.heap.size 0) (vI 0)) (vP w1.heap.size 0) (zX (E:=26) (sz:=2) (m:=2) (by omega)) ?_)
 refine zd 1 [(35,(vP w1.heap.size 1))] (zb (zj (some 36) (Instr.loadAt 24 (vP w1.heap.size 1)) (.slice a_p n_p c_p) (zo (hBw2.cell rfl)) ?_))
 refine zb (zi (some 37) (zwb n root b _ (((h_p.ext hEw1)).ext hEw2)) ?_)
 rintro _ w3 ⟨rfl,hEw3⟩
 have hzw3:=hEw3.size
 rw [show zbu n root b p=0 from hp2]
 refine zd 3 [(39,(vI 0)),(38,(vA (zE (zbs n root b p)))),(28,(.tuple #[(vA (zE (zbs n root b p))),(vI 0)]))] (zb (zt (some 7) (Instr.alloc 33 true (.tuple #[])) (vP w3.heap.size 0) (zE Rec.zero) 33 ?_))
 intro w4 hBw4 hEw4
 have hzw4:=hEw4.size;have hlw4:=hBw4.lt
 refine zb (zz 33 w3.heap.size 0 33 (vA (zE (zbs n root b p))) (zE Rec.zero) (zE (zbs n root b p)) hBw4 (by rw [zY];kernel_rfl) (by first |(simp;done)|(simp;omega)) (zaU _) ?_)
 intro w5 hBw5 hCw5
 have hzw5:=hCw5.size
 rw [zm _ _ (by simp)] at hBw5
 refine zd 1 [(8,(vI 0))] (zg (zc (zf (ze (zd 1 [(41,(.int .i64 n))] ?_)))))
 have hK1:=(((((((hBw1.ext hEw2)).ext hEw3)).ext hEw4)).chg hCw5 (fun hs=>by have h:_=_:=hs;omega))
 refine zb (zj (some 42) (Instr.loadAt 23 (vP w.heap.size 0)) (vA (zw root)) (zD (vs:=zw root) (hK1.all) (by rw [zac];kernel_rfl)) ?_)
 refine zb (zj (some 43) (Instr.indexAt 86 (vP w1.heap.size 0) (vI 1)) (vP w1.heap.size 2) (zX (E:=26) (sz:=2) (m:=2) (by omega)) ?_)
 refine zd 1 [(44,(vP w1.heap.size 2))] ?_
 have hK2:=(((((hBw2.ext hEw3)).ext hEw4)).chg hCw5 (fun hs=>by have h:_=_:=hs;omega))
 refine zb (zj (some 45) (Instr.loadAt 3 (vP w1.heap.size 2)) (.int .i64 d) (zo (hK2.cell rfl)) ?_)
 refine zb (zj (some 46) (Instr.indexAt 86 (vP w1.heap.size 0) (vI 1)) (vP w1.heap.size 2) (zX (E:=26) (sz:=2) (m:=2) (by omega)) ?_)
 refine zd 1 [(47,(vP w1.heap.size 3))] (zb (zj (some 48) (Instr.loadAt 24 (vP w1.heap.size 3)) (.slice a_q n_q c_q) (zo (hK2.cell rfl)) ?_))
 have hK3:=(((((((((h_q.ext hEw1)).ext hEw2)).ext hEw3)).ext hEw4)).chg hCw5 (fun k h1 h2 hs=>by have h:k=_:=hs;omega))
 refine zb (zi (some 49) (zwb n root d _ hK3) ?_)
 rintro _ w6 ⟨rfl,hEw6⟩
 have hzw6:=hEw6.size
 rw [show zbu n root d q=0 from hp3]
 refine zd 3 [(51,(vI 0)),(50,(vA (zE (zbs n root d q)))),(40,(.tuple #[(vA (zE (zbs n root d q))),(vI 0)]))] (zb (zt (some 9) (Instr.alloc 33 true (.tuple #[])) (vP w6.heap.size 0) (zE Rec.zero) 33 ?_))
 intro w7 hBw7 hEw7
 have hzw7:=hEw7.size;have hlw7:=hBw7.lt
 refine zb (zz 33 w6.heap.size 0 33 (vA (zE (zbs n root d q))) (zE Rec.zero) (zE (zbs n root d q)) hBw7 (by rw [zY];kernel_rfl) (by first |(simp;done)|(simp;omega)) (zaU _) ?_)
 intro w8 hBw8 hCw8
 have hzw8:=hCw8.size
 rw [zm _ _ (by simp)] at hBw8
 refine zd 1 [(10,(vI 0))] (zg (zc (zf (ze (zd 1 [(53,(.int .i64 n))] ?_)))))
 have hK4:=(((((hK1.ext hEw6)).ext hEw7)).chg hCw8 (fun hs=>by have h:_=_:=hs;omega))
 refine zb (zj (some 54) (Instr.loadAt 23 (vP w.heap.size 0)) (vA (zw root)) (zD (vs:=zw root) (hK4.all) (by rw [zac];kernel_rfl)) ?_)
 refine zb (zj (some 55) (Instr.indexAt 86 (vP w1.heap.size 0) (vI 0)) (vP w1.heap.size 0) (zX (E:=26) (sz:=2) (m:=2) (by omega)) ?_)
 have hK5:=(((((hK2.ext hEw6)).ext hEw7)).chg hCw8 (fun hs=>by have h:_=_:=hs;omega))
 refine zb (zj (some 56) (Instr.loadAt 26 (vP w1.heap.size 0)) (vA [(.int .i64 b),(.slice a_p n_p c_p)]) (zD (vs:= [(.int .i64 b),(.slice a_p n_p c_p)]) (hK5.at 0 [(.int .i64 b),(.slice a_p n_p c_p)] rfl)) ?_)
 refine zb (zj (some 57) (Instr.indexAt 86 (vP w1.heap.size 0) (vI 1)) (vP w1.heap.size 2) (zX (E:=26) (sz:=2) (m:=2) (by omega)) ?_)
 refine zb (zj (some 58) (Instr.loadAt 26 (vP w1.heap.size 2)) (vA [(.int .i64 d),(.slice a_q n_q c_q)]) (zD (vs:= [(.int .i64 d),(.slice a_q n_q c_q)]) (hK5.at 2 [(.int .i64 d),(.slice a_q n_q c_q)] rfl)) ?_)
 have hK6:=(((((((((((((((h_p.ext hEw1)).ext hEw2)).ext hEw3)).ext hEw4)).chg hCw5 (fun k h1 h2 hs=>by have h:k=_:=hs;omega))).ext hEw6)).ext hEw7)).chg hCw8 (fun k h1 h2 hs=>by have h:k=_:=hs;omega))
 have hK7:=(((((hK3.ext hEw6)).ext hEw7)).chg hCw8 (fun k h1 h2 hs=>by have h:k=_:=hs;omega))
 have hK8:=(((((((((((((((hg0.ext hEw1)).ext hEw2)).ext hEw3)).ext hEw4)).chg hCw5 (fun hs=>by have h:_=_:=hs;omega))).ext hEw6)).ext hEw7)).chg hCw8 (fun hs=>by have h:_=_:=hs;omega))
 have hK9:=(((((((((((((((hg1.ext hEw1)).ext hEw2)).ext hEw3)).ext hEw4)).chg hCw5 (fun hs=>by have h:_=_:=hs;omega))).ext hEw6)).ext hEw7)).chg hCw8 (fun hs=>by have h:_=_:=hs;omega))
 have hK10:=(((((((((((((((hg2.ext hEw1)).ext hEw2)).ext hEw3)).ext hEw4)).chg hCw5 (fun hs=>by have h:_=_:=hs;omega))).ext hEw6)).ext hEw7)).chg hCw8 (fun hs=>by have h:_=_:=hs;omega))
 have hK11:=(((((((((((((((hg3.ext hEw1)).ext hEw2)).ext hEw3)).ext hEw4)).chg hCw5 (fun hs=>by have h:_=_:=hs;omega))).ext hEw6)).ext hEw7)).chg hCw8 (fun hs=>by have h:_=_:=hs;omega))
 refine zb (zi (some 59) (zww n root b d k _ hK6 hK7 (by assumption) (by assumption) (by assumption) (by assumption) (by omega) (by omega) (by assumption) (by assumption) (by assumption) (by assumption) hK8 hK9 hK10 hK11) ?_)
 rintro _ w9 ⟨a1,a2,rfl,hFz3_0,hFz3_1,hFz3_2,hFz3_3,hFz3_4,hFz3_5,hFz3_6,hFz3_7,hEw9⟩
 have hzw9:=hEw9.size
 have hla1:=hFz3_1.lt;have hna1:=hFz3_3
 have hSa1:Bs a1 (a1+1) w9 (pA a1 0) (zbx (p.getD k Nod.zero)) (zbx (p.getD k Nod.zero)) (zM (p.getD k Nod.zero)):=Bs.of_blk hFz3_1 rfl hFz3_2 (Nat.le_refl _) (zbV hna1) (Nat.le_refl _) (Nat.lt_succ_self _)
 have hla2:=hFz3_5.lt;have hna2:=hFz3_7
 have hSa2:Bs a2 (a2+1) w9 (pA a2 0) (zbx (q.getD k Nod.zero)) (zbx (q.getD k Nod.zero)) (zM (q.getD k Nod.zero)):=Bs.of_blk hFz3_5 rfl hFz3_6 (Nat.le_refl _) (zbV hna2) (Nat.le_refl _) (Nat.lt_succ_self _)
 refine zd 7 [(13,(vI 0)),(12,(.slice (pA a2 0) (zbx (q.getD k Nod.zero)) (zbx (q.getD k Nod.zero)))),(11,(.slice (pA a1 0) (zbx (p.getD k Nod.zero)) (zbx (p.getD k Nod.zero)))),(62,(vI 0)),(61,(.slice (pA a2 0) (zbx (q.getD k Nod.zero)) (zbx (q.getD k Nod.zero)))),(60,(.slice (pA a1 0) (zbx (p.getD k Nod.zero)) (zbx (p.getD k Nod.zero)))),(52,(.tuple #[(.slice (pA a1 0) (zbx (p.getD k Nod.zero)) (zbx (p.getD k Nod.zero))),(.slice (pA a2 0) (zbx (q.getD k Nod.zero)) (zbx (q.getD k Nod.zero))),(vI 0)]))] (zg (zc (zf (ze (zd 1 [(14,(vI 0))] (zg (zc (zf (zf ?_)))))))))
 refine ze ?_
 have hK12:=(((((((hBw5.ext hEw6)).ext hEw7)).chg hCw8 (fun hs=>by have h:_=_:=hs;omega))).ext hEw9)
 refine zb (zj (some 63) (Instr.loadAt 33 (vP w3.heap.size 0)) (vA (zE (zbs n root b p))) (zD (vs:=zE (zbs n root b p)) (hK12.all) (by rw [zY];kernel_rfl)) ?_)
 refine zb (zj (some 64) (Instr.loadAt 33 (vP w6.heap.size 0)) (vA (zE (zbs n root d q))) (zD (vs:=zE (zbs n root d q)) ((hBw8.ext hEw9).all) (by rw [zY];kernel_rfl)) ?_)
 refine zb (zj (some 65) (bo .eql 33 (.tmp 63) (.tmp 64) (vA (zE (zbs n root b p))) (vA (zE (zbs n root d q)))) vF (zhE (r:=false) (T:=33) ((zb8 (dd:=9997) (t:=33) (t8:=5) (tn:=31) (td:=23) (e:=5) (t32:=28) (t64:=29) (zbs n root b p) (zbs n root d q)).trans (congrArg (fun b=>Result.ok b _) (show ((zbs n root b p).eqb (zbs n root d q))=false from Bool.eq_false_iff.2 (fun hh=>hp5 ((Rec.eqb_iff _ _).1 hh)))))) ?_)
 refine zg (zc (zr (zy (zc (zf (zf (ze (zb (zj (some 66) (Instr.indexAt 86 (vP w1.heap.size 0) (vI 0)) (vP w1.heap.size 0) (zX (E:=26) (sz:=2) (m:=2) (by omega)) ?_)))))))))
 refine zd 1 [(67,(vP w1.heap.size 0))] (zb (zj (some 68) (Instr.loadAt 3 (vP w1.heap.size 0)) (.int .i64 b) (zo ((hK5.ext hEw9).cell rfl)) ?_))
 refine zb (zj (some 69) (Instr.indexAt 86 (vP w1.heap.size 0) (vI 1)) (vP w1.heap.size 2) (zX (E:=26) (sz:=2) (m:=2) (by omega)) ?_)
 refine zd 1 [(70,(vP w1.heap.size 2))] (zb (zj (some 71) (Instr.loadAt 3 (vP w1.heap.size 2)) (.int .i64 d) (zo ((hK5.ext hEw9).cell rfl)) ?_))
 refine zb (zat (some 72) (b !=d) false (zaL (by omega)) ?_)
 refine zg (zc (zr (zy (zc (zf (zf (ze (zd 1 [(73,(vI 0))] (zb (zat (some 74) (((0:Nat):Int) !=((0:Nat):Int)) false (zaL (by omega)) ?_))))))))))
 refine zg (zc (zr (zy (zc (zf (zf (ze (zd 1 [(76,(vI 0))] (zb (zat (some 77) (((0:Nat):Int) !=((0:Nat):Int)) false (zaL (by omega)) ?_))))))))))
 refine zg (zc (zr (zy (zc (zf (zf (ze (zd 2 [(80,(vI 0)),(79,(vI 0))] (zb (zat (some 81) (((0:Nat):Int) !=((0:Nat):Int)) false (zaL (by omega)) ?_))))))))))
 refine zg (zc (zr (zy (zc (zf (zf (ze (zd 1 [(82,(vI 0))] (zb (zat (some 83) (((0:Nat):Int) !=((0:Nat):Int)) false (zaL (by omega)) ?_))))))))))
 refine zg (zc (zr (zy (zc (zf (ze (zd 2 [(96,(.slice (pA a2 0) (zbx (q.getD k Nod.zero)) (zbx (q.getD k Nod.zero)))),(95,(.slice (pA a1 0) (zbx (p.getD k Nod.zero)) (zbx (p.getD k Nod.zero))))] (zb (zi (some 97) (zwB _ hSa1 hSa2 (fun hh=>hp9 (ztt hp10 hp11 hh)) (by unfold zbx;split<;>decide) (by unfold zbx;split<;>decide) (by unfold zbx;split<;>decide) (by unfold zbx;split<;>decide) (by assumption)) ?_)))))))))
 rintro _ w10 ⟨rfl,hEw10⟩
 have hzw10:=hEw10.size
 refine zd 2 [(99,vT),(98,vT)] (zb (zi (some 100) (zmt _ (((hK8.ext hEw9)).ext hEw10) (((hK9.ext hEw9)).ext hEw10) (((hK10.ext hEw9)).ext hEw10) (((hK11.ext hEw9)).ext hEw10)) ?_))
 rintro _ w11 ⟨rfl,hEw11⟩
 have hzw11:=hEw11.size
 refine zd 2 [(6,vT),(101,vT)] (zg (zc (zx (zB vT ?_))))
 have hX1:Ext w w11:=((((Ext.own (((Ext.own (((hEw1.trans hEw2).trans hEw3).trans hEw4) hCw5 (by omega)).trans hEw6).trans hEw7) hCw8 (by omega)).trans hEw9).trans hEw10).trans hEw11)
 exact ⟨rfl,hX1⟩
theorem zwh (n:Int) (root:Dig) (b:Int) {lo_p hi_p:Nat} {a_p:Option Addr} {n_p c_p:Nat} {p:List Nod} (d:Int) {lo_q hi_q:Nat} {a_q:Option Addr} {n_q c_q:Nat} {q:List Nod} (w:World) (h_p:Ms zK 274 lo_p hi_p w a_p n_p c_p p) (h_q:Ms zK 274 lo_q hi_q w a_q n_q c_q q) (hg0:Gl 0 [vI 45,vI 33] w) (hg1:Gl 2 (w8C za2) w) (hg2:Gl 3 (zR kA) w) (hg3:Gl 1 [.iface 199 (.agg #[.pointer (some ⟨4,99,none⟩)])] w):
  Calls Tryz.prog 8 #[(.int .i64 n),(vA (zw root)),(vA [(.int .i64 b),(.slice a_p n_p c_p),(.int .i64 d),(.slice a_q n_q c_q)])] w (Ret fun r w'=>r=vT∧Ext w w'):=by
 have hlp:=h_p.len_eq;have hlq:=h_q.len_eq
 by_cases h1:8<n_p
 ·exact zwA n root b d w h_p h_q h1 hg0 hg1 hg2 hg3
 by_cases h2:8<n_q
 ·exact zwz n root b d w h_p h_q (by omega) h2 hg0 hg1 hg2 hg3
 by_cases hp:zbu n root b p=0
 ·by_cases hq:zbu n root d q=0
  ·by_cases hb:b=d
   ·by_cases hr:zbs n root b p=zbs n root d q
    ·exact zwF n root b d w h_p h_q (by omega) (by omega) hp hq hb hr hg0 hg1 hg2 hg3
    ·subst hb
     have hv:zfL n b p:=Classical.byContradiction fun h=>by rw [zeF h] at hp;cases hp
     have hv1:=hv.1;have hv3:=hv.2.2.1
     obtain ⟨n,rfl⟩:=Int.eq_ofNat_of_zero_le (show 0≤n by omega)
     obtain ⟨b,rfl⟩:=Int.eq_ofNat_of_zero_le hv3
     obtain ⟨k,k1,k2,k3,k4,k5,k6,k7⟩:=zt3 hp hq hr
     exact zwC n root b b k w h_p h_q (by omega) (by omega) hp hq rfl hr (by omega) (by omega) k3 k4 k6 k7 k5 hg0 hg1 hg2 hg3
   ·exact zwH n root b d w h_p h_q (by omega) (by omega) hp hq hb hg0 hg1 hg2 hg3
  ·exact zwE n root b d w h_p h_q (by omega) (by omega) hp hq hg0 hg1 hg2 hg3
 ·exact zwD n root b d w h_p h_q (by omega) (by omega) hp hg0 hg1 hg2 hg3
end Go.Proofs.YtgdpdnokcnhgnaaGreatDoor
namespace Go.Cs
open Go Go.ChangeShapes Go.WideShapes Go.ChangeAt Go.RowKit
section
variable {H:Type} {enc:TypeId×Value→H} {P:Program} {W:World} {base:Nat} {sp:Nat→Bool} {held:Bool}
def Rd (enc:TypeId×Value→H) (P:Program) (W:World) (base:Nat) (sp:Nat→Bool) (held:Bool) (t:TypeId) (cs:List Value):Prop:=∃fuel r,DataW.trod enc P W base sp held fuel t cs=some r
theorem zek {α β:Type} {f:α→Option β}:∀{xs:List α} {ys:List β},xs.mapM f=some ys→∀x∈xs,∃y,f x=some y
 | [],_,_,x,hx=>by simp at hx
 | a::xs,ys,h,x,hx=>by
  simp only [List.mapM_cons,Option.bind_eq_bind,Option.bind_eq_some_iff] at h
  obtain ⟨y,hy,zs,hz,_⟩:=h
  rcases List.mem_cons.1 hx with rfl | hx
  ·exact ⟨y,hy⟩
  ·exact zek hz x hx
theorem zqY {t e:TypeId} {n:Nat} {r:Reach} {b:Nat} {v:Value} (hu:P.underlying t=some (.array n e)) (h:Value.okWide P W r b t v):∃cs,v= .agg cs∧True:=by
 simp only [Value.okWide,hu] at h
 obtain ⟨cs,h1,_⟩:=h
 exact ⟨cs,h1,trivial⟩
theorem zcR {t:TypeId} {k:IntKind} {cs:List Value} (h:Rd enc P W base sp held t cs) (ht:P.underlying t=some (.int k)):∃n,cs= [.int k n]∧(Lit.int k n).wf=true:=by
 obtain ⟨fuel,r,hf⟩:=h
 obtain ⟨n,h1,_,h3⟩:=DataW.trod_int ht hf
 exact ⟨n,h1,h3⟩
theorem zbT {t:TypeId} {cs:List Value} {x:Bool×TypeId×Nat} {xs:List (Bool×TypeId×Nat)} (h:Rd enc P W base sp held t cs) (hF:zam P t=x::xs):
  cs.length=P.cellsOf t∧∀y∈x::xs,Rd enc P W base sp held y.2.1 ((cs.drop y.2.2).take (P.cellsOf y.2.1)):=by
 obtain ⟨fuel,r,hf⟩:=h
 have hu:=zca ⟨x,xs,hF⟩
 cases fuel with
 | zero=>simp [DataW.trod] at hf
 | succ fuel=>
  rw [DataW.trod.eq_def] at hf
  simp only [hu] at hf
  split at hf
  ·next hl=>
   refine ⟨hl,fun y hy=> ?_⟩
   simp only [Option.map_eq_some_iff] at hf
   obtain ⟨zs,hz,_⟩:=hf
   rw [←hF,zam,List.mem_map] at hy
   obtain ⟨f,hf1,rfl⟩:=hy
   obtain ⟨z,hz2⟩:=zek hz f hf1
   exact ⟨fuel,z,hz2⟩
  ·cases hf
theorem zc7 {t e:TypeId} {n:Nat} {cs:List Value} (h:Rd enc P W base sp held t cs) (hu:P.underlying t=some (.array n e)):
  cs.length=P.cellsOf t∧∀i,i<n→Rd enc P W base sp held e ((cs.drop (i*P.cellsOf e)).take (P.cellsOf e)):=by
 obtain ⟨fuel,r,hf⟩:=h
 cases fuel with
 | zero=>simp [DataW.trod] at hf
 | succ fuel=>
  rw [DataW.trod.eq_def] at hf
  simp only [hu] at hf
  split at hf
  ·next hl=>
   refine ⟨hl,fun i hi=> ?_⟩
   simp only [Option.map_eq_some_iff] at hf
   obtain ⟨zs,hz,_⟩:=hf
   obtain ⟨z,hz2⟩:=zek hz i (List.mem_range.2 hi)
   exact ⟨fuel,z,hz2⟩
  ·cases hf
theorem zjG {t e:TypeId} {cs:List Value} (h:Rd enc P W base sp held t cs) (hu:P.underlying t=some (.array 32 e)) (he:P.underlying e=some (.int .u8)) (h1:P.cellsOf e=1) (h32:P.cellsOf t=32):∃d:Dig,cs=zw d:=by
 obtain ⟨hl,hi⟩:=zc7 h hu
 rw [h32] at hl
 refine ⟨⟨cs.map (fun v=>match v with | .int _ n=>UInt8.ofNat n.toNat | _=>0),by simp [hl]⟩, ?_⟩
 refine List.ext_getElem (by simp [zw,hl]) (fun i h2 h3=> ?_)
 obtain ⟨n,hn,hw⟩:=zcR (hi i (by omega)) he
 rw [h1,Nat.mul_one] at hn
 have hg:cs[i]= .int .u8 n:=by
  have:=congrArg (fun z=>z[0]?) hn
  simp [List.getElem?_take,List.getElem?_drop,h2] at this
  exact this
 have hb:=bounds_u8 hw
 simp only [zw,u8s,List.getElem_map,hg]
 rw [UInt8.toNat_ofNat',Nat.mod_eq_of_lt (by omega)]
 congr 1;omega
theorem zbO {t:TypeId} {k:IntKind} {cs:List Value} (h:Rd enc P W base sp held t cs) (ht:P.underlying t=some (.int k)) (h0:∀n,(Lit.int k n).wf=true→0≤n∧n<2^k.bits):∃n:Nat,cs= [.int k (n:Int)]∧n<2^k.bits:=by
 obtain ⟨n,h1,h2⟩:=zcR h ht
 obtain ⟨h3,h4⟩:=h0 n h2
 obtain ⟨m,rfl⟩:=Int.eq_ofNat_of_zero_le h3
 exact ⟨m,h1,by exact_mod_cast h4⟩
theorem zao {α:Type} (cs:List α) (a b:Nat):(cs.drop a).take b++cs.drop (a+b)=cs.drop a:=by
 rw [←List.drop_drop,List.take_append_drop]
theorem w8 (n:Int) (h:(Lit.int .u8 n).wf=true):0≤n∧n<2^IntKind.u8.bits:=by have:=bounds_u8 h;exact ⟨by omega,by show n<2^8;omega⟩
theorem w32 (n:Int) (h:(Lit.int .u32 n).wf=true):0≤n∧n<2^IntKind.u32.bits:=by have:=bounds_u32 h;exact ⟨by omega,by show n<2^32;omega⟩
theorem w64 (n:Int) (h:(Lit.int .u64 n).wf=true):0≤n∧n<2^IntKind.u64.bits:=by have:=bounds_u64 h;exact ⟨by omega,by show n<2^64;omega⟩
theorem zqf {t t32 t64:TypeId} {cs:List Value} (h:Rd enc P W base sp held t cs) (hF:zam P t= [(true,t32,0),(true,t64,1)]) (h1:P.underlying t32=some (.int .u32)) (h2:P.underlying t64=some (.int .u64))
  (c1:P.cellsOf t32=1) (c2:P.cellsOf t64=1) (c:P.cellsOf t=2):∃x:Non,cs=zbF x:=by
 obtain ⟨hl,hf⟩:=zbT h hF
 obtain ⟨a,ha,ha2⟩:=zbO (hf (true,t32,0) (by simp)) h1 w32
 obtain ⟨b,hb,hb2⟩:=zbO (hf (true,t64,1) (by simp)) h2 w64
 simp only [c1,c2] at ha hb
 refine ⟨⟨a,b,ha2,hb2⟩, ?_⟩
 have e1:=zao cs 0 1
 have e2:=zao cs 1 1
 rw [ha] at e1;rw [hb,List.drop_eq_nil_of_le (by omega)] at e2
 rw [List.drop_zero] at e1
 rw [←e1,←e2];rfl
theorem zmj {t t8 tn td e t32 t64:TypeId} {cs:List Value} (h:Rd enc P W base sp held t cs) (hF:zam P t= [(true,t8,0),(true,tn,1),(true,td,3)]) (h8:P.underlying t8=some (.int .u8)) (c8:P.cellsOf t8=1)
  (hFn:zam P tn= [(true,t32,0),(true,t64,1)]) (h1:P.underlying t32=some (.int .u32)) (h2:P.underlying t64=some (.int .u64)) (c1:P.cellsOf t32=1) (c2:P.cellsOf t64=1) (cn:P.cellsOf tn=2)
  (hu:P.underlying td=some (.array 32 e)) (he:P.underlying e=some (.int .u8)) (ce:P.cellsOf e=1) (cd:P.cellsOf td=32) (c:P.cellsOf t=35):∃x:Rec,cs=zE x:=by
 obtain ⟨hl,hf⟩:=zbT h hF
 obtain ⟨a,ha,ha2⟩:=zbO (hf (true,t8,0) (by simp)) h8 w8
 obtain ⟨x,hx⟩:=zqf (hf (true,tn,1) (by simp)) hFn h1 h2 c1 c2 cn
 obtain ⟨d,hd⟩:=zjG (hf (true,td,3) (by simp)) hu he ce cd
 simp only [c8,cn,cd] at ha hx hd
 refine ⟨⟨a,x,d,ha2⟩, ?_⟩
 have e1:=zao cs 0 1
 have e2:=zao cs 1 2
 have e3:=zao cs 3 32
 rw [ha] at e1;rw [hx] at e2;rw [hd,List.drop_eq_nil_of_le (by omega)] at e3
 rw [List.drop_zero] at e1
 rw [←e1,←e2,←e3];simp [zE,zbF]
theorem znr {t t8 td e:TypeId} {cs:List Value} (h:Rd enc P W base sp held t cs) (hF:zam P t= [(true,t8,0),(true,td,1)]) (h8:P.underlying t8=some (.int .u8)) (c8:P.cellsOf t8=1)
  (hu:P.underlying td=some (.array 32 e)) (he:P.underlying e=some (.int .u8)) (ce:P.cellsOf e=1) (cd:P.cellsOf td=32) (c:P.cellsOf t=33):∃x:Ent,cs=zai x:=by
 obtain ⟨hl,hf⟩:=zbT h hF
 obtain ⟨a,ha,ha2⟩:=zbO (hf (true,t8,0) (by simp)) h8 w8
 obtain ⟨d,hd⟩:=zjG (hf (true,td,1) (by simp)) hu he ce cd
 simp only [c8,cd] at ha hd
 refine ⟨⟨a,d,ha2⟩, ?_⟩
 have e1:=zao cs 0 1
 have e3:=zao cs 1 32
 rw [ha] at e1;rw [hd,List.drop_eq_nil_of_le (by omega)] at e3
 rw [List.drop_zero] at e1
 rw [←e1,←e3];simp [zai]
theorem w16 (n:Int) (h:(Lit.int .u16 n).wf=true):0≤n∧n<2^IntKind.u16.bits:=by
 simp [Lit.wf,IntKind.min,IntKind.max,IntKind.signed,IntKind.bits] at h
 exact ⟨by omega,by show n<2^16;omega⟩
end
end Go.Cs
namespace Go.Cs
open Go Go.ChangeShapes Go.WideShapes Go.ChangeAt Go.RowKit
theorem zgJ {α:Type} {f:α→List Value} {sz:Nat} (hf:∀x,(f x).length=sz) (d:α):∀(l:List α) (k:Nat),0<sz→(l.flatMap f)[k]? =if k<l.length*sz then (f (l.getD (k/sz) d))[k%sz]? else none
 | [],k,hz=>by simp
 | x::l,k,hz=>by
  rw [List.flatMap_cons]
  rcases Nat.lt_or_ge k sz with h | h
  ·rw [List.getElem?_append_left (by rw [hf];exact h),Nat.div_eq_of_lt h,Nat.mod_eq_of_lt h,if_pos]
   ·simp
   ·rw [List.length_cons,Nat.add_mul,Nat.one_mul];omega
  ·rw [List.getElem?_append_right (by rw [hf];exact h),hf,zgJ hf d l (k-sz) hz]
   have e1:k/sz=(k-sz)/sz+1:=by rw [←Nat.add_div_right _ hz,Nat.sub_add_cancel h]
   have e2:k%sz=(k-sz)%sz:=by rw [←Nat.mod_eq_sub_mod h]
   rw [e1,e2,List.getD_cons_succ,List.length_cons,Nat.add_mul,Nat.one_mul]
   by_cases h2:k<l.length*sz+sz
   ·rw [if_pos (by omega),if_pos h2]
   ·rw [if_neg (by omega),if_neg h2]
section
variable {H:Type} {enc:TypeId×Value→H} {P:Program} {W:World} {base:Nat} {sp:Nat→Bool} {held:Bool}
theorem zfB {α:Type} {f:α→List Value} {t e:TypeId} {sz:Nat} {cs:List Value} (hx:∀us,Rd enc P W base sp held e us→∃x,us=f x) (hf:∀x,(f x).length=sz) (h:Rd enc P W base sp held t cs) (hu:P.underlying t=some (.slice e)) (he:P.cellsOf e=sz) (hz:0<sz):
  ∃a len cap l,cs= [.slice a len cap]∧Ms f sz 0 W.heap.size W a len cap l:=by
 obtain ⟨fuel,r,hr⟩:=h
 rcases Go.Deep.open_slice hu hr with ⟨rfl,_⟩|⟨a,len,cap,m,n,D,Pl,rfl,hb,hl,hm,hmm,_,hi⟩
 ·exact ⟨none,0,0, [],rfl,Ms.nil f _ _ _ hf⟩
 ·have hlm:len≤m:=by subst hmm;split<;>omega
  rw [he] at hi
  rcases Nat.eq_zero_or_pos len with h0 | h0
  ·subst h0
   exact ⟨some a,0,cap, [],rfl,⟨⟨hl,hm, .inl rfl⟩,rfl,hf⟩⟩
  ·have one:∀i,i<len→∃x,W.cells? base (a.add (i*sz)) sz=some (f x):=fun i hlt=>by
    obtain ⟨cs',h1,h2⟩:=hi i (by omega)
    obtain ⟨x,rfl⟩:=hx cs' ⟨n,_,h2⟩
    exact ⟨x,h1⟩
   obtain ⟨x0,hx0⟩:=one 0 h0
   haveI:Inhabited α:=⟨x0⟩
   obtain ⟨g,hg⟩:=Go.Deep.choose_lt one
   have hsp:a.spot=none∧a.block<W.heap.size:=by
    have h3:=(World.cells?_some hx0).2.2 0 hz
    rw [Nat.zero_mul] at h3
    have e0:(a.add 0).add 0=a:=by simp [Addr.add]
    rw [e0,List.getElem?_eq_getElem (by rw [hf];exact hz)] at h3
    refine ⟨?_,World.block_lt_of_cell? W a h3⟩
    cases hs:a.spot with
    | none=>rfl
    | some k=>
     exfalso
     have h4:=(World.cells?_some (hg 0 h0)).2.2
     simp only [World.cell?,hs] at h3
     split at h3<;>simp at h3
   obtain ⟨b,o,s⟩:=a
   simp only at hsp
   obtain ⟨rfl,hlt⟩:=hsp
   refine ⟨_,len,cap,(List.range len).map g,rfl,⟨hl,hm, .inr ⟨rfl,Nat.zero_le _,hlt,hlt,fun k v hk=> ?_⟩⟩,by simp,hf⟩
   rw [zgJ hf x0 _ k hz] at hk
   simp only [List.length_map,List.length_range] at hk
   split at hk
   ·next hks=>
    have hq:k/sz<len:=Nat.div_lt_of_lt_mul (by rw [Nat.mul_comm];exact hks)
    have hg1:((List.range len).map g).getD (k/sz) x0=g (k/sz):=by simp [List.getD,hq]
    rw [hg1] at hk
    have h5:=(World.cells?_some (hg (k/sz) hq)).2.2 (k%sz) (Nat.mod_lt _ hz)
    rw [hk,Addr.add_lit,Addr.add_lit] at h5
    rw [←h5]
    have:=Nat.div_add_mod k sz
    rw [Nat.mul_comm] at this
    simp only [Nat.add_assoc,this]
   ·cases hk
end
end Go.Cs
namespace Go.Cs
open Go Go.ChangeShapes Go.WideShapes Go.ChangeAt Go.RowKit
section
variable {H:Type} {enc:TypeId×Value→H} {P:Program} {W:World} {base:Nat} {sp:Nat→Bool} {held:Bool}
theorem zh3 {α:Type} {f:α→List Value} {t e:TypeId} {n sz:Nat} {cs:List Value} (hx:∀us,Rd enc P W base sp held e us→∃x,us=f x) (h:Rd enc P W base sp held t cs) (hu:P.underlying t=some (.array n e)) (he:P.cellsOf e=sz) (ht:P.cellsOf t=n*sz):
  ∃l:List α,l.length=n∧cs=l.flatMap f:=by
 obtain ⟨hl,hi⟩:=zc7 h hu
 have step:∀m,m≤n→∃l:List α,l.length=m∧cs.take (m*sz)=l.flatMap f:=by
  intro m
  induction m with
  | zero=>intro _;exact ⟨[],rfl,by simp⟩
  | succ m ih=>
   intro hm
   obtain ⟨l,h1,h2⟩:=ih (by omega)
   obtain ⟨x,h3⟩:=hx _ (hi m (by omega))
   rw [he] at h3
   exact ⟨l++ [x],by simp [h1],by rw [Nat.add_mul,Nat.one_mul,List.take_add,h2,h3];simp⟩
 obtain ⟨l,h1,h2⟩:=step n (Nat.le_refl _)
 exact ⟨l,h1,by rw [←h2,List.take_of_length_le (by omega)]⟩
theorem ze7 {t e:TypeId} {k:IntKind} {fuel n:Nat} {cs:List Value} {p:List MemPlace} {ns:List Int} (h:DataW.trod enc P W base sp held fuel t cs=some (.agg (ns.map fun z=> .lit (.int k z)),p)) (hu:P.underlying t=some (.array n e)) (he:P.underlying e=some (.int k)) (ce:P.cellsOf e=1) (ct:P.cellsOf t=n):
  cs=ns.map fun z=> .int k z:=by
 obtain ⟨xs,m,rfl,hx,hl,hn,hi⟩:=DataW.trod_array hu h
 simp only [Prod.mk.injEq,DataW.agg.injEq] at hx
 have hlen:ns.length=n:=by rw [←hn,show xs.length=(xs.map fun x=>x.1).length from by simp,←hx.1,List.length_map]
 refine List.ext_getElem (by simp;omega) fun i h1 h2=> ?_
 have h3:i<xs.length:=by omega
 have h4:=hi i (by omega)
 rw [List.getElem?_eq_getElem h3,ce,Nat.mul_one] at h4
 obtain ⟨z,e1,e2,_⟩:=DataW.trod_int he h4
 have e3:cs[i]= .int k z:=by
  have:=congrArg (fun y=>y[0]?) e1
  simp [List.getElem?_take,List.getElem?_drop,h1] at this
  exact this
 have e4:=congrArg (fun y=>y[i]?) hx.1
 simp only [List.getElem?_map,List.getElem?_eq_getElem h3,e2,List.getElem?_eq_getElem (show i<ns.length by omega),Option.map_some,Option.some.injEq,DataW.lit.injEq,Lit.int.injEq,true_and] at e4
 rw [e3];simp [e4]
theorem ziR {name:String} {g:Nat} {cs:Array Value} {vs:List Value} (hg:P.globalNamed name=some g) (hv:W.var? P name=some cs) (hcs:cs.toList=vs):Gl g vs W:=by
 have hc:=fun i=>World.var?_cell hg hv i
 refine ⟨fun i v hi=> ?_, ?_⟩
 ·rw [Nat.zero_add,hc i,←hi,←hcs];simp
 ·simp only [World.var?,hg,Option.bind_some] at hv
  rcases Nat.lt_or_ge g W.heap.size with h | h
  ·exact h
  ·rw [Array.getElem?_eq_none h] at hv;simp at hv
theorem zqC {N R E r t8 tn td e t32 t64 en:TypeId} {cs:List Value} (h:Rd enc P W base sp held N cs) (hN:zam P N= [(true,t8,0),(true,t32,1),(true,R,2),(true,E,142)])
  (hR:P.underlying R=some (.array 4 r)) (hE:P.underlying E=some (.array 4 en)) (h8:P.underlying t8=some (.int .u8)) (c8:P.cellsOf t8=1) (hF:zam P r= [(true,t8,0),(true,tn,1),(true,td,3)]) (hFe:zam P en= [(true,t8,0),(true,td,1)])
  (hFn:zam P tn= [(true,t32,0),(true,t64,1)]) (h1:P.underlying t32=some (.int .u32)) (h2:P.underlying t64=some (.int .u64)) (c1:P.cellsOf t32=1) (c2:P.cellsOf t64=1) (cn:P.cellsOf tn=2)
  (hu:P.underlying td=some (.array 32 e)) (he:P.underlying e=some (.int .u8)) (ce:P.cellsOf e=1) (cd:P.cellsOf td=32) (cr:P.cellsOf r=35) (cen:P.cellsOf en=33) (cR:P.cellsOf R=140) (cE:P.cellsOf E=132) (c:P.cellsOf N=274):∃x:Nod,cs=zK x:=by
 obtain ⟨hl,hf⟩:=zbT h hN
 obtain ⟨a,ha,ha2⟩:=zbO (hf (true,t8,0) (by simp)) h8 w8
 obtain ⟨b,hb,hb2⟩:=zbO (hf (true,t32,1) (by simp)) h1 w32
 obtain ⟨rs,hr1,hr2⟩:=zh3 (f:=zE) (fun us hh=>zmj hh hF h8 c8 hFn h1 h2 c1 c2 cn hu he ce cd cr) (hf (true,R,2) (by simp)) hR cr cR
 obtain ⟨es,he1,he2⟩:=zh3 (f:=zai) (fun us hh=>znr hh hFe h8 c8 hu he ce cd cen) (hf (true,E,142) (by simp)) hE cen cE
 simp only [c8,c1,cR,cE] at ha hb hr2 he2
 refine ⟨⟨a,b,⟨rs,hr1⟩,⟨es,he1⟩,ha2,hb2⟩, ?_⟩
 have e1:=zao cs 0 1
 have e2:=zao cs 1 1
 have e3:=zao cs 2 140
 have e4:=zao cs 142 132
 rw [ha] at e1;rw [hb] at e2;rw [hr2] at e3;rw [he2,List.drop_eq_nil_of_le (by omega)] at e4
 rw [List.drop_zero] at e1
 rw [←e1,←e2,←e3,←e4];simp [zK,r4C,e4C]
end
end Go.Cs
namespace Go.Cs
open Go Go.ChangeShapes Go.WideShapes Go.ChangeAt Go.RowKit
section
variable {H:Type} {enc:TypeId×Value→H} {P:Program} {W:World} {base:Nat} {sp:Nat→Bool} {held:Bool}
end
end Go.Cs
namespace Go.Cs
open Go Go.ChangeShapes Go.WideShapes Go.ChangeAt Go.RowKit
theorem ztE {cs p q:List Value} {o a:Nat} (h:(cs.drop o).take a=p) (h2:cs.drop (o+a)=q):cs.drop o=p++q:=by
 rw [←h,←h2,←List.drop_drop,List.take_append_drop]
theorem zus {cs:List Value} {o:Nat} (h:cs.length≤o):cs.drop o= []:=List.drop_eq_nil_of_le h
section
variable {H:Type} {enc:TypeId×Value→H} {P:Program} {W:World} {base:Nat} {sp:Nat→Bool} {held:Bool}
end
end Go.Cs
