/- Lemmas and walks: what each function does, by its own code. No condition beyond those of each statement. -/
import Derived.Test.YtkmhgepdhilllaaGreatDoorK2
import Derived.ProofKit
import Derived.OpenShut
import Derived.ChangeOld
import Derived.Deep.Slices
import Derived.LaidMore
import Derived.Stop.Joined
set_option linter.all false
set_option linter.unusedVariables false
namespace Go.Proofs.YtkmhgepdhilllaaGreatDoor
open Go Go.RowKit Go.Cs
set_option maxRecDepth 100000
set_option maxHeartbeats 4000000 in
theorem zrt {lo_l hi_l:Nat} {a_l:Option Addr} {n_l c_l:Nat} {l:List Rec} {lo_c hi_c:Nat} {a_c:Option Addr} {n_c c_c:Nat} {c:List Bool} {lo_s hi_s:Nat} {a_s:Option Addr} {n_s c_s:Nat} {s:List Nat} (w:World) (h_l:Ms zL 35 lo_l hi_l w a_l n_l c_l l) (h_c:Es Value.bool lo_c hi_c w a_c n_c c_c c) (h_s:Es (nv .i64) lo_s hi_s w a_s n_s c_s s) (hp0:n_c=n_l) (hp1:n_s=tot n_l) (hp2:1≤n_l) (hp3:n_l≤4096) (hp4:∀i,s.getD i 0≤1):
  Calls Tryz.prog 15 #[(vA [(.slice a_l n_l c_l),(.slice a_c n_c c_c),(.slice a_s n_s c_s)])] w (Ret fun r w'=>∃a1 ca1,r=(vA [(vI n_l),(.slice a1 (tot n_l) ca1)])∧OwM unC 280 w.heap.size w'.heap.size w' a1 (tot n_l) ca1 77 (zaM l c s)∧Ext w w'):=by
 refine zw (n:=82) (σ:= [(0,(vA [(.slice a_l n_l c_l),(.slice a_c n_c c_c),(.slice a_s n_s c_s)]))]) Tryz.func15 rfl ?_
 replace h_l:=h_l.now;have hle_l:=h_l.le
 replace h_c:=h_c.now;have hle_c:=h_c.le
 replace h_s:=h_s.now;have hle_s:=h_s.le
 have hll:=h_l.len_eq;have hlc:=h_c.len_eq;have hls:=h_s.len_eq
 have hle:=h_l.le;have hle2:=h_c.le;have hle3:=h_s.le
 have h5:=zam n_l
 have hts:=zau hp3
 have htt:=zcq hp2 hp3
 refine wsr (za (zS (Instr.box 34 (vA [(.slice a_l n_l c_l),(.slice a_c n_c c_c),(.slice a_s n_s c_s)])) (vP w.heap.size 0) ([(.slice a_l n_l c_l),(.slice a_c n_c c_c),(.slice a_s n_s c_s)]) 34 ?_))
 intro w1 hBw1 hEw1 hzw1 hlw1
 refine za (zad ([(vI 0),(.slice none 0 0)]) 38 ?_)
 intro w2 hBw2 hEw2 hzw2 hlw2
 refine zz (zb 1 [(10,(vP w.heap.size 0))] (za (zm w.heap.size 0 ((hBw1.ext hEw2).cell rfl) ?_)))
 refine zb 2 [(3,(vI n_l)),(12,(vI n_l))] (zz (zb 2 [(14,(vA [(vI n_l),(.slice none 0 0)])),(13,(vI n_l))] (zal ([(vI n_l),(.slice none 0 0)]) 38 rfl (by simp [Value.oneCell']) ?_)))
 intro w3 hBw3 hEw3 hzw3 hlw3
 refine zz (za (zV w.heap.size 0 (((hBw1.ext hEw2).ext hEw3).all) ?_))
 have hK1:=(((h_l.ext hEw1).ext hEw2).ext hEw3)
 have hK2:=(((h_c.ext hEw1).ext hEw2).ext hEw3)
 have hK3:=(((h_s.ext hEw1).ext hEw2).ext hEw3)
 refine za (zt (zmF _ hK1 hK2 hK3 (by first | omega | decide) (by first | omega | decide) (by first | omega | decide) (by first | omega | decide) (by assumption)) ?_)
 rintro _ w4 ⟨a1,ca1,rfl,hFz1_0,hEw4⟩
 have hzw4:=hEw4.size
 have hma1:=hFz1_0.es;have hlea1:=hma1.le
 refine zb 1 [(5,(.slice a1 (tot n_l) ca1))] (zM (zb 1 [(6,(vI 0))] (wEt (zp ?_))))
 have hK4:=(((hBw1.ext hEw2).ext hEw3).ext hEw4)
 have hX1:Ext w w4:=(((hEw1.trans hEw2).trans hEw3).trans hEw4)
 refine zU (X:=Nat×Option Addr×Nat) (fun ⟨v,ao,cp⟩=> [(6,(vI v))]) [7,8,9,17,18,19,20,21,22,23,24,25,26,27,28,29,30,31,32,33,34,35,36,37,38,39,40,41,42,43,44,45,46,47,48,49,50,51,52,53,54,55,56,57,58,59,60,61,62,63,64,65,66,67,68,69,70,71,72,73,74,75,76,77,78,79,80] (fun ⟨v,ao,cp⟩ w5=>v≤hgt n_l+1∧w4.heap.size≤w5.heap.size∧OwM unC 280 w4.heap.size w5.heap.size w5 ao (num n_l v) cp 77 (TXp n_l (zaK l c s) v)∧Blk w5 w2.heap.size ([(vI n_l),(.slice ao (num n_l v) cp)]) 38∧Blk w5 w.heap.size ([(.slice a_l n_l c_l),(.slice a_c n_c c_c),(.slice a_s n_s c_s)]) 34∧Blk w5 w1.heap.size ([(vI 0),(.slice none 0 0)]) 38∧Es (nv .i64) w3.heap.size w4.heap.size w5 a1 (tot n_l) ca1 (zaX n_l c s)∧Ext w w5) (fun ⟨v,ao,cp⟩=>hgt n_l+1-v) (0,none,0) (by kernel_rfl) ⟨by omega,by omega,OwM.nil _ _ _ _ _ _ zI,(hBw3.ext hEw4),hK4,((hBw2.ext hEw3).ext hEw4),hma1,hX1⟩ ?_
 rintro ⟨v,ao,cp⟩ dw5 w5 ⟨hv,hz0a,hOa,hTa,hQ1a,hQ2a,hNa,hEa⟩
 have hza:=hEa.size;have hl4a:=hTa.lt;have hl1a:=hQ1a.lt;have hl2a:=hQ2a.lt
 have hns:=zbN (n:=n_l) (l:=v) hp3 (by omega)
 have hcnv:=zbl n_l v
 refine zd (wsr (zb 2 [(18,(vI n_l)),(17,(vI v))] (za (zt (zdM n_l _ (by omega) (by omega)) ?_))))
 rintro _ _ ⟨rfl,rfl⟩
 refine za (zjO 20 v (hgt n_l) (fun hc20=> ?_) (fun hc20=> ?_))
 ·refine wEt (zk (zl (zc (zd (zp (wsr (zb 1 [(7,(vI 0))] ?_)))))))
  refine wEt (zp (zU (X:=Nat×Option Addr×Nat) (fun ⟨j,ap,cq⟩=> [(7,(vI j))]) [8,9,23,24,25,26,27,28,29,30,31,32,33,34,35,36,37,38,39,40,41,42,43,44,45,46,47,48,49,50,51,52,53,54,55,56,57,58,59,60,61,62,63,64,65,66,67,68,69,70,71,72,73,74,75,76,77,78,79,80] (fun ⟨j,ap,cq⟩ w6=>j≤cnt n_l v∧w4.heap.size≤w6.heap.size∧OwM unC 280 w4.heap.size w6.heap.size w6 ap (num n_l v+j) cq 77 (TXq n_l (zaK l c s) v j)∧Blk w6 w2.heap.size ([(vI n_l),(.slice ap (num n_l v+j) cq)]) 38∧Blk w6 w.heap.size ([(.slice a_l n_l c_l),(.slice a_c n_c c_c),(.slice a_s n_s c_s)]) 34∧Blk w6 w1.heap.size ([(vI 0),(.slice none 0 0)]) 38∧Es (nv .i64) w3.heap.size w4.heap.size w6 a1 (tot n_l) ca1 (zaX n_l c s)∧Ext w w6) (fun ⟨j,ap,cq⟩=>cnt n_l v-j) (0,ao,cp) (by kernel_rfl) ⟨by omega,by omega,by rw [zmz];exact (hOa).now,hTa,hQ1a,hQ2a,hNa,hEa⟩ ?_))
  rintro ⟨j,ap,cq⟩ dw6 w6 ⟨hj,hz0b,hOb,hTb,hQ1b,hQ2b,hNb,hEb⟩
  have hzb:=hEb.size;have hl4b:=hTb.lt;have hl1b:=hQ1b.lt;have hl2b:=hQ2b.lt
  refine zd (wsr (zb 3 [(25,(vI v)),(24,(vI n_l)),(23,(vI j))] (za (zt (zep n_l v _ (by omega) (by omega) (by omega)) ?_))))
  rintro _ _ ⟨rfl,rfl⟩
  refine za (zag 27 j (cnt n_l v) (fun hc27=> ?_) (fun hc27=> ?_))
  ·have hjc:j<cnt n_l v:=by omega
   have hpl:=zaL (n:=n_l) (l:=v) (j:=j) (by omega) hjc
   have hs1:gt s (num n_l v+j)≤1:=hp4 _
   have hcnv2:=zbl n_l v
   refine wEt (zk (zl (zc (zd (zp (zd (zY 20 (fun w7 hEw7 hzw7 hT103=> ?_))))))))
   refine ze hT103 [(0,30,(vP w.heap.size 0))] 1 (zx hT103 1 w.heap.size 0 (fun w' hC=>(((hQ1b.ext hEw7).ext hC).cell rfl)) (ze hT103 [(2,32,(.slice a1 (tot n_l) ca1)),(3,33,(vI v)),(4,34,(vI j)),(6,36,(vP w.heap.size 2))] 4 (zx hT103 7 w.heap.size 2 (fun w' hC=>(((hQ1b.ext hEw7).ext hC).cell rfl)) (ze hT103 [(8,38,(vP w2.heap.size 1))] 1 (zx hT103 9 w2.heap.size 1 (fun w' hC=>(((hTb.ext hEw7).ext hC).cell rfl)) (ze hT103 [(10,40,(vI (num n_l v+j)))] 1 ?_))))))
   obtain ⟨b1,o1,rfl⟩:=h_s.addr (by omega)
   refine zaD hT103 11 b1 o1 n_s c_s (num n_l v+j) 1 (zx hT103 12 b1 (o1+(num n_l v+j)*1) (fun w' hC=>((((h_s.ext hEb).ext hEw7).ext hC).celln (by omega))) (zbj hT103 13 w.heap.size 0 (fun w' hC=>(((hQ1b.ext hEw7).ext hC).all)) (ze hT103 [(14,44,(vI v)),(15,45,(vI j))] 2 (zbB 5 18 ?_ ?_))))
   ·refine zt (znm v j _ ((h_l.ext hEb).ext hEw7) (hNb.ext hEw7) (by omega) (by omega) (by omega) (by omega) (by omega) (fun i=>Nat.le_trans (zkg hp4 i) (by decide))) ?_
    rintro _ w8 ⟨rfl,hEw8⟩
    have hzw8:=hEw8.size
    refine ⟨.inr hEw8, ?_⟩
    refine zbB 16 18 ?_ ?_
    ·have hK5:=(((h_l.ext hEb).ext hEw7).ext hEw8)
     have hK6:=(((h_c.ext hEb).ext hEw7).ext hEw8)
     have hK7:=(((h_s.ext hEb).ext hEw7).ext hEw8)
     refine zt (zif v j _ hK5 hK6 hK7 (by omega) (by omega) (by omega)) ?_
     rintro _ w9 ⟨rfl,hEw9⟩
     have hzw9:=hEw9.size
     have hX2:Ext w7 w9:=(hEw8.trans hEw9)
     refine ⟨.inr hX2, ?_⟩
     refine zr (hw:=hX2) hT103 17 (vA (unC (⟨(zaw l (zaX n_l c s) v j),((gt s (num n_l v+j):Nat):Int),drt c v j,List.replicate 4 false,rfl⟩))) (zai (Instr.build 77 #[(0,(vA (zH (zaw l (zaX n_l c s) v j)))),(1,(vI (gt s (num n_l v+j)))),(2,(.bool (drt c v j)))]) (fun w' hC=>zf4 (zaw l (zaX n_l c s) v j) ((gt s (num n_l v+j):Nat):Int) (drt c v j))) (zy 18 (zad (unC Un.zero) 77 ?_))
     intro w10 hBw10 hEw10 hzw10 hlw10
     have hX3:Ext w7 w10:=((hEw8.trans hEw9).trans hEw10)
     refine ⟨.inr hX3, ?_⟩
     refine zy 19 (zC 77 w9.heap.size 0 77 (vA (unC (⟨(zaw l (zaX n_l c s) v j),((gt s (num n_l v+j):Nat):Int),drt c v j,List.replicate 4 false,rfl⟩))) (unC Un.zero) (unC (⟨(zaw l (zaX n_l c s) v j),((gt s (num n_l v+j):Nat):Int),drt c v j,List.replicate 4 false,rfl⟩)) hBw10 (by rw [zI];kernel_rfl) (by first |(simp;done)|(simp;omega)) (za7 _) ?_)
     intro w11 hBw11 hCw11
     have hzw11:=hCw11.size
     rw [zv _ _ (by simp)] at hBw11
     refine ⟨.inl (by kernel_rfl), ?_⟩
     refine zB (zc (zd (wsr (zb 1 [(9,(vI 0))] (wEt (zp (zU (X:=Nat) (fun x=> [(9,(vI x))]) [48,49,50,51,52,53,54,55,56,57,58,59,60,61,62,63,64,65,66,67,68,69,70,71,72,73,74] (fun x w12=>x≤4∧Blk w12 w9.heap.size (unC (unW l c s v j x)) 77∧Chg (fun k=>k=w9.heap.size) w11 w12) (fun x=>4-x) 0 (by kernel_rfl) ⟨by omega,by rw [zjm,←hll];exact hBw11,Chg.refl _ _⟩ ?_)))))))
     rintro x dw12 w12 ⟨hx,hB8,hC8⟩
     have hz8:=hC8.size
     have hl8:=hB8.lt
     refine zd (wsr (zb 1 [(48,(vI x))] (za (zag 49 x 4 (fun hc49=> ?_) (fun hc49=> ?_)))))
     ·refine zb 2 [(51,(vI v)),(50,vT)] (za (zaI 52 v 0 (fun hc52=> ?_) (fun hc52=> ?_)))
      ·refine zb 3 [(55,(vI j)),(54,vT),(53,vT)] (za (zcg 56 4 j (4*j) ?_))
       refine zb 1 [(57,(vI x))] (za (zJ 58 (4*j) x (4*j+x) ?_))
       refine zb 1 [(59,(vI n_l))] (za (zag 60 (4*j+x) n_l (fun hc60=> ?_) (fun hc60=> ?_)))
       ·refine zb 1 [(61,vT)] (wEt (zk (zl (zc (zd (zp (zg (zb 2 [(65,(vP w.heap.size 1)),(64,(vI x))] ?_))))))))
        have hX4:=Ext.own (Ext.own (hEw9.trans hEw10) hCw11 (by omega)) hC8 (by omega)
        have hK8:=(((hQ1b.ext hEw7).ext hEw8).ext hX4)
        refine za (zm w.heap.size 1 (hK8.cell rfl) ?_)
        refine zb 1 [(67,(vI j))] (za (zcg 68 4 j (4*j) ?_))
        refine zb 1 [(69,(vI x))] (za (zJ 70 (4*j) x (4*j+x) ?_))
        obtain ⟨b2,o2,rfl⟩:=hK6.addr (by omega)
        refine za (zan b2 o2 n_c c_c (4*j+x) 1 ?_)
        refine za (zm b2 (o2+(4*j+x)*1) ((hK6.ext hX4).cellb (by omega)) ?_)
        refine zb 1 [(73,(vP w9.heap.size 276))] (za (zaW w9.heap.size 276 x 4 1 ?_))
        refine za (zah 4 w9.heap.size (276+x*1) 77 (.bool (c.getD (4*j+x) false)) (unC (unW l c s v j x)) hB8 (by first | decide |(simp;done)|(simp;omega)) ?_)
        intro w13 hBw13 hCw13
        have hzw13:=hCw13.size
        rw [show ((unC (unW l c s v j x)).set (276+x*1) (.bool (c.getD (4*j+x) false)):List Value)=unC (unW l c s v j (x+1)) from (zhy (by omega)).trans (congrArg unC (zjX (by omega) (by omega)))] at hBw13
        refine zq (zi (zc (zg (zb 1 [(62,(vI x))] (za (zJ 63 x 1 (x+1) ?_))))))
        refine zb 1 [(9,(vI (x+1)))] (zq (zn (zG (x+1) ?_ ?_)))
        ·exact ⟨by omega,hBw13,(Chg.then (Chg.then (Chg.refl (fun k=>k=w9.heap.size) w11) hC8 (fun k hk hs=>by have h:k=_:=hs;first | exact hs | exact .inl h | exact .inr h |(exfalso;omega))) hCw13 (fun k hk hs=>by have h:k=_:=hs;first | exact hs | exact .inl h | exact .inr h |(exfalso;omega)))⟩
        ·first | omega |(dsimp only;omega)
       ·rw [zdU (by omega)] at hB8
        refine zb 1 [(61,vF)] (wEt (zf (zP (zo (zo (zD (zc (zg ?_))))))))
        refine zb 1 [(75,(vP w2.heap.size 1))] ?_
        have hX5:=Ext.own (Ext.own (hEw9.trans hEw10) hCw11 (by omega)) hC8 (by omega)
        have hK9:=(((hTb.ext hEw7).ext hEw8).ext hX5)
        refine za (zm w2.heap.size 1 (hK9.cell rfl) ?_)
        refine za (zQ w9.heap.size 0 (hB8.all) (zI _) ?_)
        refine za (zdr (some 78) (Instr.buildSlice 36 1 #[(0,(vA (unC (zaK l c s v j))))]) (.slice (pA w12.heap.size 0) 1 1) (([(zaK l c s v j)]:List Un).flatMap unC) 77 ?_ (hr:=zdH (f:=unC) (sz:=280) (z:=(vA (unC Un.zero))) [(zaK l c s v j)] zI (by decide) rfl (Nat.succ_pos _) (show 280≤2^24 from by decide) rfl))
        intro w14 hBw14 hEw14
        have hzw14:=hEw14.size;have hlw14:=hBw14.lt
        have hmw14:Ms unC 280 w12.heap.size (w12.heap.size+1) w14 (pA w12.heap.size 0) 1 1 [(zaK l c s v j)]:=Ms.of_pre (r:= []) (by rw [List.append_nil];exact hBw14) zI rfl (Nat.le_refl _) (by decide) (Nat.le_refl _) (Nat.lt_succ_self _)
        have hK10:=((((hOb.ext hEw7).ext hEw8).ext hX5).ext hEw14)
        refine za (zbR (some 79) 36 36 77 384 (vA (unC Un.zero)) hK10 hmw14 za7 ?_ (by rw [Value.cells,List.size_toArray,zI]) (by decide))
        intro a2 c1 w15 hOw15 hCw15
        have hzw15:=hCw15.size
        have hSw15:=hOw15.ms;have hlea2:=hSw15.le
        refine zb 1 [(80,(vP w2.heap.size 1))] ?_
        have hK11:=((((hOb.ext hEw7).ext hEw8).ext hX5).ext hEw14)
        refine za (zah 36 w2.heap.size 1 38 (.slice a2 (num n_l v+j+1) c1) ([(vI n_l),(.slice ap (num n_l v+j) cq)]) (((hK9.ext hEw14)).chg hCw15 (fun hs=>by have hn:=hK11.ne hs;omega)) (by first | decide |(simp;done)|(simp;omega)) ?_)
        have hK12:=((((hOb.ext hEw7).ext hEw8).ext hX5).ext hEw14)
        intro w16 hBw16 hCw16
        have hzw16:=hCw16.size
        rw [show (([(vI n_l),(.slice ap (num n_l v+j) cq)]).set 1 (.slice a2 (num n_l v+j+1) c1):List Value)= [(vI n_l),(.slice a2 (num n_l v+j+1) c1)] from rfl] at hBw16
        refine zq (zi (zc (zg (zb 1 [(28,(vI j))] (za (zJ 29 j 1 (j+1) ?_))))))
        refine zb 1 [(7,(vI (j+1)))] (zq (zn ?_))
        have hK13:=((((hOb.ext hEw7).ext hEw8).ext hX5).ext hEw14)
        have hK14:=(((((((hQ1b.ext hEw7).ext hEw8).ext hX5).ext hEw14)).chg hCw15 (fun hs=>by have hn:=hK13.ne hs;omega)).chg hCw16)
        have hK15:=((((hOb.ext hEw7).ext hEw8).ext hX5).ext hEw14)
        have hK16:=(((((((hQ2b.ext hEw7).ext hEw8).ext hX5).ext hEw14)).chg hCw15 (fun hs=>by have hn:=hK15.ne hs;omega)).chg hCw16)
        have hK17:=((((hOb.ext hEw7).ext hEw8).ext hX5).ext hEw14)
        have hK18:=(((((((hNb.ext hEw7).ext hEw8).ext hX5).ext hEw14)).chg hCw15 (fun k h1 h2 hs=>by have hn:=hK17.ne hs;omega)).chg hCw16)
        have hK19:=((((hOb.ext hEw7).ext hEw8).ext hX5).ext hEw14)
        have hX6:Ext w w16:=(Ext.own (Ext.ownS ((((hEb.trans hEw7).trans hEw8).trans hX5).trans hEw14) hCw15 (fun k hs hk=>by have hn:=hK19.ne hs;omega)) hCw16 (by omega))
        refine zG (j+1,a2,c1) ?_ ?_
        ·exact ⟨by omega,by omega,by rw [zc2];exact ((hOw15.chg hCw16)).now,hBw16,hK14,hK16,hK18,hX6⟩
        ·first | omega |(dsimp only;omega)
      ·rw [zdU (by omega)] at hB8
       refine zb 9 [(61,vF),(60,undef),(59,undef),(58,undef),(57,undef),(56,undef),(55,undef),(54,vF),(53,vF)] (wEt (zf (zP (zo (zo (zD (zc (zg ?_))))))))
       refine zb 1 [(75,(vP w2.heap.size 1))] ?_
       have hX7:=Ext.own (Ext.own (hEw9.trans hEw10) hCw11 (by omega)) hC8 (by omega)
       have hK20:=(((hTb.ext hEw7).ext hEw8).ext hX7)
       refine za (zm w2.heap.size 1 (hK20.cell rfl) ?_)
       refine za (zQ w9.heap.size 0 (hB8.all) (zI _) ?_)
       refine za (zdr (some 78) (Instr.buildSlice 36 1 #[(0,(vA (unC (zaK l c s v j))))]) (.slice (pA w12.heap.size 0) 1 1) (([(zaK l c s v j)]:List Un).flatMap unC) 77 ?_ (hr:=zdH (f:=unC) (sz:=280) (z:=(vA (unC Un.zero))) [(zaK l c s v j)] zI (by decide) rfl (Nat.succ_pos _) (show 280≤2^24 from by decide) rfl))
       intro w17 hBw17 hEw17
       have hzw17:=hEw17.size;have hlw17:=hBw17.lt
       have hmw17:Ms unC 280 w12.heap.size (w12.heap.size+1) w17 (pA w12.heap.size 0) 1 1 [(zaK l c s v j)]:=Ms.of_pre (r:= []) (by rw [List.append_nil];exact hBw17) zI rfl (Nat.le_refl _) (by decide) (Nat.le_refl _) (Nat.lt_succ_self _)
       have hK21:=((((hOb.ext hEw7).ext hEw8).ext hX7).ext hEw17)
       refine za (zbR (some 79) 36 36 77 384 (vA (unC Un.zero)) hK21 hmw17 za7 ?_ (by rw [Value.cells,List.size_toArray,zI]) (by decide))
       intro a3 c2 w18 hOw18 hCw18
       have hzw18:=hCw18.size
       have hSw18:=hOw18.ms;have hlea3:=hSw18.le
       refine zb 1 [(80,(vP w2.heap.size 1))] ?_
       have hK22:=((((hOb.ext hEw7).ext hEw8).ext hX7).ext hEw17)
       refine za (zah 36 w2.heap.size 1 38 (.slice a3 (num n_l v+j+1) c2) ([(vI n_l),(.slice ap (num n_l v+j) cq)]) (((hK20.ext hEw17)).chg hCw18 (fun hs=>by have hn:=hK22.ne hs;omega)) (by first | decide |(simp;done)|(simp;omega)) ?_)
       have hK23:=((((hOb.ext hEw7).ext hEw8).ext hX7).ext hEw17)
       intro w19 hBw19 hCw19
       have hzw19:=hCw19.size
       rw [show (([(vI n_l),(.slice ap (num n_l v+j) cq)]).set 1 (.slice a3 (num n_l v+j+1) c2):List Value)= [(vI n_l),(.slice a3 (num n_l v+j+1) c2)] from rfl] at hBw19
       refine zq (zi (zc (zg (zb 1 [(28,(vI j))] (za (zJ 29 j 1 (j+1) ?_))))))
       refine zb 1 [(7,(vI (j+1)))] (zq (zn ?_))
       have hK24:=((((hOb.ext hEw7).ext hEw8).ext hX7).ext hEw17)
       have hK25:=(((((((hQ1b.ext hEw7).ext hEw8).ext hX7).ext hEw17)).chg hCw18 (fun hs=>by have hn:=hK24.ne hs;omega)).chg hCw19)
       have hK26:=((((hOb.ext hEw7).ext hEw8).ext hX7).ext hEw17)
       have hK27:=(((((((hQ2b.ext hEw7).ext hEw8).ext hX7).ext hEw17)).chg hCw18 (fun hs=>by have hn:=hK26.ne hs;omega)).chg hCw19)
       have hK28:=((((hOb.ext hEw7).ext hEw8).ext hX7).ext hEw17)
       have hK29:=(((((((hNb.ext hEw7).ext hEw8).ext hX7).ext hEw17)).chg hCw18 (fun k h1 h2 hs=>by have hn:=hK28.ne hs;omega)).chg hCw19)
       have hK30:=((((hOb.ext hEw7).ext hEw8).ext hX7).ext hEw17)
       have hX8:Ext w w19:=(Ext.own (Ext.ownS ((((hEb.trans hEw7).trans hEw8).trans hX7).trans hEw17) hCw18 (fun k hs hk=>by have hn:=hK30.ne hs;omega)) hCw19 (by omega))
       refine zG (j+1,a3,c2) ?_ ?_
       ·exact ⟨by omega,by omega,by rw [zc2];exact ((hOw18.chg hCw19)).now,hBw19,hK25,hK27,hK29,hX8⟩
       ·first | omega |(dsimp only;omega)
     ·rw [zdU (by omega)] at hB8
      refine zb 12 [(61,vF),(60,undef),(59,undef),(58,undef),(57,undef),(56,undef),(55,undef),(54,vF),(53,vF),(52,undef),(51,undef),(50,vF)] (wEt (zf (zP (zo (zo (zD (zc (zg ?_))))))))
      refine zb 1 [(75,(vP w2.heap.size 1))] ?_
      have hX9:=Ext.own (Ext.own (hEw9.trans hEw10) hCw11 (by omega)) hC8 (by omega)
      have hK31:=(((hTb.ext hEw7).ext hEw8).ext hX9)
      refine za (zm w2.heap.size 1 (hK31.cell rfl) ?_)
      refine za (zQ w9.heap.size 0 (hB8.all) (zI _) ?_)
      refine za (zdr (some 78) (Instr.buildSlice 36 1 #[(0,(vA (unC (zaK l c s v j))))]) (.slice (pA w12.heap.size 0) 1 1) (([(zaK l c s v j)]:List Un).flatMap unC) 77 ?_ (hr:=zdH (f:=unC) (sz:=280) (z:=(vA (unC Un.zero))) [(zaK l c s v j)] zI (by decide) rfl (Nat.succ_pos _) (show 280≤2^24 from by decide) rfl))
      intro w20 hBw20 hEw20
      have hzw20:=hEw20.size;have hlw20:=hBw20.lt
      have hmw20:Ms unC 280 w12.heap.size (w12.heap.size+1) w20 (pA w12.heap.size 0) 1 1 [(zaK l c s v j)]:=Ms.of_pre (r:= []) (by rw [List.append_nil];exact hBw20) zI rfl (Nat.le_refl _) (by decide) (Nat.le_refl _) (Nat.lt_succ_self _)
      have hK32:=((((hOb.ext hEw7).ext hEw8).ext hX9).ext hEw20)
      refine za (zbR (some 79) 36 36 77 384 (vA (unC Un.zero)) hK32 hmw20 za7 ?_ (by rw [Value.cells,List.size_toArray,zI]) (by decide))
      intro a4 c3 w21 hOw21 hCw21
      have hzw21:=hCw21.size
      have hSw21:=hOw21.ms;have hlea4:=hSw21.le
      refine zb 1 [(80,(vP w2.heap.size 1))] ?_
      have hK33:=((((hOb.ext hEw7).ext hEw8).ext hX9).ext hEw20)
      refine za (zah 36 w2.heap.size 1 38 (.slice a4 (num n_l v+j+1) c3) ([(vI n_l),(.slice ap (num n_l v+j) cq)]) (((hK31.ext hEw20)).chg hCw21 (fun hs=>by have hn:=hK33.ne hs;omega)) (by first | decide |(simp;done)|(simp;omega)) ?_)
      have hK34:=((((hOb.ext hEw7).ext hEw8).ext hX9).ext hEw20)
      intro w22 hBw22 hCw22
      have hzw22:=hCw22.size
      rw [show (([(vI n_l),(.slice ap (num n_l v+j) cq)]).set 1 (.slice a4 (num n_l v+j+1) c3):List Value)= [(vI n_l),(.slice a4 (num n_l v+j+1) c3)] from rfl] at hBw22
      refine zq (zi (zc (zg (zb 1 [(28,(vI j))] (za (zJ 29 j 1 (j+1) ?_))))))
      refine zb 1 [(7,(vI (j+1)))] (zq (zn ?_))
      have hK35:=((((hOb.ext hEw7).ext hEw8).ext hX9).ext hEw20)
      have hK36:=(((((((hQ1b.ext hEw7).ext hEw8).ext hX9).ext hEw20)).chg hCw21 (fun hs=>by have hn:=hK35.ne hs;omega)).chg hCw22)
      have hK37:=((((hOb.ext hEw7).ext hEw8).ext hX9).ext hEw20)
      have hK38:=(((((((hQ2b.ext hEw7).ext hEw8).ext hX9).ext hEw20)).chg hCw21 (fun hs=>by have hn:=hK37.ne hs;omega)).chg hCw22)
      have hK39:=((((hOb.ext hEw7).ext hEw8).ext hX9).ext hEw20)
      have hK40:=(((((((hNb.ext hEw7).ext hEw8).ext hX9).ext hEw20)).chg hCw21 (fun k h1 h2 hs=>by have hn:=hK39.ne hs;omega)).chg hCw22)
      have hK41:=((((hOb.ext hEw7).ext hEw8).ext hX9).ext hEw20)
      have hX10:Ext w w22:=(Ext.own (Ext.ownS ((((hEb.trans hEw7).trans hEw8).trans hX9).trans hEw20) hCw21 (fun k hs hk=>by have hn:=hK41.ne hs;omega)) hCw22 (by omega))
      refine zG (j+1,a4,c3) ?_ ?_
      ·exact ⟨by omega,by omega,by rw [zc2];exact ((hOw21.chg hCw22)).now,hBw22,hK36,hK38,hK40,hX10⟩
      ·first | omega |(dsimp only;omega)
    ·refine zad (unC Un.zero) 77 ?_
     intro w23 hBw23 hEw23 hzw23 hlw23
     have hX11:Ext w7 w23:=(hEw8.trans hEw23)
     refine ⟨.inr hX11, ?_⟩
     have hX12:=(hEb.trans hEw7).trans hEw8
     refine zy 16 (zt (zif v j _ ((h_l.ext hX12).ext hEw23) ((h_c.ext hX12).ext hEw23) ((h_s.ext hX12).ext hEw23) (by omega) (by omega) (by omega)) ?_)
     rintro _ w24 ⟨rfl,hEw24⟩
     have hzw24:=hEw24.size
     have hX13:Ext w7 w24:=((hEw8.trans hEw23).trans hEw24)
     refine ⟨.inr hX13, ?_⟩
     refine zr (hw:=hX13) hT103 17 (vA (unC (⟨(zaw l (zaX n_l c s) v j),((gt s (num n_l v+j):Nat):Int),drt c v j,List.replicate 4 false,rfl⟩))) (zai (Instr.build 77 #[(0,(vA (zH (zaw l (zaX n_l c s) v j)))),(1,(vI (gt s (num n_l v+j)))),(2,(.bool (drt c v j)))]) (fun w' hC=>zf4 (zaw l (zaX n_l c s) v j) ((gt s (num n_l v+j):Nat):Int) (drt c v j))) (zy 19 (zC 77 w8.heap.size 0 77 (vA (unC (⟨(zaw l (zaX n_l c s) v j),((gt s (num n_l v+j):Nat):Int),drt c v j,List.replicate 4 false,rfl⟩))) (unC Un.zero) (unC (⟨(zaw l (zaX n_l c s) v j),((gt s (num n_l v+j):Nat):Int),drt c v j,List.replicate 4 false,rfl⟩)) (hBw23.ext hEw24) (by rw [zI];kernel_rfl) (by first |(simp;done)|(simp;omega)) (za7 _) ?_))
     intro w25 hBw25 hCw25
     have hzw25:=hCw25.size
     rw [zv _ _ (by simp)] at hBw25
     refine ⟨.inl (by kernel_rfl), ?_⟩
     refine zB (zc (zd (wsr (zb 1 [(9,(vI 0))] (wEt (zp (zU (X:=Nat) (fun x=> [(9,(vI x))]) [48,49,50,51,52,53,54,55,56,57,58,59,60,61,62,63,64,65,66,67,68,69,70,71,72,73,74] (fun x w26=>x≤4∧Blk w26 w8.heap.size (unC (unW l c s v j x)) 77∧Chg (fun k=>k=w8.heap.size) w25 w26) (fun x=>4-x) 0 (by kernel_rfl) ⟨by omega,by rw [zjm,←hll];exact hBw25,Chg.refl _ _⟩ ?_)))))))
     rintro x dw26 w26 ⟨hx,hB8,hC8⟩
     have hz8:=hC8.size
     have hl8:=hB8.lt
     refine zd (wsr (zb 1 [(48,(vI x))] (za (zag 49 x 4 (fun hc49=> ?_) (fun hc49=> ?_)))))
     ·refine zb 2 [(51,(vI v)),(50,vT)] (za (zaI 52 v 0 (fun hc52=> ?_) (fun hc52=> ?_)))
      ·refine zb 3 [(55,(vI j)),(54,vT),(53,vT)] (za (zcg 56 4 j (4*j) ?_))
       refine zb 1 [(57,(vI x))] (za (zJ 58 (4*j) x (4*j+x) ?_))
       refine zb 1 [(59,(vI n_l))] (za (zag 60 (4*j+x) n_l (fun hc60=> ?_) (fun hc60=> ?_)))
       ·refine zb 1 [(61,vT)] (wEt (zk (zl (zc (zd (zp (zg (zb 2 [(65,(vP w.heap.size 1)),(64,(vI x))] ?_))))))))
        have hX14:=Ext.own (Ext.own (hEw23.trans hEw24) hCw25 (by omega)) hC8 (by omega)
        have hK42:=(((hQ1b.ext hEw7).ext hEw8).ext hX14)
        refine za (zm w.heap.size 1 (hK42.cell rfl) ?_)
        refine zb 1 [(67,(vI j))] (za (zcg 68 4 j (4*j) ?_))
        refine zb 1 [(69,(vI x))] (za (zJ 70 (4*j) x (4*j+x) ?_))
        obtain ⟨b3,o3,rfl⟩:=h_c.addr (by omega)
        refine za (zan b3 o3 n_c c_c (4*j+x) 1 ?_)
        refine za (zm b3 (o3+(4*j+x)*1) (((h_c.ext hX12).ext hX14).cellb (by omega)) ?_)
        refine zb 1 [(73,(vP w8.heap.size 276))] (za (zaW w8.heap.size 276 x 4 1 ?_))
        refine za (zah 4 w8.heap.size (276+x*1) 77 (.bool (c.getD (4*j+x) false)) (unC (unW l c s v j x)) hB8 (by first | decide |(simp;done)|(simp;omega)) ?_)
        intro w27 hBw27 hCw27
        have hzw27:=hCw27.size
        rw [show ((unC (unW l c s v j x)).set (276+x*1) (.bool (c.getD (4*j+x) false)):List Value)=unC (unW l c s v j (x+1)) from (zhy (by omega)).trans (congrArg unC (zjX (by omega) (by omega)))] at hBw27
        refine zq (zi (zc (zg (zb 1 [(62,(vI x))] (za (zJ 63 x 1 (x+1) ?_))))))
        refine zb 1 [(9,(vI (x+1)))] (zq (zn (zG (x+1) ?_ ?_)))
        ·exact ⟨by omega,hBw27,(Chg.then (Chg.then (Chg.refl (fun k=>k=w8.heap.size) w25) hC8 (fun k hk hs=>by have h:k=_:=hs;first | exact hs | exact .inl h | exact .inr h |(exfalso;omega))) hCw27 (fun k hk hs=>by have h:k=_:=hs;first | exact hs | exact .inl h | exact .inr h |(exfalso;omega)))⟩
        ·first | omega |(dsimp only;omega)
       ·rw [zdU (by omega)] at hB8
        refine zb 1 [(61,vF)] (wEt (zf (zP (zo (zo (zD (zc (zg ?_))))))))
        refine zb 1 [(75,(vP w2.heap.size 1))] ?_
        have hX15:=Ext.own (Ext.own (hEw23.trans hEw24) hCw25 (by omega)) hC8 (by omega)
        have hK43:=(((hTb.ext hEw7).ext hEw8).ext hX15)
        refine za (zm w2.heap.size 1 (hK43.cell rfl) ?_)
        refine za (zQ w8.heap.size 0 (hB8.all) (zI _) ?_)
        refine za (zdr (some 78) (Instr.buildSlice 36 1 #[(0,(vA (unC (zaK l c s v j))))]) (.slice (pA w26.heap.size 0) 1 1) (([(zaK l c s v j)]:List Un).flatMap unC) 77 ?_ (hr:=zdH (f:=unC) (sz:=280) (z:=(vA (unC Un.zero))) [(zaK l c s v j)] zI (by decide) rfl (Nat.succ_pos _) (show 280≤2^24 from by decide) rfl))
        intro w28 hBw28 hEw28
        have hzw28:=hEw28.size;have hlw28:=hBw28.lt
        have hmw28:Ms unC 280 w26.heap.size (w26.heap.size+1) w28 (pA w26.heap.size 0) 1 1 [(zaK l c s v j)]:=Ms.of_pre (r:= []) (by rw [List.append_nil];exact hBw28) zI rfl (Nat.le_refl _) (by decide) (Nat.le_refl _) (Nat.lt_succ_self _)
        have hK44:=((((hOb.ext hEw7).ext hEw8).ext hX15).ext hEw28)
        refine za (zbR (some 79) 36 36 77 384 (vA (unC Un.zero)) hK44 hmw28 za7 ?_ (by rw [Value.cells,List.size_toArray,zI]) (by decide))
        intro a5 c4 w29 hOw29 hCw29
        have hzw29:=hCw29.size
        have hSw29:=hOw29.ms;have hlea5:=hSw29.le
        refine zb 1 [(80,(vP w2.heap.size 1))] ?_
        have hK45:=((((hOb.ext hEw7).ext hEw8).ext hX15).ext hEw28)
        refine za (zah 36 w2.heap.size 1 38 (.slice a5 (num n_l v+j+1) c4) ([(vI n_l),(.slice ap (num n_l v+j) cq)]) (((hK43.ext hEw28)).chg hCw29 (fun hs=>by have hn:=hK45.ne hs;omega)) (by first | decide |(simp;done)|(simp;omega)) ?_)
        have hK46:=((((hOb.ext hEw7).ext hEw8).ext hX15).ext hEw28)
        intro w30 hBw30 hCw30
        have hzw30:=hCw30.size
        rw [show (([(vI n_l),(.slice ap (num n_l v+j) cq)]).set 1 (.slice a5 (num n_l v+j+1) c4):List Value)= [(vI n_l),(.slice a5 (num n_l v+j+1) c4)] from rfl] at hBw30
        refine zq (zi (zc (zg (zb 1 [(28,(vI j))] (za (zJ 29 j 1 (j+1) ?_))))))
        refine zb 1 [(7,(vI (j+1)))] (zq (zn ?_))
        have hK47:=((((hOb.ext hEw7).ext hEw8).ext hX15).ext hEw28)
        have hK48:=(((((((hQ1b.ext hEw7).ext hEw8).ext hX15).ext hEw28)).chg hCw29 (fun hs=>by have hn:=hK47.ne hs;omega)).chg hCw30)
        have hK49:=((((hOb.ext hEw7).ext hEw8).ext hX15).ext hEw28)
        have hK50:=(((((((hQ2b.ext hEw7).ext hEw8).ext hX15).ext hEw28)).chg hCw29 (fun hs=>by have hn:=hK49.ne hs;omega)).chg hCw30)
        have hK51:=((((hOb.ext hEw7).ext hEw8).ext hX15).ext hEw28)
        have hK52:=(((((((hNb.ext hEw7).ext hEw8).ext hX15).ext hEw28)).chg hCw29 (fun k h1 h2 hs=>by have hn:=hK51.ne hs;omega)).chg hCw30)
        have hK53:=((((hOb.ext hEw7).ext hEw8).ext hX15).ext hEw28)
        have hX16:Ext w w30:=(Ext.own (Ext.ownS ((hX12.trans hX15).trans hEw28) hCw29 (fun k hs hk=>by have hn:=hK53.ne hs;omega)) hCw30 (by omega))
        refine zG (j+1,a5,c4) ?_ ?_
        ·exact ⟨by omega,by omega,by rw [zc2];exact ((hOw29.chg hCw30)).now,hBw30,hK48,hK50,hK52,hX16⟩
        ·first | omega |(dsimp only;omega)
      ·rw [zdU (by omega)] at hB8
       refine zb 9 [(61,vF),(60,undef),(59,undef),(58,undef),(57,undef),(56,undef),(55,undef),(54,vF),(53,vF)] (wEt (zf (zP (zo (zo (zD (zc (zg ?_))))))))
       refine zb 1 [(75,(vP w2.heap.size 1))] ?_
       have hX17:=Ext.own (Ext.own (hEw23.trans hEw24) hCw25 (by omega)) hC8 (by omega)
       have hK54:=(((hTb.ext hEw7).ext hEw8).ext hX17)
       refine za (zm w2.heap.size 1 (hK54.cell rfl) ?_)
       refine za (zQ w8.heap.size 0 (hB8.all) (zI _) ?_)
       refine za (zdr (some 78) (Instr.buildSlice 36 1 #[(0,(vA (unC (zaK l c s v j))))]) (.slice (pA w26.heap.size 0) 1 1) (([(zaK l c s v j)]:List Un).flatMap unC) 77 ?_ (hr:=zdH (f:=unC) (sz:=280) (z:=(vA (unC Un.zero))) [(zaK l c s v j)] zI (by decide) rfl (Nat.succ_pos _) (show 280≤2^24 from by decide) rfl))
       intro w31 hBw31 hEw31
       have hzw31:=hEw31.size;have hlw31:=hBw31.lt
       have hmw31:Ms unC 280 w26.heap.size (w26.heap.size+1) w31 (pA w26.heap.size 0) 1 1 [(zaK l c s v j)]:=Ms.of_pre (r:= []) (by rw [List.append_nil];exact hBw31) zI rfl (Nat.le_refl _) (by decide) (Nat.le_refl _) (Nat.lt_succ_self _)
       have hK55:=((((hOb.ext hEw7).ext hEw8).ext hX17).ext hEw31)
       refine za (zbR (some 79) 36 36 77 384 (vA (unC Un.zero)) hK55 hmw31 za7 ?_ (by rw [Value.cells,List.size_toArray,zI]) (by decide))
       intro a6 c5 w32 hOw32 hCw32
       have hzw32:=hCw32.size
       have hSw32:=hOw32.ms;have hlea6:=hSw32.le
       refine zb 1 [(80,(vP w2.heap.size 1))] ?_
       have hK56:=((((hOb.ext hEw7).ext hEw8).ext hX17).ext hEw31)
       refine za (zah 36 w2.heap.size 1 38 (.slice a6 (num n_l v+j+1) c5) ([(vI n_l),(.slice ap (num n_l v+j) cq)]) (((hK54.ext hEw31)).chg hCw32 (fun hs=>by have hn:=hK56.ne hs;omega)) (by first | decide |(simp;done)|(simp;omega)) ?_)
       have hK57:=((((hOb.ext hEw7).ext hEw8).ext hX17).ext hEw31)
       intro w33 hBw33 hCw33
       have hzw33:=hCw33.size
       rw [show (([(vI n_l),(.slice ap (num n_l v+j) cq)]).set 1 (.slice a6 (num n_l v+j+1) c5):List Value)= [(vI n_l),(.slice a6 (num n_l v+j+1) c5)] from rfl] at hBw33
       refine zq (zi (zc (zg (zb 1 [(28,(vI j))] (za (zJ 29 j 1 (j+1) ?_))))))
       refine zb 1 [(7,(vI (j+1)))] (zq (zn ?_))
       have hK58:=((((hOb.ext hEw7).ext hEw8).ext hX17).ext hEw31)
       have hK59:=(((((((hQ1b.ext hEw7).ext hEw8).ext hX17).ext hEw31)).chg hCw32 (fun hs=>by have hn:=hK58.ne hs;omega)).chg hCw33)
       have hK60:=((((hOb.ext hEw7).ext hEw8).ext hX17).ext hEw31)
       have hK61:=(((((((hQ2b.ext hEw7).ext hEw8).ext hX17).ext hEw31)).chg hCw32 (fun hs=>by have hn:=hK60.ne hs;omega)).chg hCw33)
       have hK62:=((((hOb.ext hEw7).ext hEw8).ext hX17).ext hEw31)
       have hK63:=(((((((hNb.ext hEw7).ext hEw8).ext hX17).ext hEw31)).chg hCw32 (fun k h1 h2 hs=>by have hn:=hK62.ne hs;omega)).chg hCw33)
       have hK64:=((((hOb.ext hEw7).ext hEw8).ext hX17).ext hEw31)
       have hX18:Ext w w33:=(Ext.own (Ext.ownS ((hX12.trans hX17).trans hEw31) hCw32 (fun k hs hk=>by have hn:=hK64.ne hs;omega)) hCw33 (by omega))
       refine zG (j+1,a6,c5) ?_ ?_
       ·exact ⟨by omega,by omega,by rw [zc2];exact ((hOw32.chg hCw33)).now,hBw33,hK59,hK61,hK63,hX18⟩
       ·first | omega |(dsimp only;omega)
     ·rw [zdU (by omega)] at hB8
      refine zb 12 [(61,vF),(60,undef),(59,undef),(58,undef),(57,undef),(56,undef),(55,undef),(54,vF),(53,vF),(52,undef),(51,undef),(50,vF)] (wEt (zf (zP (zo (zo (zD (zc (zg ?_))))))))
      refine zb 1 [(75,(vP w2.heap.size 1))] ?_
      have hX19:=Ext.own (Ext.own (hEw23.trans hEw24) hCw25 (by omega)) hC8 (by omega)
      have hK65:=(((hTb.ext hEw7).ext hEw8).ext hX19)
      refine za (zm w2.heap.size 1 (hK65.cell rfl) ?_)
      refine za (zQ w8.heap.size 0 (hB8.all) (zI _) ?_)
      refine za (zdr (some 78) (Instr.buildSlice 36 1 #[(0,(vA (unC (zaK l c s v j))))]) (.slice (pA w26.heap.size 0) 1 1) (([(zaK l c s v j)]:List Un).flatMap unC) 77 ?_ (hr:=zdH (f:=unC) (sz:=280) (z:=(vA (unC Un.zero))) [(zaK l c s v j)] zI (by decide) rfl (Nat.succ_pos _) (show 280≤2^24 from by decide) rfl))
      intro w34 hBw34 hEw34
      have hzw34:=hEw34.size;have hlw34:=hBw34.lt
      have hmw34:Ms unC 280 w26.heap.size (w26.heap.size+1) w34 (pA w26.heap.size 0) 1 1 [(zaK l c s v j)]:=Ms.of_pre (r:= []) (by rw [List.append_nil];exact hBw34) zI rfl (Nat.le_refl _) (by decide) (Nat.le_refl _) (Nat.lt_succ_self _)
      have hK66:=((((hOb.ext hEw7).ext hEw8).ext hX19).ext hEw34)
      refine za (zbR (some 79) 36 36 77 384 (vA (unC Un.zero)) hK66 hmw34 za7 ?_ (by rw [Value.cells,List.size_toArray,zI]) (by decide))
      intro a7 c6 w35 hOw35 hCw35
      have hzw35:=hCw35.size
      have hSw35:=hOw35.ms;have hlea7:=hSw35.le
      refine zb 1 [(80,(vP w2.heap.size 1))] ?_
      have hK67:=((((hOb.ext hEw7).ext hEw8).ext hX19).ext hEw34)
      refine za (zah 36 w2.heap.size 1 38 (.slice a7 (num n_l v+j+1) c6) ([(vI n_l),(.slice ap (num n_l v+j) cq)]) (((hK65.ext hEw34)).chg hCw35 (fun hs=>by have hn:=hK67.ne hs;omega)) (by first | decide |(simp;done)|(simp;omega)) ?_)
      have hK68:=((((hOb.ext hEw7).ext hEw8).ext hX19).ext hEw34)
      intro w36 hBw36 hCw36
      have hzw36:=hCw36.size
      rw [show (([(vI n_l),(.slice ap (num n_l v+j) cq)]).set 1 (.slice a7 (num n_l v+j+1) c6):List Value)= [(vI n_l),(.slice a7 (num n_l v+j+1) c6)] from rfl] at hBw36
      refine zq (zi (zc (zg (zb 1 [(28,(vI j))] (za (zJ 29 j 1 (j+1) ?_))))))
      refine zb 1 [(7,(vI (j+1)))] (zq (zn ?_))
      have hK69:=((((hOb.ext hEw7).ext hEw8).ext hX19).ext hEw34)
      have hK70:=(((((((hQ1b.ext hEw7).ext hEw8).ext hX19).ext hEw34)).chg hCw35 (fun hs=>by have hn:=hK69.ne hs;omega)).chg hCw36)
      have hK71:=((((hOb.ext hEw7).ext hEw8).ext hX19).ext hEw34)
      have hK72:=(((((((hQ2b.ext hEw7).ext hEw8).ext hX19).ext hEw34)).chg hCw35 (fun hs=>by have hn:=hK71.ne hs;omega)).chg hCw36)
      have hK73:=((((hOb.ext hEw7).ext hEw8).ext hX19).ext hEw34)
      have hK74:=(((((((hNb.ext hEw7).ext hEw8).ext hX19).ext hEw34)).chg hCw35 (fun k h1 h2 hs=>by have hn:=hK73.ne hs;omega)).chg hCw36)
      have hK75:=((((hOb.ext hEw7).ext hEw8).ext hX19).ext hEw34)
      have hX20:Ext w w36:=(Ext.own (Ext.ownS ((hX12.trans hX19).trans hEw34) hCw35 (fun k hs hk=>by have hn:=hK75.ne hs;omega)) hCw36 (by omega))
      refine zG (j+1,a7,c6) ?_ ?_
      ·exact ⟨by omega,by omega,by rw [zc2];exact ((hOw35.chg hCw36)).now,hBw36,hK70,hK72,hK74,hX20⟩
      ·first | omega |(dsimp only;omega)
   ·refine zad (unC Un.zero) 77 ?_
    intro w37 hBw37 hEw37 hzw37 hlw37
    refine ⟨.inr hEw37, ?_⟩
    have hK76:=(((h_l.ext hEb).ext hEw7).ext hEw37)
    refine zy 5 (zt (znm v j _ hK76 ((hNb.ext hEw7).ext hEw37) (by omega) (by omega) (by omega) (by omega) (by omega) (fun i=>Nat.le_trans (zkg hp4 i) (by decide))) ?_)
    rintro _ w38 ⟨rfl,hEw38⟩
    have hzw38:=hEw38.size
    have hX21:Ext w7 w38:=(hEw37.trans hEw38)
    refine ⟨.inr hX21, ?_⟩
    have hX22:=(hEb.trans hEw7).trans hEw37
    refine zy 16 (zt (zif v j _ (hK76.ext hEw38) ((h_c.ext hX22).ext hEw38) ((h_s.ext hX22).ext hEw38) (by omega) (by omega) (by omega)) ?_)
    rintro _ w39 ⟨rfl,hEw39⟩
    have hzw39:=hEw39.size
    have hX23:Ext w7 w39:=((hEw37.trans hEw38).trans hEw39)
    refine ⟨.inr hX23, ?_⟩
    refine zr (hw:=hX23) hT103 17 (vA (unC (⟨(zaw l (zaX n_l c s) v j),((gt s (num n_l v+j):Nat):Int),drt c v j,List.replicate 4 false,rfl⟩))) (zai (Instr.build 77 #[(0,(vA (zH (zaw l (zaX n_l c s) v j)))),(1,(vI (gt s (num n_l v+j)))),(2,(.bool (drt c v j)))]) (fun w' hC=>zf4 (zaw l (zaX n_l c s) v j) ((gt s (num n_l v+j):Nat):Int) (drt c v j))) (zy 19 (zC 77 w7.heap.size 0 77 (vA (unC (⟨(zaw l (zaX n_l c s) v j),((gt s (num n_l v+j):Nat):Int),drt c v j,List.replicate 4 false,rfl⟩))) (unC Un.zero) (unC (⟨(zaw l (zaX n_l c s) v j),((gt s (num n_l v+j):Nat):Int),drt c v j,List.replicate 4 false,rfl⟩)) ((hBw37.ext hEw38).ext hEw39) (by rw [zI];kernel_rfl) (by first |(simp;done)|(simp;omega)) (za7 _) ?_))
    intro w40 hBw40 hCw40
    have hzw40:=hCw40.size
    rw [zv _ _ (by simp)] at hBw40
    refine ⟨.inl (by kernel_rfl), ?_⟩
    refine zB (zc (zd (wsr (zb 1 [(9,(vI 0))] (wEt (zp (zU (X:=Nat) (fun x=> [(9,(vI x))]) [48,49,50,51,52,53,54,55,56,57,58,59,60,61,62,63,64,65,66,67,68,69,70,71,72,73,74] (fun x w41=>x≤4∧Blk w41 w7.heap.size (unC (unW l c s v j x)) 77∧Chg (fun k=>k=w7.heap.size) w40 w41) (fun x=>4-x) 0 (by kernel_rfl) ⟨by omega,by rw [zjm,←hll];exact hBw40,Chg.refl _ _⟩ ?_)))))))
    rintro x dw41 w41 ⟨hx,hB8,hC8⟩
    have hz8:=hC8.size
    have hl8:=hB8.lt
    refine zd (wsr (zb 1 [(48,(vI x))] (za (zag 49 x 4 (fun hc49=> ?_) (fun hc49=> ?_)))))
    ·refine zb 2 [(51,(vI v)),(50,vT)] (za (zaI 52 v 0 (fun hc52=> ?_) (fun hc52=> ?_)))
     ·refine zb 3 [(55,(vI j)),(54,vT),(53,vT)] (za (zcg 56 4 j (4*j) ?_))
      refine zb 1 [(57,(vI x))] (za (zJ 58 (4*j) x (4*j+x) ?_))
      refine zb 1 [(59,(vI n_l))] (za (zag 60 (4*j+x) n_l (fun hc60=> ?_) (fun hc60=> ?_)))
      ·refine zb 1 [(61,vT)] (wEt (zk (zl (zc (zd (zp (zg (zb 2 [(65,(vP w.heap.size 1)),(64,(vI x))] ?_))))))))
       have hK77:=((((((hQ1b.ext hEw7).ext hEw37).ext hEw38).ext hEw39).chg hCw40).chg hC8)
       refine za (zm w.heap.size 1 (hK77.cell rfl) ?_)
       refine zb 1 [(67,(vI j))] (za (zcg 68 4 j (4*j) ?_))
       refine zb 1 [(69,(vI x))] (za (zJ 70 (4*j) x (4*j+x) ?_))
       obtain ⟨b4,o4,rfl⟩:=h_c.addr (by omega)
       refine za (zan b4 o4 n_c c_c (4*j+x) 1 ?_)
       have hK78:=(((((h_c.ext hX22).ext hEw38).ext hEw39).chg hCw40).chg hC8)
       refine za (zm b4 (o4+(4*j+x)*1) (hK78.cellb (by omega)) ?_)
       refine zb 1 [(73,(vP w7.heap.size 276))] (za (zaW w7.heap.size 276 x 4 1 ?_))
       refine za (zah 4 w7.heap.size (276+x*1) 77 (.bool (c.getD (4*j+x) false)) (unC (unW l c s v j x)) hB8 (by first | decide |(simp;done)|(simp;omega)) ?_)
       intro w42 hBw42 hCw42
       have hzw42:=hCw42.size
       rw [show ((unC (unW l c s v j x)).set (276+x*1) (.bool (c.getD (4*j+x) false)):List Value)=unC (unW l c s v j (x+1)) from (zhy (by omega)).trans (congrArg unC (zjX (by omega) (by omega)))] at hBw42
       refine zq (zi (zc (zg (zb 1 [(62,(vI x))] (za (zJ 63 x 1 (x+1) ?_))))))
       refine zb 1 [(9,(vI (x+1)))] (zq (zn (zG (x+1) ?_ ?_)))
       ·exact ⟨by omega,hBw42,(Chg.then (Chg.then (Chg.refl (fun k=>k=w7.heap.size) w40) hC8 (fun k hk hs=>by have h:k=_:=hs;first | exact hs | exact .inl h | exact .inr h |(exfalso;omega))) hCw42 (fun k hk hs=>by have h:k=_:=hs;first | exact hs | exact .inl h | exact .inr h |(exfalso;omega)))⟩
       ·first | omega |(dsimp only;omega)
      ·rw [zdU (by omega)] at hB8
       refine zb 1 [(61,vF)] (wEt (zf (zP (zo (zo (zD (zc (zg ?_))))))))
       refine zb 1 [(75,(vP w2.heap.size 1))] ?_
       have hK79:=((((((hTb.ext hEw7).ext hEw37).ext hEw38).ext hEw39).chg hCw40).chg hC8)
       refine za (zm w2.heap.size 1 (hK79.cell rfl) ?_)
       refine za (zQ w7.heap.size 0 (hB8.all) (zI _) ?_)
       refine za (zdr (some 78) (Instr.buildSlice 36 1 #[(0,(vA (unC (zaK l c s v j))))]) (.slice (pA w41.heap.size 0) 1 1) (([(zaK l c s v j)]:List Un).flatMap unC) 77 ?_ (hr:=zdH (f:=unC) (sz:=280) (z:=(vA (unC Un.zero))) [(zaK l c s v j)] zI (by decide) rfl (Nat.succ_pos _) (show 280≤2^24 from by decide) rfl))
       intro w43 hBw43 hEw43
       have hzw43:=hEw43.size;have hlw43:=hBw43.lt
       have hmw43:Ms unC 280 w41.heap.size (w41.heap.size+1) w43 (pA w41.heap.size 0) 1 1 [(zaK l c s v j)]:=Ms.of_pre (r:= []) (by rw [List.append_nil];exact hBw43) zI rfl (Nat.le_refl _) (by decide) (Nat.le_refl _) (Nat.lt_succ_self _)
       have hK80:=(((((((hOb.ext hEw7).ext hEw37).ext hEw38).ext hEw39).chg hCw40).chg hC8).ext hEw43)
       refine za (zbR (some 79) 36 36 77 384 (vA (unC Un.zero)) hK80 hmw43 za7 ?_ (by rw [Value.cells,List.size_toArray,zI]) (by decide))
       intro a8 c7 w44 hOw44 hCw44
       have hzw44:=hCw44.size
       have hSw44:=hOw44.ms;have hlea8:=hSw44.le
       refine zb 1 [(80,(vP w2.heap.size 1))] ?_
       have hK81:=(((((((hOb.ext hEw7).ext hEw37).ext hEw38).ext hEw39).chg hCw40).chg hC8).ext hEw43)
       refine za (zah 36 w2.heap.size 1 38 (.slice a8 (num n_l v+j+1) c7) ([(vI n_l),(.slice ap (num n_l v+j) cq)]) (((hK79.ext hEw43)).chg hCw44 (fun hs=>by have hn:=hK81.ne hs;omega)) (by first | decide |(simp;done)|(simp;omega)) ?_)
       have hK82:=(((((((hOb.ext hEw7).ext hEw37).ext hEw38).ext hEw39).chg hCw40).chg hC8).ext hEw43)
       intro w45 hBw45 hCw45
       have hzw45:=hCw45.size
       rw [show (([(vI n_l),(.slice ap (num n_l v+j) cq)]).set 1 (.slice a8 (num n_l v+j+1) c7):List Value)= [(vI n_l),(.slice a8 (num n_l v+j+1) c7)] from rfl] at hBw45
       refine zq (zi (zc (zg (zb 1 [(28,(vI j))] (za (zJ 29 j 1 (j+1) ?_))))))
       refine zb 1 [(7,(vI (j+1)))] (zq (zn ?_))
       have hK83:=(((((((hOb.ext hEw7).ext hEw37).ext hEw38).ext hEw39).chg hCw40).chg hC8).ext hEw43)
       have hK84:=((((((((((hQ1b.ext hEw7).ext hEw37).ext hEw38).ext hEw39).chg hCw40).chg hC8).ext hEw43)).chg hCw44 (fun hs=>by have hn:=hK83.ne hs;omega)).chg hCw45)
       have hK85:=(((((((hOb.ext hEw7).ext hEw37).ext hEw38).ext hEw39).chg hCw40).chg hC8).ext hEw43)
       have hK86:=((((((((((hQ2b.ext hEw7).ext hEw37).ext hEw38).ext hEw39).chg hCw40).chg hC8).ext hEw43)).chg hCw44 (fun hs=>by have hn:=hK85.ne hs;omega)).chg hCw45)
       have hK87:=(((((((hOb.ext hEw7).ext hEw37).ext hEw38).ext hEw39).chg hCw40).chg hC8).ext hEw43)
       have hK88:=((((((((((hNb.ext hEw7).ext hEw37).ext hEw38).ext hEw39).chg hCw40).chg hC8).ext hEw43)).chg hCw44 (fun k h1 h2 hs=>by have hn:=hK87.ne hs;omega)).chg hCw45)
       have hK89:=(((((((hOb.ext hEw7).ext hEw37).ext hEw38).ext hEw39).chg hCw40).chg hC8).ext hEw43)
       have hX24:Ext w w45:=(Ext.own (Ext.ownS ((Ext.own (Ext.own ((hX22.trans hEw38).trans hEw39) hCw40 (by omega)) hC8 (by omega)).trans hEw43) hCw44 (fun k hs hk=>by have hn:=hK89.ne hs;omega)) hCw45 (by omega))
       refine zG (j+1,a8,c7) ?_ ?_
       ·exact ⟨by omega,by omega,by rw [zc2];exact ((hOw44.chg hCw45)).now,hBw45,hK84,hK86,hK88,hX24⟩
       ·first | omega |(dsimp only;omega)
     ·rw [zdU (by omega)] at hB8
      refine zb 9 [(61,vF),(60,undef),(59,undef),(58,undef),(57,undef),(56,undef),(55,undef),(54,vF),(53,vF)] (wEt (zf (zP (zo (zo (zD (zc (zg ?_))))))))
      refine zb 1 [(75,(vP w2.heap.size 1))] ?_
      have hK90:=((((((hTb.ext hEw7).ext hEw37).ext hEw38).ext hEw39).chg hCw40).chg hC8)
      refine za (zm w2.heap.size 1 (hK90.cell rfl) ?_)
      refine za (zQ w7.heap.size 0 (hB8.all) (zI _) ?_)
      refine za (zdr (some 78) (Instr.buildSlice 36 1 #[(0,(vA (unC (zaK l c s v j))))]) (.slice (pA w41.heap.size 0) 1 1) (([(zaK l c s v j)]:List Un).flatMap unC) 77 ?_ (hr:=zdH (f:=unC) (sz:=280) (z:=(vA (unC Un.zero))) [(zaK l c s v j)] zI (by decide) rfl (Nat.succ_pos _) (show 280≤2^24 from by decide) rfl))
      intro w46 hBw46 hEw46
      have hzw46:=hEw46.size;have hlw46:=hBw46.lt
      have hmw46:Ms unC 280 w41.heap.size (w41.heap.size+1) w46 (pA w41.heap.size 0) 1 1 [(zaK l c s v j)]:=Ms.of_pre (r:= []) (by rw [List.append_nil];exact hBw46) zI rfl (Nat.le_refl _) (by decide) (Nat.le_refl _) (Nat.lt_succ_self _)
      have hK91:=(((((((hOb.ext hEw7).ext hEw37).ext hEw38).ext hEw39).chg hCw40).chg hC8).ext hEw46)
      refine za (zbR (some 79) 36 36 77 384 (vA (unC Un.zero)) hK91 hmw46 za7 ?_ (by rw [Value.cells,List.size_toArray,zI]) (by decide))
      intro a9 c8 w47 hOw47 hCw47
      have hzw47:=hCw47.size
      have hSw47:=hOw47.ms;have hlea9:=hSw47.le
      refine zb 1 [(80,(vP w2.heap.size 1))] ?_
      have hK92:=(((((((hOb.ext hEw7).ext hEw37).ext hEw38).ext hEw39).chg hCw40).chg hC8).ext hEw46)
      refine za (zah 36 w2.heap.size 1 38 (.slice a9 (num n_l v+j+1) c8) ([(vI n_l),(.slice ap (num n_l v+j) cq)]) (((hK90.ext hEw46)).chg hCw47 (fun hs=>by have hn:=hK92.ne hs;omega)) (by first | decide |(simp;done)|(simp;omega)) ?_)
      have hK93:=(((((((hOb.ext hEw7).ext hEw37).ext hEw38).ext hEw39).chg hCw40).chg hC8).ext hEw46)
      intro w48 hBw48 hCw48
      have hzw48:=hCw48.size
      rw [show (([(vI n_l),(.slice ap (num n_l v+j) cq)]).set 1 (.slice a9 (num n_l v+j+1) c8):List Value)= [(vI n_l),(.slice a9 (num n_l v+j+1) c8)] from rfl] at hBw48
      refine zq (zi (zc (zg (zb 1 [(28,(vI j))] (za (zJ 29 j 1 (j+1) ?_))))))
      refine zb 1 [(7,(vI (j+1)))] (zq (zn ?_))
      have hK94:=(((((((hOb.ext hEw7).ext hEw37).ext hEw38).ext hEw39).chg hCw40).chg hC8).ext hEw46)
      have hK95:=((((((((((hQ1b.ext hEw7).ext hEw37).ext hEw38).ext hEw39).chg hCw40).chg hC8).ext hEw46)).chg hCw47 (fun hs=>by have hn:=hK94.ne hs;omega)).chg hCw48)
      have hK96:=(((((((hOb.ext hEw7).ext hEw37).ext hEw38).ext hEw39).chg hCw40).chg hC8).ext hEw46)
      have hK97:=((((((((((hQ2b.ext hEw7).ext hEw37).ext hEw38).ext hEw39).chg hCw40).chg hC8).ext hEw46)).chg hCw47 (fun hs=>by have hn:=hK96.ne hs;omega)).chg hCw48)
      have hK98:=(((((((hOb.ext hEw7).ext hEw37).ext hEw38).ext hEw39).chg hCw40).chg hC8).ext hEw46)
      have hK99:=((((((((((hNb.ext hEw7).ext hEw37).ext hEw38).ext hEw39).chg hCw40).chg hC8).ext hEw46)).chg hCw47 (fun k h1 h2 hs=>by have hn:=hK98.ne hs;omega)).chg hCw48)
      have hK100:=(((((((hOb.ext hEw7).ext hEw37).ext hEw38).ext hEw39).chg hCw40).chg hC8).ext hEw46)
      have hX25:Ext w w48:=(Ext.own (Ext.ownS ((Ext.own (Ext.own ((hX22.trans hEw38).trans hEw39) hCw40 (by omega)) hC8 (by omega)).trans hEw46) hCw47 (fun k hs hk=>by have hn:=hK100.ne hs;omega)) hCw48 (by omega))
      refine zG (j+1,a9,c8) ?_ ?_
      ·exact ⟨by omega,by omega,by rw [zc2];exact ((hOw47.chg hCw48)).now,hBw48,hK95,hK97,hK99,hX25⟩
      ·first | omega |(dsimp only;omega)
    ·rw [zdU (by omega)] at hB8
     refine zb 12 [(61,vF),(60,undef),(59,undef),(58,undef),(57,undef),(56,undef),(55,undef),(54,vF),(53,vF),(52,undef),(51,undef),(50,vF)] (wEt (zf (zP (zo (zo (zD (zc (zg ?_))))))))
     refine zb 1 [(75,(vP w2.heap.size 1))] ?_
     have hK101:=((((((hTb.ext hEw7).ext hEw37).ext hEw38).ext hEw39).chg hCw40).chg hC8)
     refine za (zm w2.heap.size 1 (hK101.cell rfl) ?_)
     refine za (zQ w7.heap.size 0 (hB8.all) (zI _) ?_)
     refine za (zdr (some 78) (Instr.buildSlice 36 1 #[(0,(vA (unC (zaK l c s v j))))]) (.slice (pA w41.heap.size 0) 1 1) (([(zaK l c s v j)]:List Un).flatMap unC) 77 ?_ (hr:=zdH (f:=unC) (sz:=280) (z:=(vA (unC Un.zero))) [(zaK l c s v j)] zI (by decide) rfl (Nat.succ_pos _) (show 280≤2^24 from by decide) rfl))
     intro w49 hBw49 hEw49
     have hzw49:=hEw49.size;have hlw49:=hBw49.lt
     have hmw49:Ms unC 280 w41.heap.size (w41.heap.size+1) w49 (pA w41.heap.size 0) 1 1 [(zaK l c s v j)]:=Ms.of_pre (r:= []) (by rw [List.append_nil];exact hBw49) zI rfl (Nat.le_refl _) (by decide) (Nat.le_refl _) (Nat.lt_succ_self _)
     have hK102:=(((((((hOb.ext hEw7).ext hEw37).ext hEw38).ext hEw39).chg hCw40).chg hC8).ext hEw49)
     refine za (zbR (some 79) 36 36 77 384 (vA (unC Un.zero)) hK102 hmw49 za7 ?_ (by rw [Value.cells,List.size_toArray,zI]) (by decide))
     intro a10 c9 w50 hOw50 hCw50
     have hzw50:=hCw50.size
     have hSw50:=hOw50.ms;have hlea10:=hSw50.le
     refine zb 1 [(80,(vP w2.heap.size 1))] ?_
     have hK103:=(((((((hOb.ext hEw7).ext hEw37).ext hEw38).ext hEw39).chg hCw40).chg hC8).ext hEw49)
     refine za (zah 36 w2.heap.size 1 38 (.slice a10 (num n_l v+j+1) c9) ([(vI n_l),(.slice ap (num n_l v+j) cq)]) (((hK101.ext hEw49)).chg hCw50 (fun hs=>by have hn:=hK103.ne hs;omega)) (by first | decide |(simp;done)|(simp;omega)) ?_)
     have hK104:=(((((((hOb.ext hEw7).ext hEw37).ext hEw38).ext hEw39).chg hCw40).chg hC8).ext hEw49)
     intro w51 hBw51 hCw51
     have hzw51:=hCw51.size
     rw [show (([(vI n_l),(.slice ap (num n_l v+j) cq)]).set 1 (.slice a10 (num n_l v+j+1) c9):List Value)= [(vI n_l),(.slice a10 (num n_l v+j+1) c9)] from rfl] at hBw51
     refine zq (zi (zc (zg (zb 1 [(28,(vI j))] (za (zJ 29 j 1 (j+1) ?_))))))
     refine zb 1 [(7,(vI (j+1)))] (zq (zn ?_))
     have hK105:=(((((((hOb.ext hEw7).ext hEw37).ext hEw38).ext hEw39).chg hCw40).chg hC8).ext hEw49)
     have hK106:=((((((((((hQ1b.ext hEw7).ext hEw37).ext hEw38).ext hEw39).chg hCw40).chg hC8).ext hEw49)).chg hCw50 (fun hs=>by have hn:=hK105.ne hs;omega)).chg hCw51)
     have hK107:=(((((((hOb.ext hEw7).ext hEw37).ext hEw38).ext hEw39).chg hCw40).chg hC8).ext hEw49)
     have hK108:=((((((((((hQ2b.ext hEw7).ext hEw37).ext hEw38).ext hEw39).chg hCw40).chg hC8).ext hEw49)).chg hCw50 (fun hs=>by have hn:=hK107.ne hs;omega)).chg hCw51)
     have hK109:=(((((((hOb.ext hEw7).ext hEw37).ext hEw38).ext hEw39).chg hCw40).chg hC8).ext hEw49)
     have hK110:=((((((((((hNb.ext hEw7).ext hEw37).ext hEw38).ext hEw39).chg hCw40).chg hC8).ext hEw49)).chg hCw50 (fun k h1 h2 hs=>by have hn:=hK109.ne hs;omega)).chg hCw51)
     have hK111:=(((((((hOb.ext hEw7).ext hEw37).ext hEw38).ext hEw39).chg hCw40).chg hC8).ext hEw49)
     have hX26:Ext w w51:=(Ext.own (Ext.ownS ((Ext.own (Ext.own ((hX22.trans hEw38).trans hEw39) hCw40 (by omega)) hC8 (by omega)).trans hEw49) hCw50 (fun k hs hk=>by have hn:=hK111.ne hs;omega)) hCw51 (by omega))
     refine zG (j+1,a10,c9) ?_ ?_
     ·exact ⟨by omega,by omega,by rw [zc2];exact ((hOw50.chg hCw51)).now,hBw51,hK106,hK108,hK110,hX26⟩
     ·first | omega |(dsimp only;omega)
  ·obtain rfl:j=cnt n_l v:=by omega
   refine wEt (zf (zP (zo (zo (zD (zi (zc (zg ?_))))))))
   refine zb 1 [(21,(vI v))] (za (zJ 22 v 1 (v+1) ?_))
   refine zb 1 [(6,(vI (v+1)))] (zq (zn (zG (v+1,ap,cq) ?_ ?_)))
   ·exact ⟨by omega,by omega,by rw [←znv];exact (hOb).now,hTb,hQ1b,hQ2b,hNb,hEb⟩
   ·first | omega |(dsimp only;omega)
 ·refine wEt (zf (zP (zo (zo (zD (zc (wsr ?_)))))))
  refine za (zV w2.heap.size 0 (hTa.all) ?_)
  refine za (zC 38 w1.heap.size 0 38 (vA [(vI n_l),(.slice ao (num n_l v) cp)]) ([(vI 0),(.slice none 0 0)]) ([(vI n_l),(.slice ao (num n_l v) cp)]) hQ2a (by kernel_rfl) (by first | decide |(simp;done)|(simp;omega)) (by simp [Value.oneCell']) ?_)
  intro w52 hBw52 hCw52
  have hzw52:=hCw52.size
  rw [zv _ _ (by kernel_rfl)] at hBw52
  refine zF (zaR (show zO Tryz.prog 82 _ _ (.cell 2 38) (vA [(vI n_l),(.slice ao (num n_l v) cp)]) from ⟨⟨w1.heap.size,0,none⟩,(by kernel_rfl),zE (T:=38) (vs:= [(vI n_l),(.slice ao (num n_l v) cp)]) (hBw52).all (by kernel_rfl)⟩) ?_)
  obtain rfl:v=hgt n_l+1:=by omega
  exact ⟨_,_,rfl,by have hz:=(hOa.chg hCw52);unfold zaM TX;rw [←hll];exact hz.now.mono (by omega) (Nat.le_refl _),(Ext.own hEa hCw52 (by omega))⟩
end Go.Proofs.YtkmhgepdhilllaaGreatDoor
namespace Go.Proofs.YtkmhgepdhilllaaGreatDoor
open Go Go.RowKit Go.Cs
set_option maxRecDepth 100000
theorem zdB (k:Nat) (w:World) (hp0:k<256):
  Calls Tryz.prog 20 #[(vB k)] w (Ret fun r w'=>r=(vA (zbb (zb3 k)))∧Ext w w'):=by
 refine zw (n:=9) (σ:= [(0,(vB k))]) Tryz.func20 rfl ?_
 refine wsr (za (zad (zbb Non.zero) 56 ?_))
 intro w1 hBw1 hEw1 hzw1 hlw1
 refine zz (zb 1 [(3,(vB k))] (za (zae (some 4) .u8 (((k:Nat):Int).tmod ((4:Nat):Int)) (k%256%4) ((zcX _ _).trans (by rw [Nat.mod_eq_of_lt hp0])) ?_)))
 refine za (zae (some 5) .u32 (IntKind.u32.wrap ((k%256%4:Nat):Int)) (k%256%4) (zbF rfl rfl (by show _<2^32;omega)) ?_)
 refine zb 1 [(6,(vB k))] (za (zae (some 7) .u64 (IntKind.u64.wrap ((k:Nat):Int)) (k%256) (zbF rfl (by rw [Nat.mod_eq_of_lt hp0]) (by show _<2^64;omega)) ?_))
 refine zb 1 [(8,(vA (zbb (zb3 k))))] (za (zC 56 w.heap.size 0 56 (vA (zbb (zb3 k))) (zbb Non.zero) (zbb (zb3 k)) hBw1 (by rw [zfN];kernel_rfl) (by first |(simp;done)|(simp;omega)) (zrF _) ?_))
 intro w2 hBw2 hCw2
 have hzw2:=hCw2.size
 rw [zv _ _ (by simp)] at hBw2
 exact zF (zaR (show zO Tryz.prog 9 _ _ (.cell 2 56) (vA (zbb (zb3 k))) from ⟨⟨w.heap.size,0,none⟩,(by kernel_rfl),zE (T:=56) (vs:=zbb (zb3 k)) (hBw2).all (by rw [zfN];kernel_rfl)⟩) (⟨rfl,(Ext.own hEw1 hCw2 (by omega))⟩))
set_option maxHeartbeats 4000000 in
theorem zu9 (k:Nat) {lo_p hi_p:Nat} {a_p:Option Addr} {n_p c_p:Nat} {p:List (UInt8×UInt8)} {lo_s hi_s:Nat} {a_s:Option Addr} {n_s c_s:Nat} {s:List UInt8} {lo_q hi_q:Nat} {a_q:Option Addr} {n_q c_q:Nat} {q:List (UInt8×UInt8)} (w:World) (h_p:Ms b2C 2 lo_p hi_p w a_p n_p c_p p) (h_s:Bs lo_s hi_s w a_s n_s c_s s) (h_q:Ms b2C 2 lo_q hi_q w a_q n_q c_q q) (hp0:k<256):
  Calls Tryz.prog 25 #[(vA [(vB k),(.slice a_p n_p c_p),(.slice a_s n_s c_s),(.slice a_q n_q c_q)])] w (Ret fun r w'=>∃(a0L:List Rec) (a0C:List Bool) (a0S:List Nat) (a0a:Option Addr) (a0b:Nat) (a0c:Option Addr) (a0d:Nat) (a0e:Option Addr) (a0f:Nat),r=(vA [(.slice a0a (zT k) a0b),(.slice a0c (zT k) a0d),(.slice a0e (tot (zT k)) a0f)])∧OkW a0L a0C a0S∧a0L.length=(zT k)∧Ms zL 35 w.heap.size w'.heap.size w' a0a (zT k) a0b a0L∧Es Value.bool w.heap.size w'.heap.size w' a0c (zT k) a0d a0C∧Es (nv .i64) w.heap.size w'.heap.size w' a0e (tot (zT k)) a0f a0S∧Ext w w'):=by
 refine zw (n:=63) (σ:= [(0,(vA [(vB k),(.slice a_p n_p c_p),(.slice a_s n_s c_s),(.slice a_q n_q c_q)]))]) Tryz.func25 rfl ?_
 replace h_p:=h_p.now;have hle_p:=h_p.le
 replace h_s:=h_s.now;have hle_s:=h_s.le
 replace h_q:=h_q.now;have hle_q:=h_q.le
 have hbk:=zhx k
 have hOM:=zsd p s k
 have hts:=zau (n:=zT k) (by omega)
 have htp:=zcq (n:=zT k) (by omega) (by omega)
 have hlp:=h_p.len_eq;have hls:=h_s.len_eq;have hlq:=h_q.len_eq
 have hleq:=h_q.le
 refine wsr (za (zS (Instr.box 27 (vA [(vB k),(.slice a_p n_p c_p),(.slice a_s n_s c_s),(.slice a_q n_q c_q)])) (vP w.heap.size 0) ([(vB k),(.slice a_p n_p c_p),(.slice a_s n_s c_s),(.slice a_q n_q c_q)]) 27 ?_))
 intro w1 hBw1 hEw1 hzw1 hlw1
 refine za (zad ([(.slice none 0 0),(.slice none 0 0),(.slice none 0 0)]) 34 ?_)
 intro w2 hBw2 hEw2 hzw2 hlw2
 refine zz (zb 1 [(8,(vP w.heap.size 0))] (za (zV w.heap.size 0 ((hBw1.ext hEw2).at 0 [(vB k),(.slice a_p n_p c_p),(.slice a_s n_s c_s)] rfl) ?_)))
 refine za (zt (zv8 k _ ((h_p.ext hEw1).ext hEw2) ((h_s.ext hEw1).ext hEw2) (by omega)) ?_)
 rintro _ w3 ⟨a1,ca1,a2,ca2,rfl,hFz1_0,hFz1_1,hEw3⟩
 have hzw3:=hEw3.size
 have hma1:=hFz1_0.ms;have hlea1:=hma1.le
 have hlea2:=hFz1_1.le
 refine zb 5 [(4,(.slice a2 (tot (zT k)) ca2)),(3,(.slice a1 (zT k) ca1)),(12,(.slice a2 (tot (zT k)) ca2)),(11,(.slice a1 (zT k) ca1)),(7,(.tuple #[(.slice a1 (zT k) ca1),(.slice a2 (tot (zT k)) ca2)]))] (zz (zb 2 [(14,(.slice a2 (tot (zT k)) ca2)),(13,(.slice a1 (zT k) ca1))] (za (zt (zh6 _ hma1 hFz1_1 (by first | omega | decide) (by first | omega | decide)) ?_))))
 rintro _ w4 ⟨a3a,a3c,a3b,a3d,a3e,a3p,a3q,a3r,a3s,rfl,hFz2_0,hFz2_1,hFz2_2,hFz2_3,hEw4⟩
 have hzw4:=hEw4.size
 have hma3:=hFz2_1.ms;have hlea3:=hma3.le;have hla3:=hFz2_2.lt;have hna3:=hFz2_3.es;have hle2a3:=hna3.le
 have hba3:Es Value.bool a3b (a3b+1) w4 (pA a3b 0) (zT k) (zT k) (fls (zT k)):=Es.of_blk hFz2_2 rfl (by simp [fls]) (Nat.le_refl _) (by simp only [maxLen];omega) (Nat.le_refl _) (Nat.lt_succ_self _)
 refine zal ([(.slice a3a (zT k) a3c),(.slice (pA a3b 0) (zT k) (zT k)),(.slice a3d (tot (zT k)) a3e)]) 34 rfl (by simp [Value.oneCell']) ?_
 intro w5 hBw5 hEw5 hzw5 hlw5
 refine zM (zb 1 [(6,(vI 0))] (wEt (zp ?_)))
 refine zU (X:=Nat×List Rec×List Bool×List Nat×Option Addr×Nat×Option Addr×Nat×Option Addr×Nat) (fun ⟨i,L,cc,S,au1,cu1,au2,cu2,au3,cu3⟩=> [(6,(vI i))]) [16,17,18,19,20,21,22,23,24,25,26,27,28,29,30,31,32,33,34,35,36,37,38,39,40,41,42,43,44,45,46,47,48,49,50,51,52,53,54,55,56,57,58,59,60,61] (fun ⟨i,L,cc,S,au1,cu1,au2,cu2,au3,cu3⟩ w6=>i≤n_q∧OkW L cc S∧L.length=zT k∧(∃lo hi,Ms zL 35 lo hi w6 au1 (zT k) cu1 L∧w.heap.size≤lo∧¬(lo≤w4.heap.size∧w4.heap.size<hi)∧¬(lo≤w1.heap.size∧w1.heap.size<hi))∧(∃lo hi,Es Value.bool lo hi w6 au2 (zT k) cu2 cc∧w.heap.size≤lo∧¬(lo≤w4.heap.size∧w4.heap.size<hi)∧¬(lo≤w1.heap.size∧w1.heap.size<hi))∧(∃lo hi,Es (nv .i64) lo hi w6 au3 (tot (zT k)) cu3 S∧w.heap.size≤lo∧¬(lo≤w4.heap.size∧w4.heap.size<hi)∧¬(lo≤w1.heap.size∧w1.heap.size<hi))∧Blk w6 w4.heap.size ([(.slice au1 (zT k) cu1),(.slice au2 (zT k) cu2),(.slice au3 (tot (zT k)) cu3)]) 34∧Chg (fun k=>k=w4.heap.size) w5 w6) (fun ⟨i,L,cc,S,au1,cu1,au2,cu2,au3,cu3⟩=>n_q-i) (0,zf1 p (zT k),fls (zT k),zfG s (tot (zT k)),a3a,a3c,(pA a3b 0),(zT k),a3d,a3e) (by kernel_rfl) ⟨Nat.zero_le _,zpk,zfw _ _,⟨a3p,a3q,(hma3.ext hEw5),by omega,by omega,by omega⟩,⟨a3b,(a3b+1),(hba3.ext hEw5),by omega,by omega,by omega⟩,⟨a3r,a3s,(hna3.ext hEw5),by omega,by omega,by omega⟩,hBw5,Chg.refl _ _⟩ ?_
 rintro ⟨i,L,cc,S,au1,cu1,au2,cu2,au3,cu3⟩ dw6 w6 ⟨hi,hOK,hLL,⟨lo1,hi1,hM1,hn1,hn1x,hn1xx⟩,⟨lo2,hi2,hM2,hn2,hn2x,hn2xx⟩,⟨lo3,hi3,hM3,hn3,hn3x,hn3xx⟩,hBU,hEl⟩
 have hzl:=hEl.size;have hl5:=hBU.lt
 have hlM:=hM1.len_eq;have hleM:=hM1.le;have hleM2:=hM2.le;have hleM3:=hM3.le;have hlM2:=hM2.len_eq;have hlM3:=hM3.len_eq
 have hx1:=(q.getD i (0,0)).1.toNat_lt;have hx2:=(q.getD i (0,0)).2.toNat_lt
 refine zd (wsr (zb 2 [(17,(vP w.heap.size 3)),(16,(vI i))] ?_))
 have hK1:=(((((hBw1.ext hEw2).ext hEw3).ext hEw4).ext hEw5).chg hEl)
 refine za (zm w.heap.size 3 (hK1.cell rfl) ?_)
 refine zb 1 [(19,(vI n_q))] (za (zag 20 i n_q (fun hc20=> ?_) (fun hc20=> ?_)))
 ·refine zb 2 [(22,(vI i)),(21,vT)] (za (zag 23 i 20 (fun hc23=> ?_) (fun hc23=> ?_)))
  ·refine zb 1 [(24,vT)] (wEt (zk (zl (zc (zd (zp (wsr ?_)))))))
   refine zb 1 [(27,(vP w.heap.size 3))] (za (zm w.heap.size 3 (hK1.cell rfl) ?_))
   refine zb 1 [(29,(vI i))] ?_
   obtain ⟨b1,o1,rfl⟩:=h_q.addr (by omega) (by decide)
   refine za (zan b1 o1 n_q c_q i 2 ?_)
   refine za (zaW b1 (o1+i*2) 0 2 1 ?_)
   have hX1:=((hEw1.trans hEw2).trans hEw3).trans hEw4
   have hK2:=(((h_q.ext hX1).ext hEw5).chg hEl)
   refine za (zm b1 (o1+i*2) (hK2.cell (j:=0) (0,0) (by omega) rfl) ?_)
   refine za (zuT 33 ((q.getD i (0,0)).1.toNat) 250 (fun hc33=> ?_) (fun hc33=> ?_))
   ·refine wEt (zk (zg (za (zV w4.heap.size 0 (hBU.all) ?_))))
    refine za (zt (ztH _ hM1 hM2 hM3 (by first | omega | decide) (by first | omega | decide) (by first | omega | decide) (by first | omega | decide) (hOK.m.sl)) ?_)
    rintro _ w7 ⟨a4,ca4,a5,ca5,a6,ca6,rfl,hFz3_0,hFz3_1,hFz3_2,hEw7⟩
    have hzw7:=hEw7.size
    have hlea4:=hFz3_0.le
    have hlea5:=hFz3_1.le
    have hlea6:=hFz3_2.le
    refine za (zC 34 w4.heap.size 0 34 (vA [(.slice a4 (zT k) ca4),(.slice a5 (zT k) ca5),(.slice a6 (tot (zT k)) ca6)]) ([(.slice au1 (zT k) cu1),(.slice au2 (zT k) cu2),(.slice au3 (tot (zT k)) cu3)]) ([(.slice a4 (zT k) ca4),(.slice a5 (zT k) ca5),(.slice a6 (tot (zT k)) ca6)]) (hBU.ext hEw7) (by kernel_rfl) (by first | decide |(simp;done)|(simp;omega)) (by simp [Value.oneCell']) ?_)
    intro w8 hBw8 hCw8
    have hzw8:=hCw8.size
    rw [zv _ _ (by kernel_rfl)] at hBw8
    refine zq (zi (zc (zg (zb 1 [(25,(vI i))] (za (zJ 26 i 1 (i+1) ?_))))))
    refine zb 1 [(6,(vI (i+1)))] (zq (zn (zG (i+1,L,fls (zT k),zdi (zT k) cc S,a4,ca4,a5,ca5,a6,ca6) ?_ ?_)))
    ·exact ⟨by omega,by have hz:=hOK.pubW;rw [hLL] at hz;exact hz,hLL,⟨w6.heap.size,w7.heap.size,(hFz3_0.chg hCw8),by omega,by omega,by omega⟩,⟨w6.heap.size,w7.heap.size,(hFz3_1.chg hCw8),by omega,by omega,by omega⟩,⟨w6.heap.size,w7.heap.size,(hFz3_2.chg hCw8),by omega,by omega,by omega⟩,hBw8,(Chg.then ((Chg.then (Chg.refl (fun k=>k=w4.heap.size) w5) hEl (fun k hk hs=>by have h:k=_:=hs;first | exact hs | exact .inl h | exact .inr h |(exfalso;omega))).trans hEw7.chg) hCw8 (fun k hk hs=>by have h:k=_:=hs;first | exact hs | exact .inl h | exact .inr h |(exfalso;omega)))⟩
    ·first | omega |(dsimp only;omega)
   ·refine wEt (zf (zY 27 (fun w9 hEw9 hzw9 hT174=> ?_)))
    refine zbj hT174 0 w4.heap.size 0 (fun w' hC=>(((hBU.ext hEw9).ext hC).all)) (ze hT174 [(1,37,(vP w.heap.size 3))] 1 (zx hT174 2 w.heap.size 3 (fun w' hC=>(((hK1.ext hEw9).ext hC).cell rfl)) (ze hT174 [(3,39,(vI i))] 1 (zaD hT174 4 b1 o1 n_q c_q i 2 (zaP hT174 5 b1 (o1+i*2) 0 2 1 (zx hT174 6 b1 (o1+i*2) (fun w' hC=>(((hK2.ext hEw9).ext hC).cell (j:=0) (0,0) (by omega) rfl)) (zr hT174 7 (vI ((q.getD i (0,0)).1.toNat)) (zac .i64 (IntKind.i64.wrap (((q.getD i (0,0)).1.toNat:Nat):Int)) (zao rfl)) (ze hT174 [(8,44,(.slice a1 (zT k) ca1)),(9,45,(vI (zT k)))] 2 ?_))))))))
    have hbi:(q.getD i (0,0)).1.toNat%zT k<zT k:=Nat.mod_lt _ (by omega)
    have hst2:=hOK.st2 (b:=(q.getD i (0,0)).1.toNat%zT k) (by rw [hLL];exact hbi)
    refine zr hT174 10 (vI (((q.getD i (0,0)).1.toNat)%(zT k))) (zai (bo .rem 3 (.tmp 43) (.tmp 45) (vI ((q.getD i (0,0)).1.toNat)) (vI (zT k))) (fun w' hC=>zm8 (by omega))) (ze hT174 [(11,47,(vP w.heap.size 3))] 1 (zx hT174 12 w.heap.size 3 (fun w' hC=>(((hK1.ext hEw9).ext hC).cell rfl)) (ze hT174 [(13,49,(vI i))] 1 (zaD hT174 14 b1 o1 n_q c_q i 2 (zaP hT174 15 b1 (o1+i*2) 1 2 1 (zx hT174 16 b1 (o1+i*2+1) (fun w' hC=>(((hK2.ext hEw9).ext hC).cell (j:=1) (0,0) (by omega) rfl)) (ze hT174 [(18,54,(vP w.heap.size 3))] 1 (zx hT174 19 w.heap.size 3 (fun w' hC=>(((hK1.ext hEw9).ext hC).cell rfl)) (ze hT174 [(20,56,(vI i))] 1 ?_)))))))))
    refine zaD hT174 21 b1 o1 n_q c_q i 2 (zaP hT174 22 b1 (o1+i*2) 1 2 1 (zx hT174 23 b1 (o1+i*2+1) (fun w' hC=>(((hK2.ext hEw9).ext hC).cell (j:=1) (0,0) (by omega) rfl)) (zy 17 (zt (zdB ((q.getD i (0,0)).2.toNat) _ (by first | omega | decide | exact UInt8.toNat_lt _)) ?_))))
    rintro _ w10 ⟨rfl,hEw10⟩
    have hzw10:=hEw10.size
    refine ⟨.inr hEw10, ?_⟩
    refine zy 24 (zt (zk4 ((q.getD i (0,0)).2.toNat) _ (by omega)) ?_)
    rintro _ w11 ⟨rfl,hEw11⟩
    have hzw11:=hEw11.size
    have hX2:Ext w9 w11:=(hEw10.trans hEw11)
    refine ⟨.inr hX2, ?_⟩
    have hK3:=(((hM1.ext hEw9).ext hEw10).ext hEw11)
    have hK4:=(((hM2.ext hEw9).ext hEw10).ext hEw11)
    have hK5:=(((hM3.ext hEw9).ext hEw10).ext hEw11)
    refine zy 25 (zt (zsK (((q.getD i (0,0)).1.toNat)%(zT k)) (zb3 ((q.getD i (0,0)).2.toNat)) (mkD ((q.getD i (0,0)).2.toNat)) _ hK3 hK4 hK5 (by omega) (by omega) (hst2) (by omega) (by omega)) ?_)
    rintro _ w12 ⟨a7,ca7,a8,ca8,a9,ca9,rfl,hFz6_0,hFz6_1,hFz6_2,hEw12⟩
    have hzw12:=hEw12.size
    have hlea7:=hFz6_0.le
    have hlea8:=hFz6_1.le
    have hlea9:=hFz6_2.le
    have hX3:Ext w9 w12:=((hEw10.trans hEw11).trans hEw12)
    refine ⟨.inr hX3, ?_⟩
    have hK6:=((((hBU.ext hEw9).ext hEw10).ext hEw11).ext hEw12)
    refine zy 26 (zC 34 w4.heap.size 0 34 (vA [(.slice a7 (zT k) ca7),(.slice a8 (zT k) ca8),(.slice a9 (tot (zT k)) ca9)]) ([(.slice au1 (zT k) cu1),(.slice au2 (zT k) cu2),(.slice au3 (tot (zT k)) cu3)]) ([(.slice a7 (zT k) ca7),(.slice a8 (zT k) ca8),(.slice a9 (tot (zT k)) ca9)]) hK6 (by kernel_rfl) (by first | decide |(simp;done)|(simp;omega)) (by simp [Value.oneCell']) ?_)
    have hK7:=((((hBU.ext hEw9).ext hEw10).ext hEw11).ext hEw12)
    intro w13 hBw13 hCw13
    have hzw13:=hCw13.size
    rw [zv _ _ (by kernel_rfl)] at hBw13
    refine ⟨.inl (by kernel_rfl), ?_⟩
    refine zB (zi (zc (zg (zb 1 [(25,(vI i))] (za (zJ 26 i 1 (i+1) ?_))))))
    refine zb 1 [(6,(vI (i+1)))] (zq (zn (zG (i+1,L.set (((q.getD i (0,0)).1.toNat)%(zT k)) (zaU L cc (((q.getD i (0,0)).1.toNat)%(zT k)) (zb3 ((q.getD i (0,0)).2.toNat)) (mkD ((q.getD i (0,0)).2.toNat))),cc.set (((q.getD i (0,0)).1.toNat)%(zT k)) true,S,a7,ca7,a8,ca8,a9,ca9) ?_ ?_)))
    ·exact ⟨by omega,hOK.set (by rw [hLL];omega),by rw [List.length_set];exact hLL,⟨w11.heap.size,w12.heap.size,(hFz6_0.chg hCw13),by omega,by omega,by omega⟩,⟨w11.heap.size,w12.heap.size,(hFz6_1.chg hCw13),by omega,by omega,by omega⟩,⟨w11.heap.size,w12.heap.size,(hFz6_2.chg hCw13),by omega,by omega,by omega⟩,hBw13,(Chg.then (((((Chg.then (Chg.refl (fun k=>k=w4.heap.size) w5) hEl (fun k hk hs=>by have h:k=_:=hs;first | exact hs | exact .inl h | exact .inr h |(exfalso;omega))).trans hEw9.chg).trans hEw10.chg).trans hEw11.chg).trans hEw12.chg) hCw13 (fun k hk hs=>by have h:k=_:=hs;first | exact hs | exact .inl h | exact .inr h |(exfalso;omega)))⟩
    ·first | omega |(dsimp only;omega)
  ·refine zb 1 [(24,vF)] (wEt (zf (zP (zo (zo (zD (zc (zd ?_))))))))
   refine zg (za (zV w4.heap.size 0 (hBU.all) ?_))
   have hK8:=((((hBw2.ext hEw3).ext hEw4).ext hEw5).chg hEl)
   refine za (zC 34 w1.heap.size 0 34 (vA [(.slice au1 (zT k) cu1),(.slice au2 (zT k) cu2),(.slice au3 (tot (zT k)) cu3)]) ([(.slice none 0 0),(.slice none 0 0),(.slice none 0 0)]) ([(.slice au1 (zT k) cu1),(.slice au2 (zT k) cu2),(.slice au3 (tot (zT k)) cu3)]) hK8 (by kernel_rfl) (by first | decide |(simp;done)|(simp;omega)) (by simp [Value.oneCell']) ?_)
   have hK9:=((((hBw2.ext hEw3).ext hEw4).ext hEw5).chg hEl)
   intro w14 hBw14 hCw14
   have hzw14:=hCw14.size
   rw [zv _ _ (by kernel_rfl)] at hBw14
   refine zF (zaR (show zO Tryz.prog 63 _ _ (.cell 2 34) (vA [(.slice au1 (zT k) cu1),(.slice au2 (zT k) cu2),(.slice au3 (tot (zT k)) cu3)]) from ⟨⟨w1.heap.size,0,none⟩,(by kernel_rfl),zE (T:=34) (vs:= [(.slice au1 (zT k) cu1),(.slice au2 (zT k) cu2),(.slice au3 (tot (zT k)) cu3)]) (hBw14).all (by kernel_rfl)⟩) ?_)
   have hX4:Ext w w14:=(Ext.own (Ext.own ((((hEw1.trans hEw2).trans hEw3).trans hEw4).trans hEw5) hEl (by omega)) hCw14 (by omega))
   exact ⟨L,cc,S,_,_,_,_,_,_,rfl,hOK,hLL,((hM1.chg hCw14)).now.mono (by omega) (Nat.le_refl _),((hM2.chg hCw14)).now.mono (by omega) (Nat.le_refl _),((hM3.chg hCw14)).now.mono (by omega) (Nat.le_refl _),hX4⟩
 ·refine zb 4 [(24,vF),(23,undef),(22,undef),(21,vF)] (wEt (zf (zP (zo (zo (zD (zc (zd ?_))))))))
  refine zg (za (zV w4.heap.size 0 (hBU.all) ?_))
  have hK10:=((((hBw2.ext hEw3).ext hEw4).ext hEw5).chg hEl)
  refine za (zC 34 w1.heap.size 0 34 (vA [(.slice au1 (zT k) cu1),(.slice au2 (zT k) cu2),(.slice au3 (tot (zT k)) cu3)]) ([(.slice none 0 0),(.slice none 0 0),(.slice none 0 0)]) ([(.slice au1 (zT k) cu1),(.slice au2 (zT k) cu2),(.slice au3 (tot (zT k)) cu3)]) hK10 (by kernel_rfl) (by first | decide |(simp;done)|(simp;omega)) (by simp [Value.oneCell']) ?_)
  have hK11:=((((hBw2.ext hEw3).ext hEw4).ext hEw5).chg hEl)
  intro w15 hBw15 hCw15
  have hzw15:=hCw15.size
  rw [zv _ _ (by kernel_rfl)] at hBw15
  refine zF (zaR (show zO Tryz.prog 63 _ _ (.cell 2 34) (vA [(.slice au1 (zT k) cu1),(.slice au2 (zT k) cu2),(.slice au3 (tot (zT k)) cu3)]) from ⟨⟨w1.heap.size,0,none⟩,(by kernel_rfl),zE (T:=34) (vs:= [(.slice au1 (zT k) cu1),(.slice au2 (zT k) cu2),(.slice au3 (tot (zT k)) cu3)]) (hBw15).all (by kernel_rfl)⟩) ?_)
  have hX5:Ext w w15:=(Ext.own (Ext.own ((((hEw1.trans hEw2).trans hEw3).trans hEw4).trans hEw5) hEl (by omega)) hCw15 (by omega))
  exact ⟨L,cc,S,_,_,_,_,_,_,rfl,hOK,hLL,((hM1.chg hCw15)).now.mono (by omega) (Nat.le_refl _),((hM2.chg hCw15)).now.mono (by omega) (Nat.le_refl _),((hM3.chg hCw15)).now.mono (by omega) (Nat.le_refl _),hX5⟩
end Go.Proofs.YtkmhgepdhilllaaGreatDoor
namespace Go.Proofs.YtkmhgepdhilllaaGreatDoor
open Go Go.RowKit Go.Cs
set_option maxRecDepth 100000
set_option maxHeartbeats 4000000 in
theorem zgM (w:World) (hg0:Gl 0 [vI 45,vI 33] w) (hg1:Gl 1 (w8C zaV) w) (hg2:Gl 3 (zas kA) w) (hg3:Gl 2 [.iface 227 (.agg #[.pointer (some ⟨4,160,none⟩)])] w):
  Calls Tryz.prog 24 #[] w (Ret fun r w'=>r=vT∧Ext w w'):=by
 refine zw (n:=177) (σ:= []) Tryz.func24 rfl ?_
 have hgl0:=hg0.lt
 have hgl1:=hg1.lt
 have hgl2:=hg2.lt
 have hgl3:=hg3.lt
 have ht5:tot 5=3:=by decide
 have hw1:=zxj;have hw2:=zxI
 refine wsr (zb 1 [(0,vF)] (zz (za (zt (zk4 3 _ (by first | omega | decide)) ?_))))
 rintro _ w1 ⟨rfl,hEw1⟩
 have hzw1:=hEw1.size
 refine za (zt (zk4 4 _ (by first | omega | decide)) ?_)
 rintro _ w2 ⟨rfl,hEw2⟩
 have hzw2:=hEw2.size
 refine za (zad (zK Dig.zero) 59 ?_)
 intro w3 hBw3 hEw3 hzw3 hlw3
 refine za (zad (zK Dig.zero) 59 ?_)
 intro w4 hBw4 hEw4 hzw4 hlw4
 refine za (zC 59 w2.heap.size 0 59 (vA (zK (mkD 3))) (zK Dig.zero) (zK (mkD 3)) (hBw3.ext hEw4) (by rw [zar];kernel_rfl) (by first |(simp;done)|(simp;omega)) (zbK _) ?_)
 intro w5 hBw5 hCw5
 have hzw5:=hCw5.size
 rw [zv _ _ (by simp)] at hBw5
 refine za (zC 59 w3.heap.size 0 59 (vA (zK (mkD 4))) (zK Dig.zero) (zK (mkD 4)) (hBw4.chg hCw5) (by rw [zar];kernel_rfl) (by first |(simp;done)|(simp;omega)) (zbK _) ?_)
 intro w6 hBw6 hCw6
 have hzw6:=hCw6.size
 rw [zv _ _ (by simp)] at hBw6
 refine zz (za (zb8 (some 22) 28 68 35 56 5 5 .i64 .i64 (vA (zL Rec.zero)) (by omega) (by omega) (by omega) ?_))
 rw [zdt (f:=zL) (x:=Rec.zero) rfl (zab _) (by decide)]
 intro w7 hBw7 hEw7
 have hzw7:=hEw7.size;have hlw7:=hBw7.lt
 have hmw7:Ms zL 35 w6.heap.size (w6.heap.size+1) w7 (pA w6.heap.size 0) 5 5 (List.replicate 5 Rec.zero):=Ms.of_pre (r:= []) (by rw [List.append_nil];exact hBw7) zab (by simp) (Nat.le_refl _) (by simp only [maxLen];omega) (Nat.le_refl _) (Nat.lt_succ_self _)
 refine za (zS (Instr.buildSlice 29 3 #[(0,(vI 1)),(1,(vI 1)),(2,(vI 0))]) (.slice (pA w7.heap.size 0) 3 3) [(vI 1),(vI 1),(vI 0)] 3 ?_)
 intro w8 hBw8 hEw8 hzw8 hlw8
 have hSw8:Es (nv .i64) w7.heap.size (w7.heap.size+1) w8 (pA w7.heap.size 0) 3 3 ([1,1,0]):=Es.of_blk hBw8 rfl rfl (Nat.le_refl _) (by decide) (Nat.le_refl _) (Nat.lt_succ_self _)
 have hX1:=((hEw1.trans hEw2).trans hEw3).trans hEw4
 have hK1:=(((((hg0.ext hX1).chg hCw5).chg hCw6).ext hEw7).ext hEw8)
 have hK2:=(((((hg1.ext hX1).chg hCw5).chg hCw6).ext hEw7).ext hEw8)
 have hK3:=(((((hg2.ext hX1).chg hCw5).chg hCw6).ext hEw7).ext hEw8)
 refine za (zt (zsz 5 _ (hmw7.ext hEw8) hSw8 (wM0) (by first | omega | decide) hK1 hK2 hK3) ?_)
 rintro _ w9 ⟨a1,rfl,hFz3_0,hEw9⟩
 have hzw9:=hEw9.size
 have hma1:=hFz3_0.ms;have hlea1:=hma1.le
 refine zb 3 [(26,(vI 0)),(25,(vA [(vI 5),(.slice a1 (tot 5) (tot 5))])),(21,(.tuple #[(vA [(vI 5),(.slice a1 (tot 5) (tot 5))]),(vI 0)]))] (zal ([(vI 5),(.slice a1 (tot 5) (tot 5))]) 44 rfl (by simp [Value.oneCell']) ?_)
 intro w10 hBw10 hEw10 hzw10 hlw10
 refine zb 1 [(4,(vI 0))] (zz (za (zV w9.heap.size 0 (hBw10.all) ?_)))
 refine za (zS (Instr.buildSlice 29 3 #[(0,(vI 1)),(1,(vI 1)),(2,(vI 0))]) (.slice (pA w10.heap.size 0) 3 3) [(vI 1),(vI 1),(vI 0)] 3 ?_)
 intro w11 hBw11 hEw11 hzw11 hlw11
 have hSw11:Es (nv .i64) w10.heap.size (w10.heap.size+1) w11 (pA w10.heap.size 0) 3 3 ([1,1,0]):=Es.of_blk hBw11 rfl rfl (Nat.le_refl _) (by decide) (Nat.le_refl _) (Nat.lt_succ_self _)
 have hI1:=(hSw11).ints
 have hK4:=(((hK1.ext hEw9).ext hEw10).ext hEw11)
 have hK5:=(((hK2.ext hEw9).ext hEw10).ext hEw11)
 have hK6:=(((hK3.ext hEw9).ext hEw10).ext hEw11)
 have hK7:=((((((((hg3.ext hX1).chg hCw5).chg hCw6).ext hEw7).ext hEw8).ext hEw9).ext hEw10).ext hEw11)
 refine za (zt (zv6 5 _ ((hma1.ext hEw10).ext hEw11) hI1 (by first | omega | decide) (by first | omega | decide) (by first | omega | decide) (zga wM0) (by first | omega | decide) (znN.1 (by decide)) (by rw [show ofT (tot 5) (zap (List.replicate 5 Rec.zero) ([1,1,0])) (([1,1,0]:List Nat).map fun (x:Nat)=>(x:Int))=wT0 from wOf];exact zvq (n:=5) wO0 rfl) hK4 hK5 hK6 hK7) ?_)
 rintro _ w12 ⟨a2,rfl,hFz4_0,hEw12⟩
 have hzw12:=hEw12.size
 have hlea2:=hFz4_0.le
 rw [show (ofT (tot 5) (zap (List.replicate 5 Rec.zero) ([1,1,0])) (([1,1,0]).map fun (x:Nat)=>(x:Int)))=wT0 from wOf] at hFz4_0
 refine zb 3 [(32,(vI 0)),(31,(vA [(vI 5),(.slice a2 (tot 5) (tot 5))])),(27,(.tuple #[(vA [(vI 5),(.slice a2 (tot 5) (tot 5))]),(vI 0)]))] (zal ([(vI 5),(.slice a2 (tot 5) (tot 5))]) 38 rfl (by simp [Value.oneCell']) ?_)
 intro w13 hBw13 hEw13 hzw13 hlw13
 refine zb 1 [(6,(vI 0))] (zz (za (zV w12.heap.size 0 (hBw13.all) ?_)))
 refine za (zt (zmm 5 4 _ (hFz4_0.ext hEw13) (by first | omega | decide) (by first | omega | decide) (by first | omega | decide) (zff wO0) (zei (n:=5) wO0 rfl) (by first | omega | decide) ((hK4.ext hEw12).ext hEw13) ((hK5.ext hEw12).ext hEw13) ((hK6.ext hEw12).ext hEw13)) ?_)
 rintro _ w14 ⟨rfl,hEw14⟩
 have hzw14:=hEw14.size
 rw [show zbx (wT0.getD (4/4) Un.zero) (4%4)=0 from wG0]
 refine zb 5 [(8,(vI 0)),(7,(vI 0)),(37,(vI 0)),(36,(vI 0)),(33,(.tuple #[(vI 0),(vI 0)]))] (wEt (zeU (X:=Nat×Option Addr) (fun ⟨bj9,aj9⟩=> [(9,(vP bj9 0)),(10,(vI 0)),(11,(vI 0))]) [38,39,40,41,42,43,44,45] (fun ⟨bj9,aj9⟩ w15=>Blk w15 bj9 ([(vI 5),(.slice aj9 (tot 5) (tot 5))]) 38∧Ms unC 280 w14.heap.size w15.heap.size w15 aj9 (tot 5) (tot 5) wT1∧w14.heap.size≤bj9∧Ext w14 w15) ?_ ?_))
 ·refine zY 12 (fun w16 hEw16 hzw16 hT94=> ?_)
  refine zbj hT94 0 w12.heap.size 0 (fun w' hC=>((((hBw13.ext hEw14).ext hEw16).ext hC).all)) ?_
  have hX2:=((hEw9.trans hEw10).trans hEw11).trans hEw12
  have hK8:=(((((((hBw5.chg hCw6).ext hEw7).ext hEw8).ext hX2).ext hEw13).ext hEw14).ext hEw16)
  refine zaq hT94 2 w2.heap.size 0 (fun w' hC=>((hK8.ext hC).all)) (zar _) (zbB 1 8 ?_ ?_)
  ·refine zt (zdB 3 _ (by first | omega | decide | exact UInt8.toNat_lt _)) ?_
   rintro _ w17 ⟨rfl,hEw17⟩
   have hzw17:=hEw17.size
   refine ⟨.inr hEw17, ?_⟩
   refine zbB 3 8 ?_ ?_
   ·have hX3:=((hEw13.trans hEw14).trans hEw16).trans hEw17
    refine zt (zgt 5 4 (zb3 3) (mkD 3) _ (hFz4_0.ext hX3) (by first | omega | decide) (by first | omega | decide) (by first | omega | decide) (zff wO0) (zei (n:=5) wO0 rfl) (by first | omega | decide) ((hK4.ext hEw12).ext hX3) ((hK5.ext hEw12).ext hX3) ((hK6.ext hEw12).ext hX3)) ?_
    rintro _ w18 ⟨a3,rfl,hFz7_0,hEw18⟩
    have hzw18:=hEw18.size
    have hlea3:=hFz7_0.le
    rw [show zfC 5 wT0 4 (zb3 3) (mkD 3)=wT1 from wE0] at hFz7_0
    rw [show (zbx (wT0.getD (4/4) Un.zero) (4%4))=0 from wG0]
    have hX4:Ext w16 w18:=(hEw17.trans hEw18)
    refine ⟨.inr hX4, ?_⟩
    refine ze (hw:=hX4) hT94 [(4,38,(.tuple #[(vA [(vI 5),(.slice a3 (tot 5) (tot 5))]),(vI 0),(vI 0)])),(5,43,(vA [(vI 5),(.slice a3 (tot 5) (tot 5))])),(6,44,(vI 0)),(7,45,(vI 0))] 4 (zy 8 (zad ([(vI 0),(.slice none 0 0)]) 38 ?_))
    intro w19 hBw19 hEw19 hzw19 hlw19
    have hX5:Ext w16 w19:=((hEw17.trans hEw18).trans hEw19)
    refine ⟨.inr hX5, ?_⟩
    refine zy 9 (zC 38 w18.heap.size 0 38 (vA [(vI 5),(.slice a3 (tot 5) (tot 5))]) ([(vI 0),(.slice none 0 0)]) ([(vI 5),(.slice a3 (tot 5) (tot 5))]) hBw19 (by kernel_rfl) (by first | decide |(simp;done)|(simp;omega)) (by simp [Value.oneCell']) ?_)
    intro w20 hBw20 hCw20
    have hzw20:=hCw20.size
    rw [zv _ _ (by kernel_rfl)] at hBw20
    have hX6:Ext w16 w20:=(Ext.own ((hEw17.trans hEw18).trans hEw19) hCw20 (by omega))
    refine ⟨.inr hX6, ?_⟩
    exact ze (hw:=hX6) hT94 [(10,10,(vI 0)),(11,11,(vI 0))] 2 (zB (zn (zbI (w18.heap.size,a3) (⟨hBw20,(((hFz7_0.ext hEw19).chg hCw20)).now.mono (by omega) (Nat.le_refl _),by omega,(hEw16.trans hX6)⟩))))
   ·refine zad ([(vI 0),(.slice none 0 0)]) 38 ?_
    intro w21 hBw21 hEw21 hzw21 hlw21
    have hX7:Ext w16 w21:=(hEw17.trans hEw21)
    refine ⟨.inr hX7, ?_⟩
    have hX8:=((hEw13.trans hEw14).trans hEw16).trans hEw17
    have hK9:=(((hK4.ext hEw12).ext hX8).ext hEw21)
    have hK10:=(((hK5.ext hEw12).ext hX8).ext hEw21)
    have hK11:=(((hK6.ext hEw12).ext hX8).ext hEw21)
    refine zy 3 (zt (zgt 5 4 (zb3 3) (mkD 3) _ ((hFz4_0.ext hX8).ext hEw21) (by first | omega | decide) (by first | omega | decide) (by first | omega | decide) (zff wO0) (zei (n:=5) wO0 rfl) (by first | omega | decide) hK9 hK10 hK11) ?_)
    rintro _ w22 ⟨a4,rfl,hFz8_0,hEw22⟩
    have hzw22:=hEw22.size
    have hlea4:=hFz8_0.le
    rw [show zfC 5 wT0 4 (zb3 3) (mkD 3)=wT1 from wE0] at hFz8_0
    rw [show (zbx (wT0.getD (4/4) Un.zero) (4%4))=0 from wG0]
    have hX9:Ext w16 w22:=((hEw17.trans hEw21).trans hEw22)
    refine ⟨.inr hX9, ?_⟩
    refine ze (hw:=hX9) hT94 [(4,38,(.tuple #[(vA [(vI 5),(.slice a4 (tot 5) (tot 5))]),(vI 0),(vI 0)])),(5,43,(vA [(vI 5),(.slice a4 (tot 5) (tot 5))])),(6,44,(vI 0)),(7,45,(vI 0))] 4 (zy 9 (zC 38 w17.heap.size 0 38 (vA [(vI 5),(.slice a4 (tot 5) (tot 5))]) ([(vI 0),(.slice none 0 0)]) ([(vI 5),(.slice a4 (tot 5) (tot 5))]) (hBw21.ext hEw22) (by kernel_rfl) (by first | decide |(simp;done)|(simp;omega)) (by simp [Value.oneCell']) ?_))
    intro w23 hBw23 hCw23
    have hzw23:=hCw23.size
    rw [zv _ _ (by kernel_rfl)] at hBw23
    have hX10:Ext w16 w23:=(Ext.own ((hEw17.trans hEw21).trans hEw22) hCw23 (by omega))
    refine ⟨.inr hX10, ?_⟩
    exact ze (hw:=hX10) hT94 [(10,10,(vI 0)),(11,11,(vI 0))] 2 (zB (zn (zbI (w17.heap.size,a4) (⟨hBw23,((hFz8_0.chg hCw23)).now.mono (by omega) (Nat.le_refl _),by omega,(hEw16.trans hX10)⟩))))
  ·refine zad ([(vI 0),(.slice none 0 0)]) 38 ?_
   intro w24 hBw24 hEw24 hzw24 hlw24
   refine ⟨.inr hEw24, ?_⟩
   refine zy 1 (zt (zdB 3 _ (by first | omega | decide | exact UInt8.toNat_lt _)) ?_)
   rintro _ w25 ⟨rfl,hEw25⟩
   have hzw25:=hEw25.size
   have hX11:Ext w16 w25:=(hEw24.trans hEw25)
   refine ⟨.inr hX11, ?_⟩
   have hX12:=((hEw13.trans hEw14).trans hEw16).trans hEw24
   have hK12:=(((hK4.ext hEw12).ext hX12).ext hEw25)
   have hK13:=(((hK5.ext hEw12).ext hX12).ext hEw25)
   have hK14:=(((hK6.ext hEw12).ext hX12).ext hEw25)
   refine zy 3 (zt (zgt 5 4 (zb3 3) (mkD 3) _ ((hFz4_0.ext hX12).ext hEw25) (by first | omega | decide) (by first | omega | decide) (by first | omega | decide) (zff wO0) (zei (n:=5) wO0 rfl) (by first | omega | decide) hK12 hK13 hK14) ?_)
   rintro _ w26 ⟨a5,rfl,hFz10_0,hEw26⟩
   have hzw26:=hEw26.size
   have hlea5:=hFz10_0.le
   rw [show zfC 5 wT0 4 (zb3 3) (mkD 3)=wT1 from wE0] at hFz10_0
   rw [show (zbx (wT0.getD (4/4) Un.zero) (4%4))=0 from wG0]
   have hX13:Ext w16 w26:=((hEw24.trans hEw25).trans hEw26)
   refine ⟨.inr hX13, ?_⟩
   refine ze (hw:=hX13) hT94 [(4,38,(.tuple #[(vA [(vI 5),(.slice a5 (tot 5) (tot 5))]),(vI 0),(vI 0)])),(5,43,(vA [(vI 5),(.slice a5 (tot 5) (tot 5))])),(6,44,(vI 0)),(7,45,(vI 0))] 4 (zy 9 (zC 38 w16.heap.size 0 38 (vA [(vI 5),(.slice a5 (tot 5) (tot 5))]) ([(vI 0),(.slice none 0 0)]) ([(vI 5),(.slice a5 (tot 5) (tot 5))]) ((hBw24.ext hEw25).ext hEw26) (by kernel_rfl) (by first | decide |(simp;done)|(simp;omega)) (by simp [Value.oneCell']) ?_))
   intro w27 hBw27 hCw27
   have hzw27:=hCw27.size
   rw [zv _ _ (by kernel_rfl)] at hBw27
   have hX14:Ext w16 w27:=(Ext.own ((hEw24.trans hEw25).trans hEw26) hCw27 (by omega))
   refine ⟨.inr hX14, ?_⟩
   exact ze (hw:=hX14) hT94 [(10,10,(vI 0)),(11,11,(vI 0))] 2 (zB (zn (zbI (w16.heap.size,a5) (⟨hBw27,((hFz10_0.chg hCw27)).now.mono (by omega) (Nat.le_refl _),by omega,(hEw16.trans hX14)⟩))))
 rintro ⟨bj9,aj9⟩ dw15 w15 ⟨hJ9,hM9,hJs9,hEj9⟩
 have hzj9:=hEj9.size;have hJl9:=hJ9.lt;have hle9:=hM9.le
 refine wsr (za (zV bj9 0 (hJ9.all) ?_))
 have hK15:=((((hK4.ext hEw12).ext hEw13).ext hEw14).ext hEj9)
 have hK16:=((((hK5.ext hEw12).ext hEw13).ext hEw14).ext hEj9)
 have hK17:=((((hK6.ext hEw12).ext hEw13).ext hEw14).ext hEj9)
 refine za (zt (zpS 5 _ hM9 (by first | omega | decide) (by first | omega | decide) (by first | omega | decide) (zff wO1) (zei (n:=5) wO1 rfl) hK15 hK16 hK17) ?_)
 rintro _ w28 ⟨a6,rfl,hFz11_0,hEw28⟩
 have hzw28:=hEw28.size
 have hlea6:=hFz11_0.le
 rw [wD1,show List.length [(0,1),(1,0)]=2 from rfl] at hFz11_0
 rw [show zbu 5 wT1 (tot 5)= [(0,1),(1,0)] from wD1]
 rw [show List.length ([(0,1),(1,0)])=2 from rfl]
 refine zb 5 [(13,(vI 0)),(12,(.slice a6 2 2)),(50,(vI 0)),(49,(.slice a6 2 2)),(46,(.tuple #[(.slice a6 2 2),(vI 0)]))] (zz (za (zV bj9 0 ((hJ9.ext hEw28).all) ?_)))
 refine za (zt (zp6 5 4 _ (hM9.ext hEw28) (by first | omega | decide) (by first | omega | decide) (by first | omega | decide) (zff wO1) (zei (n:=5) wO1 rfl) (by first | omega | decide) (hK15.ext hEw28) (hK16.ext hEw28) (hK17.ext hEw28)) ?_)
 rintro _ w29 ⟨rfl,hEw29⟩
 have hzw29:=hEw29.size
 rw [show (wT1.getD (4/4) Un.zero).nd.rs.get (4%4)=wR1 from zwb]
 refine zb 3 [(55,(vI 0)),(54,(vA (zL (wR1)))),(51,(.tuple #[(vA (zL (wR1))),(vI 0)]))] (zal (zL (wR1)) 68 (zab _) (zbi _) ?_)
 intro w30 hBw30 hEw30 hzw30 hlw30
 refine zb 1 [(15,(vI 0))] (wEt (zd (zd (zY 52 (fun w31 hEw31 hzw31 hT223=> ?_)))))
 refine ze hT223 [(0,56,(vI 0)),(1,57,(vI 0))] 2 (zr hT223 2 (vI 0) (zac .i64 (IntKind.i64.wrap (((0:Nat):Int)+((0:Nat):Int))) (zao)) (ze hT223 [(3,59,(vI 0))] 1 (zr hT223 4 (vI 0) (zac .i64 (IntKind.i64.wrap (((0:Nat):Int)+((0:Nat):Int))) (zao)) (ze hT223 [(5,61,(vI 0))] 1 (zr hT223 6 (vI 0) (zac .i64 (IntKind.i64.wrap (((0:Nat):Int)+((0:Nat):Int))) (zao)) (ze hT223 [(7,63,(vI 0))] 1 (zr hT223 8 (vI 0) (zac .i64 (IntKind.i64.wrap (((0:Nat):Int)+((0:Nat):Int))) (zao)) (ze hT223 [(9,65,(vI 0))] 1 (zr hT223 10 (vI 0) (zac .i64 (IntKind.i64.wrap (((0:Nat):Int)+((0:Nat):Int))) (zao)) ?_)))))))))
 refine ze hT223 [(11,67,vF),(12,68,vF),(13,69,(vI 0))] 3 (zr hT223 14 vF (zaS (((0:Nat):Int) !=((0:Nat):Int)) (zcb)) (ze hT223 [(15,71,vF),(16,72,vF),(17,73,(vI 0))] 3 (zr hT223 18 vF (zaS (((0:Nat):Int) !=((0:Nat):Int)) (zcb)) (ze hT223 [(19,75,vF),(20,76,vF),(21,77,(.slice a6 2 2)),(22,78,(vI 2)),(23,79,vF),(24,80,vF),(25,81,vF),(26,82,(.slice a6 2 2))] 8 ?_))))
 obtain ⟨b1,o1,rfl⟩:=hFz11_0.addr (by omega) (by decide)
 refine zaD hT223 27 b1 o1 2 2 0 2 ?_
 have hK18:=(((hFz11_0.ext hEw29).ext hEw30).ext hEw31)
 refine zbj hT223 28 b1 (o1+0*2) (fun w' hC=>((hK18.ext hC).at (0,0) (by omega))) (ze hT223 [(29,85,(vA [(vI 0),(vI 1)]))] 1 (zr hT223 30 vF (zai (bo .neq 89 (.tmp 84) (.tmp 85) (vA [(vI ((([(0,1),(1,0)]).getD 0 (0,0)).1)),(vI ((([(0,1),(1,0)]).getD 0 (0,0)).2))]) (vA [(vI 0),(vI 1)])) (fun w' hC=>zaj (r:=true) (T:=89) ((ziG (dd:=9998) (t:=89) [(vI ((([(0,1),(1,0)]).getD 0 (0,0)).1)),(vI ((([(0,1),(1,0)]).getD 0 (0,0)).2))] [(vI 0),(vI 1)]).trans (congrArg (fun b=>Result.ok b _) (show (zmg [(vI ((([(0,1),(1,0)]).getD 0 (0,0)).1)),(vI ((([(0,1),(1,0)]).getD 0 (0,0)).2))] [(vI 0),(vI 1)])=true from rfl))))) (ze hT223 [(31,87,vF),(32,88,vF),(33,89,(.slice (pA b1 o1) 2 2))] 3 (zaD hT223 34 b1 o1 2 2 1 2 (zbj hT223 35 b1 (o1+1*2) (fun w' hC=>((hK18.ext hC).at (0,0) (by omega))) (ze hT223 [(36,92,(vA [(vI 1),(vI 0)]))] 1 (zr hT223 37 vF (zai (bo .neq 89 (.tmp 91) (.tmp 92) (vA [(vI ((([(0,1),(1,0)]).getD 1 (0,0)).1)),(vI ((([(0,1),(1,0)]).getD 1 (0,0)).2))]) (vA [(vI 1),(vI 0)])) (fun w' hC=>zaj (r:=true) (T:=89) ((ziG (dd:=9998) (t:=89) [(vI ((([(0,1),(1,0)]).getD 1 (0,0)).1)),(vI ((([(0,1),(1,0)]).getD 1 (0,0)).2))] [(vI 1),(vI 0)]).trans (congrArg (fun b=>Result.ok b _) (show (zmg [(vI ((([(0,1),(1,0)]).getD 1 (0,0)).1)),(vI ((([(0,1),(1,0)]).getD 1 (0,0)).2))] [(vI 1),(vI 0)])=true from rfl))))) (ze hT223 [(38,94,vF),(39,95,vF)] 2 ?_))))))))
 refine zaq hT223 40 w29.heap.size 0 (fun w' hC=>(((hBw30.ext hEw31).ext hC).all)) (zab _) ?_
 have hX15:=((hEw9.trans hEw10).trans hEw11).trans hEw12
 have hX16:=((hEw13.trans hEw14).trans hEj9).trans hEw28
 have hK19:=((((((((hBw5.chg hCw6).ext hEw7).ext hEw8).ext hX15).ext hX16).ext hEw29).ext hEw30).ext hEw31)
 refine zaq hT223 42 w2.heap.size 0 (fun w' hC=>((hK19.ext hC).all)) (zar _) (zy 41 (zt (zdB 3 _ (by first | omega | decide | exact UInt8.toNat_lt _)) ?_))
 rintro _ w32 ⟨rfl,hEw32⟩
 have hzw32:=hEw32.size
 refine ⟨.inr hEw32, ?_⟩
 refine zr (hw:=hEw32) hT223 43 (vA (zL wR1)) (zai (Instr.build 68 #[(0,(vB 1)),(1,(vA (zbb (zb3 3)))),(2,(vA (zK (mkD 3))))]) (fun w' hC=>(zeP 1 (zb3 3) (mkD 3) (by decide)).trans (congrArg (fun z:Rec=>Result.ok (Value.agg (zL z).toArray) _) (show (⟨1,(zb3 3),(mkD 3),by decide⟩:Rec)=wR1 from rfl)))) (zr (hw:=hEw32) hT223 44 vF (zai (bo .neq 68 (.tmp 96) (.tmp 99) (vA (zL (wR1))) (vA (zL wR1))) (fun w' hC=>zaj (r:=true) (T:=68) ((zcd (dd:=9997) (t:=68) (t8:=5) (tn:=56) (td:=59) (e:=5) (t32:=53) (t64:=54) (wR1) wR1).trans (congrArg (fun b=>Result.ok b _) (show ((wR1).eqb wR1)=true from (Rec.eqb_iff _ _).2 rfl))))) (ze (hw:=hEw32) hT223 [(45,101,vF),(46,102,vF),(47,103,(vP bj9 1))] 3 ?_))
 have hK20:=((((hJ9.ext hEw28).ext hEw29).ext hEw30).ext hEw31)
 refine zx (hw:=hEw32) hT223 48 bj9 1 (fun w' hC=>((hK20.ext hC).cell rfl)) (ze (hw:=hEw32) hT223 [(49,105,(vI (tot 5)))] 1 (zr (hw:=hEw32) hT223 50 vF (zaS ((((tot 5):Nat):Int) !=((3:Nat):Int)) (zcb)) (ze (hw:=hEw32) hT223 [(51,107,vF)] 1 (zB (zc (zf (zl (zc (zd ?_)))))))))
 refine zg (zb 1 [(108,(vA (zH (Nod.mt 0 1))))] (zal (zH (Nod.mt 0 1)) 74 (zN _) (zct _) ?_))
 intro w33 hBw33 hEw33 hzw33 hlw33
 refine zz ?_
 have hK21:=(((hBw30.ext hEw31).ext hEw32).ext hEw33)
 refine za (zQ w29.heap.size 0 (hK21.all) (zab _) ?_)
 refine zb 1 [(110,(vP w32.heap.size 2))] (za (zaW w32.heap.size 2 0 4 35 ?_))
 refine za (zC 68 w32.heap.size (2+0*35) 74 (vA (zL (wR1))) (zH (Nod.mt 0 1)) (zL (wR1)) hBw33 (by rw [zab];kernel_rfl) (by first |(simp;done)|(simp;omega)) (zbi _) ?_)
 intro w34 hBw34 hCw34
 have hzw34:=hCw34.size
 rw [show (zZ (zH (Nod.mt 0 1)) (2+0*35) (zL (wR1)):List Value)=zH ((Nod.mt 0 1).setR 0 (wR1)) from nod_setR (by omega)] at hBw34
 refine wEt (zd (zd (zY 11 (fun w35 hEw35 hzw35 hT294=> ?_))))
 refine ze hT294 [(0,112,(vP bj9 1))] 1 ?_
 have hK22:=((((hK20.ext hEw32).ext hEw33).chg hCw34).ext hEw35)
 refine zx hT294 1 bj9 1 (fun w' hC=>((hK22.ext hC).cell rfl)) ?_
 obtain ⟨b2,o2,rfl⟩:=hM9.addr (by omega) (by decide)
 refine zaD hT294 2 b2 o2 (tot 5) (tot 5) 2 280 (ze hT294 [(3,115,(vP b2 (o2+2*280))),(4,116,(vP b2 (o2+2*280+142)))] 2 (zaP hT294 5 b2 (o2+2*280+142) 1 4 33 ?_))
 have hX17:=((hEw29.trans hEw30).trans hEw31).trans hEw32
 have hK23:=(((((hM9.ext hEw28).ext hX17).ext hEw33).chg hCw34).ext hEw35)
 refine zaq hT294 6 b2 (o2+2*280+142+1*33) (fun w' hC=>(((hK23.ext hC).at Un.zero (by omega)).sub2 142 _ (zW ((wT1.getD 2 Un.zero).nd.es.get 1)) (zhK (by omega)))) (zat _) (zaq hT294 7 w32.heap.size 0 (fun w' hC=>(((hBw34.ext hEw35).ext hC).all)) (zN _) (zy 8 (zt (zeG ((Nod.mt 0 1).setR 0 (wR1)) _) ?_)))
 rintro _ w36 ⟨rfl,hEw36⟩
 have hzw36:=hEw36.size
 refine ⟨.inr hEw36, ?_⟩
 refine zr (hw:=hEw36) hT294 9 (vA (zW (⟨1,(zX (zR ((Nod.mt 0 1).setR 0 (wR1)))),by decide⟩))) (zai (Instr.build 71 #[(0,(vB 1)),(1,(vA (zK (zX (zR ((Nod.mt 0 1).setR 0 (wR1)))))))]) (fun w' hC=>zcf 1 (zX (zR ((Nod.mt 0 1).setR 0 (wR1)))) (by decide))) (zr (hw:=hEw36) hT294 10 vF (zai (bo .neq 71 (.tmp 118) (.tmp 121) (vA (zW ((wT1.getD 2 Un.zero).nd.es.get 1))) (vA (zW (⟨1,(zX (zR ((Nod.mt 0 1).setR 0 (wR1)))),by decide⟩)))) (fun w' hC=>zaj (r:=true) (T:=71) ((za2 (dd:=9997) (t:=71) (t8:=5) (td:=59) (e:=5) ((wT1.getD 2 Un.zero).nd.es.get 1) (⟨1,(zX (zR ((Nod.mt 0 1).setR 0 (wR1)))),by decide⟩)).trans (congrArg (fun b=>Result.ok b _) (show (((wT1.getD 2 Un.zero).nd.es.get 1).eqb (⟨1,(zX (zR ((Nod.mt 0 1).setR 0 (wR1)))),by decide⟩))=true from (Ent.eqb_iff _ _).2 zx2))))) (zB (zc (zf (zl (zc (zeU (X:=Nat×Option Addr) (fun ⟨bj17,aj17⟩=> [(4,(vI 0)),(10,(vI 0)),(17,(vP bj17 0))]) [123,124,125,126,127,128,129,130] (fun ⟨bj17,aj17⟩ w37=>Blk w37 bj17 ([(vI 5),(.slice aj17 (tot 5) (tot 5))]) 38∧Ms unC 280 w36.heap.size w37.heap.size w37 aj17 (tot 5) (tot 5) wT2∧w36.heap.size≤bj17∧Ext w36 w37) ?_ ?_)))))))
 ·refine zY 12 (fun w38 hEw38 hzw38 hT318=> ?_)
  refine zbj hT318 0 bj9 0 (fun w' hC=>((((hK22.ext hEw36).ext hEw38).ext hC).all)) ?_
  have hX18:=((Ext.own hEw33 hCw34 (by omega)).trans hEw35).trans hEw36
  have hK24:=(((((((hBw6.ext hEw7).ext hEw8).ext hX15).ext hX16).ext hX17).ext hX18).ext hEw38)
  refine zaq hT318 2 w3.heap.size 0 (fun w' hC=>((hK24.ext hC).all)) (zar _) (zbB 1 8 ?_ ?_)
  ·refine zt (zdB 4 _ (by first | omega | decide | exact UInt8.toNat_lt _)) ?_
   rintro _ w39 ⟨rfl,hEw39⟩
   have hzw39:=hEw39.size
   refine ⟨.inr hEw39, ?_⟩
   refine zbB 3 8 ?_ ?_
   ·have hK25:=(((hK23.ext hEw36).ext hEw38).ext hEw39)
    have hK26:=(((((hK15.ext hEw28).ext hX17).ext hX18).ext hEw38).ext hEw39)
    have hK27:=(((((hK16.ext hEw28).ext hX17).ext hX18).ext hEw38).ext hEw39)
    have hK28:=(((((hK17.ext hEw28).ext hX17).ext hX18).ext hEw38).ext hEw39)
    refine zt (zgt 5 4 (zb3 4) (mkD 4) _ hK25 (by first | omega | decide) (by first | omega | decide) (by first | omega | decide) (zff wO1) (zei (n:=5) wO1 rfl) (by first | omega | decide) hK26 hK27 hK28) ?_
    rintro _ w40 ⟨a7,rfl,hFz16_0,hEw40⟩
    have hzw40:=hEw40.size
    have hlea7:=hFz16_0.le
    rw [show zfC 5 wT1 4 (zb3 4) (mkD 4)=wT2 from wE1] at hFz16_0
    rw [show (zbx (wT1.getD (4/4) Un.zero) (4%4))=0 from wG1]
    have hX19:Ext w38 w40:=(hEw39.trans hEw40)
    refine ⟨.inr hX19, ?_⟩
    refine ze (hw:=hX19) hT318 [(4,123,(.tuple #[(vA [(vI 5),(.slice a7 (tot 5) (tot 5))]),(vI 0),(vI 0)])),(5,128,(vA [(vI 5),(.slice a7 (tot 5) (tot 5))])),(6,129,(vI 0)),(7,130,(vI 0))] 4 (zy 8 (zad ([(vI 0),(.slice none 0 0)]) 38 ?_))
    intro w41 hBw41 hEw41 hzw41 hlw41
    have hX20:Ext w38 w41:=((hEw39.trans hEw40).trans hEw41)
    refine ⟨.inr hX20, ?_⟩
    refine zy 9 (zC 38 w40.heap.size 0 38 (vA [(vI 5),(.slice a7 (tot 5) (tot 5))]) ([(vI 0),(.slice none 0 0)]) ([(vI 5),(.slice a7 (tot 5) (tot 5))]) hBw41 (by kernel_rfl) (by first | decide |(simp;done)|(simp;omega)) (by simp [Value.oneCell']) ?_)
    intro w42 hBw42 hCw42
    have hzw42:=hCw42.size
    rw [zv _ _ (by kernel_rfl)] at hBw42
    have hX21:Ext w38 w42:=(Ext.own ((hEw39.trans hEw40).trans hEw41) hCw42 (by omega))
    refine ⟨.inr hX21, ?_⟩
    exact ze (hw:=hX21) hT318 [(10,10,(vI 0)),(11,4,(vI 0))] 2 (zB (zn (zbI (w40.heap.size,a7) (⟨hBw42,(((hFz16_0.ext hEw41).chg hCw42)).now.mono (by omega) (Nat.le_refl _),by omega,(hEw38.trans hX21)⟩))))
   ·refine zad ([(vI 0),(.slice none 0 0)]) 38 ?_
    intro w43 hBw43 hEw43 hzw43 hlw43
    have hX22:Ext w38 w43:=(hEw39.trans hEw43)
    refine ⟨.inr hX22, ?_⟩
    have hK29:=((((hK23.ext hEw36).ext hEw38).ext hEw39).ext hEw43)
    have hK30:=((((((hK15.ext hEw28).ext hX17).ext hX18).ext hEw38).ext hEw39).ext hEw43)
    have hK31:=((((((hK16.ext hEw28).ext hX17).ext hX18).ext hEw38).ext hEw39).ext hEw43)
    have hK32:=((((((hK17.ext hEw28).ext hX17).ext hX18).ext hEw38).ext hEw39).ext hEw43)
    refine zy 3 (zt (zgt 5 4 (zb3 4) (mkD 4) _ hK29 (by first | omega | decide) (by first | omega | decide) (by first | omega | decide) (zff wO1) (zei (n:=5) wO1 rfl) (by first | omega | decide) hK30 hK31 hK32) ?_)
    rintro _ w44 ⟨a8,rfl,hFz17_0,hEw44⟩
    have hzw44:=hEw44.size
    have hlea8:=hFz17_0.le
    rw [show zfC 5 wT1 4 (zb3 4) (mkD 4)=wT2 from wE1] at hFz17_0
    rw [show (zbx (wT1.getD (4/4) Un.zero) (4%4))=0 from wG1]
    have hX23:Ext w38 w44:=((hEw39.trans hEw43).trans hEw44)
    refine ⟨.inr hX23, ?_⟩
    refine ze (hw:=hX23) hT318 [(4,123,(.tuple #[(vA [(vI 5),(.slice a8 (tot 5) (tot 5))]),(vI 0),(vI 0)])),(5,128,(vA [(vI 5),(.slice a8 (tot 5) (tot 5))])),(6,129,(vI 0)),(7,130,(vI 0))] 4 (zy 9 (zC 38 w39.heap.size 0 38 (vA [(vI 5),(.slice a8 (tot 5) (tot 5))]) ([(vI 0),(.slice none 0 0)]) ([(vI 5),(.slice a8 (tot 5) (tot 5))]) (hBw43.ext hEw44) (by kernel_rfl) (by first | decide |(simp;done)|(simp;omega)) (by simp [Value.oneCell']) ?_))
    intro w45 hBw45 hCw45
    have hzw45:=hCw45.size
    rw [zv _ _ (by kernel_rfl)] at hBw45
    have hX24:Ext w38 w45:=(Ext.own ((hEw39.trans hEw43).trans hEw44) hCw45 (by omega))
    refine ⟨.inr hX24, ?_⟩
    exact ze (hw:=hX24) hT318 [(10,10,(vI 0)),(11,4,(vI 0))] 2 (zB (zn (zbI (w39.heap.size,a8) (⟨hBw45,((hFz17_0.chg hCw45)).now.mono (by omega) (Nat.le_refl _),by omega,(hEw38.trans hX24)⟩))))
  ·refine zad ([(vI 0),(.slice none 0 0)]) 38 ?_
   intro w46 hBw46 hEw46 hzw46 hlw46
   refine ⟨.inr hEw46, ?_⟩
   refine zy 1 (zt (zdB 4 _ (by first | omega | decide | exact UInt8.toNat_lt _)) ?_)
   rintro _ w47 ⟨rfl,hEw47⟩
   have hzw47:=hEw47.size
   have hX25:Ext w38 w47:=(hEw46.trans hEw47)
   refine ⟨.inr hX25, ?_⟩
   have hK33:=((((hK23.ext hEw36).ext hEw38).ext hEw46).ext hEw47)
   have hK34:=((((((hK15.ext hEw28).ext hX17).ext hX18).ext hEw38).ext hEw46).ext hEw47)
   have hK35:=((((((hK16.ext hEw28).ext hX17).ext hX18).ext hEw38).ext hEw46).ext hEw47)
   have hK36:=((((((hK17.ext hEw28).ext hX17).ext hX18).ext hEw38).ext hEw46).ext hEw47)
   refine zy 3 (zt (zgt 5 4 (zb3 4) (mkD 4) _ hK33 (by first | omega | decide) (by first | omega | decide) (by first | omega | decide) (zff wO1) (zei (n:=5) wO1 rfl) (by first | omega | decide) hK34 hK35 hK36) ?_)
   rintro _ w48 ⟨a9,rfl,hFz19_0,hEw48⟩
   have hzw48:=hEw48.size
   have hlea9:=hFz19_0.le
   rw [show zfC 5 wT1 4 (zb3 4) (mkD 4)=wT2 from wE1] at hFz19_0
   rw [show (zbx (wT1.getD (4/4) Un.zero) (4%4))=0 from wG1]
   have hX26:Ext w38 w48:=((hEw46.trans hEw47).trans hEw48)
   refine ⟨.inr hX26, ?_⟩
   refine ze (hw:=hX26) hT318 [(4,123,(.tuple #[(vA [(vI 5),(.slice a9 (tot 5) (tot 5))]),(vI 0),(vI 0)])),(5,128,(vA [(vI 5),(.slice a9 (tot 5) (tot 5))])),(6,129,(vI 0)),(7,130,(vI 0))] 4 (zy 9 (zC 38 w38.heap.size 0 38 (vA [(vI 5),(.slice a9 (tot 5) (tot 5))]) ([(vI 0),(.slice none 0 0)]) ([(vI 5),(.slice a9 (tot 5) (tot 5))]) ((hBw46.ext hEw47).ext hEw48) (by kernel_rfl) (by first | decide |(simp;done)|(simp;omega)) (by simp [Value.oneCell']) ?_))
   intro w49 hBw49 hCw49
   have hzw49:=hCw49.size
   rw [zv _ _ (by kernel_rfl)] at hBw49
   have hX27:Ext w38 w49:=(Ext.own ((hEw46.trans hEw47).trans hEw48) hCw49 (by omega))
   refine ⟨.inr hX27, ?_⟩
   exact ze (hw:=hX27) hT318 [(10,10,(vI 0)),(11,4,(vI 0))] 2 (zB (zn (zbI (w38.heap.size,a9) (⟨hBw49,((hFz19_0.chg hCw49)).now.mono (by omega) (Nat.le_refl _),by omega,(hEw38.trans hX27)⟩))))
 rintro ⟨bj17,aj17⟩ dw37 w37 ⟨hJ17,hM17,hJs17,hEj17⟩
 have hzj17:=hEj17.size;have hJl17:=hJ17.lt;have hle17:=hM17.le
 refine wsr (za (zV bj17 0 (hJ17.all) ?_))
 have hX28:=((Ext.own hEw33 hCw34 (by omega)).trans hEw35).trans hEw36
 have hK37:=((((hK15.ext hEw28).ext hX17).ext hX28).ext hEj17)
 have hK38:=((((hK16.ext hEw28).ext hX17).ext hX28).ext hEj17)
 have hK39:=((((hK17.ext hEw28).ext hX17).ext hX28).ext hEj17)
 refine za (zt (zpc 5 _ hM17 (by first | omega | decide) (by first | omega | decide) (by first | omega | decide) (zff wO2) (zei (n:=5) wO2 rfl) hK37 hK38 hK39) ?_)
 rintro _ w50 ⟨a10,rfl,hFz20_0,hEw50⟩
 have hzw50:=hEw50.size
 have hlea10:=hFz20_0.le
 rw [show zfJ (tot 5) wT2=wT3 from wE2] at hFz20_0
 refine zb 3 [(135,(vI 0)),(134,(vA [(vI 5),(.slice a10 (tot 5) (tot 5))])),(131,(.tuple #[(vA [(vI 5),(.slice a10 (tot 5) (tot 5))]),(vI 0)]))] (zal ([(vI 5),(.slice a10 (tot 5) (tot 5))]) 38 rfl (by simp [Value.oneCell']) ?_)
 intro w51 hBw51 hEw51 hzw51 hlw51
 refine zb 1 [(6,(vI 0))] (zz (za (zV w50.heap.size 0 (hBw51.all) ?_)))
 refine za (zt (zmm 5 4 _ (hFz20_0.ext hEw51) (by first | omega | decide) (by first | omega | decide) (by first | omega | decide) (zff wO3) (zei (n:=5) wO3 rfl) (by first | omega | decide) ((hK37.ext hEw50).ext hEw51) ((hK38.ext hEw50).ext hEw51) ((hK39.ext hEw50).ext hEw51)) ?_)
 rintro _ w52 ⟨rfl,hEw52⟩
 have hzw52:=hEw52.size
 rw [show zbx (wT3.getD (4/4) Un.zero) (4%4)=1 from wG3]
 refine zb 5 [(8,(vI 0)),(7,(vI 1)),(140,(vI 0)),(139,(vI 1)),(136,(.tuple #[(vI 1),(vI 0)]))] (zz (zb 2 [(142,(vI 0)),(141,(vI 0))] (za (zJ 143 0 0 0 ?_))))
 refine zb 1 [(144,(vI 0))] (za (zJ 145 0 0 0 ?_))
 refine zb 3 [(148,(vI 0)),(147,vT),(146,vT)] (za (zdI 149 0 0 ?_))
 refine zb 3 [(152,(vI 1)),(151,vT),(150,vT)] (za (zdI 153 1 1 ?_))
 refine zb 3 [(156,(vP w50.heap.size 1)),(155,vT),(154,vT)] (za (zm w50.heap.size 1 ((hBw51.ext hEw52).cell rfl) ?_))
 refine zb 1 [(158,(vI (tot 5)))] (za (zdI 159 (tot 5) 3 ?_))
 refine zb 3 [(162,(vP w50.heap.size 1)),(161,vT),(160,vT)] (za (zm w50.heap.size 1 ((hBw51.ext hEw52).cell rfl) ?_))
 obtain ⟨b3,o3,rfl⟩:=hFz20_0.addr (by omega) (by decide)
 refine za (zan b3 o3 (tot 5) (tot 5) 1 280 ?_)
 refine zb 1 [(165,(vP b3 (o3+1*280+274)))] (za (zm b3 (o3+1*280+274) (((hFz20_0.ext hEw51).ext hEw52).cell (j:=274) (i:=1) Un.zero (by omega) (zdu _)) ?_))
 refine za (zbn (some 167) ((wT3.getD 1 Un.zero).sl==((0:Nat):Int)) true (zc8) ?_)
 refine zb 3 [(170,(vP w50.heap.size 1)),(169,vT),(168,vT)] (za (zm w50.heap.size 1 ((hBw51.ext hEw52).cell rfl) ?_))
 refine za (zan b3 o3 (tot 5) (tot 5) 2 280 ?_)
 refine zb 1 [(173,(vP b3 (o3+2*280+274)))] (za (zm b3 (o3+2*280+274) (((hFz20_0.ext hEw51).ext hEw52).cell (j:=274) (i:=2) Un.zero (by omega) (zdu _)) ?_))
 refine za (zbn (some 175) ((wT3.getD 2 Un.zero).sl==((1:Nat):Int)) true (zc8) ?_)
 refine zb 2 [(0,vT),(176,vT)] (zF (zh vT ?_))
 have hX29:Ext w w52:=(((((((((((Ext.own (Ext.own hX1 hCw5 (by omega)) hCw6 (by omega)).trans hEw7).trans hEw8).trans hX15).trans hX16).trans hX17).trans hX28).trans hEj17).trans hEw50).trans hEw51).trans hEw52)
 exact ⟨rfl,hX29⟩
end Go.Proofs.YtkmhgepdhilllaaGreatDoor
namespace Go.Proofs.YtkmhgepdhilllaaGreatDoor
open Go Go.RowKit Go.Cs
set_option maxRecDepth 100000
set_option maxHeartbeats 8000000 in
theorem zvl (n:Nat) {lo_t hi_t:Nat} {a_t:Option Addr} {n_t c_t:Nat} {t:List Un} (l:Nat) (j:Nat) (w:World) (h_t:Ms unC 280 lo_t hi_t w a_t n_t c_t t) (hp0:1≤n) (hp1:n≤4096) (hp2:n_t=tot n) (hp3:l≤hgt n) (hp4:j<cnt n l) (hp5:l≠0→∀w,w<prt n l j→((t.getD (num n (l-1)+(4*j+w)) Un.zero).sl=0∨(t.getD (num n (l-1)+(4*j+w)) Un.zero).sl=1)∧zaz (t.getD (num n (l-1)+(4*j+w)) Un.zero).nd=0):
  Calls Tryz.prog 70 #[(vA [(vI n),(.slice a_t n_t c_t)]),(vI l),(vI j)] w (Ret fun r w'=>r=(vI (zaG n t l j))∧Ext w w'):=by
 refine zw (n:=176) (σ:= [(0,(vA [(vI n),(.slice a_t n_t c_t)])),(1,(vI l)),(2,(vI j))]) Tryz.func70 rfl ?_
 replace h_t:=h_t.now;have hle_t:=h_t.le
 have hlt:=h_t.len_eq
 have hle:=h_t.le
 have h5:=zam n
 have hts:=zau hp1
 have hpl:=zaL (n:=n) (l:=l) (j:=j) hp3 hp4
 have hcn:=zbl n l
 have hns:=zbN (n:=n) (l:=l) hp1 (by omega)
 have hns1:=zbN (n:=n) (l:=l-1) hp1 (by omega)
 have hcm:=zbl n (l-1)
 have hpp:=zdo n l j
 have hxl:=(t.getD (num n l+j) Un.zero).nd.hlv;have hxi:=(t.getD (num n l+j) Un.zero).nd.hix
 refine wsr (za (zS (Instr.box 38 (vA [(vI n),(.slice a_t n_t c_t)])) (vP w.heap.size 0) ([(vI n),(.slice a_t n_t c_t)]) 38 ?_))
 intro w1 hBw1 hEw1 hzw1 hlw1
 refine zb 1 [(6,(vI 0))] (zz (zb 1 [(19,(vP w.heap.size 0))] (za (zm w.heap.size 0 (hBw1.cell rfl) ?_))))
 refine zb 1 [(7,(vI n))] (wEt (zd (zY 10 (fun w2 hEw2 hzw2 hT31=> ?_))))
 refine ze hT31 [(0,21,(vP w.heap.size 1))] 1 (zx hT31 1 w.heap.size 1 (fun w' hC=>(((hBw1.ext hEw2).ext hC).cell rfl)) (ze hT31 [(2,23,(vI n)),(3,24,(vI l)),(4,25,(vI j))] 3 (zr hT31 5 (vI (num n l+j)) (zcv (f:=27) (args:= #[(vI n),(vI l),(vI j)]) (fun w' hC=>ze6 n l j _ (by omega) (by omega) (by omega) (by omega))) ?_)))
 obtain ⟨b1,o1,rfl⟩:=h_t.addr (by omega) (by decide)
 refine zaD hT31 6 b1 o1 n_t c_t (num n l+j) 280 (zaq hT31 7 b1 (o1+(num n l+j)*280) (fun w' hC=>((((h_t.ext hEw1).ext hEw2).ext hC).at Un.zero (by omega))) (zI _) (zy 8 (zad (unC Un.zero) 77 ?_)))
 intro w3 hBw3 hEw3 hzw3 hlw3
 refine ⟨.inr hEw3, ?_⟩
 refine zy 9 (zC 77 w2.heap.size 0 77 (vA (unC (t.getD (num n l+j) Un.zero))) (unC Un.zero) (unC (t.getD (num n l+j) Un.zero)) hBw3 (by rw [zI];kernel_rfl) (by first |(simp;done)|(simp;omega)) (za7 _) ?_)
 intro w4 hBw4 hCw4
 have hzw4:=hCw4.size
 rw [zv _ _ (by simp)] at hBw4
 refine ⟨.inl (by kernel_rfl), ?_⟩
 refine zB (zc (zd (wsr (zb 2 [(30,(vP w2.heap.size 0)),(29,(vP w2.heap.size 0))] (za (zm w2.heap.size 0 (hBw4.cell rfl) ?_))))))
 refine za (zdq 32 ((t.getD (num n l+j) Un.zero).nd.lv) ?_)
 refine zb 1 [(33,(vI l))] (za (zbT 34 ((t.getD (num n l+j) Un.zero).nd.lv) l (fun hc34=> ?_) (fun hc34=> ?_)))
 ·refine zb 15 [(49,vT),(48,undef),(47,undef),(46,undef),(45,undef),(44,undef),(43,vT),(42,vT),(41,undef),(40,undef),(39,undef),(38,undef),(37,undef),(36,undef),(35,vT)] (wEt (zk (wsr (zb 1 [(6,(vI 17))] (zF ?_)))))
  refine zj (zh (vI 17) ?_)
  have hX1:Ext w w4:=(Ext.own ((hEw1.trans hEw2).trans hEw3) hCw4 (by omega))
  exact ⟨congrArg (fun z:Nat=>vI z) ((ziD (fun hh=>by have h1:(t.getD (num n l+j) Un.zero).nd.lv=l:=hh.1;have h2:(t.getD (num n l+j) Un.zero).nd.ix=j:=hh.2.1;have h3:zb1 n (t.getD (num n l+j) Un.zero).nd=0:=hh.2.2;omega)).symm),hX1⟩
 ·refine zb 3 [(37,(vP w2.heap.size 1)),(36,(vP w2.heap.size 0)),(35,vF)] (za (zm w2.heap.size 1 (hBw4.cell rfl) ?_))
  refine za (zdq 39 ((t.getD (num n l+j) Un.zero).nd.ix) ?_)
  refine zb 1 [(40,(vI j))] (za (zbT 41 ((t.getD (num n l+j) Un.zero).nd.ix) j (fun hc41=> ?_) (fun hc41=> ?_)))
  ·refine zb 8 [(49,vT),(48,undef),(47,undef),(46,undef),(45,undef),(44,undef),(43,vT),(42,vT)] (wEt (zk (wsr (zb 1 [(6,(vI 17))] (zF ?_)))))
   refine zj (zh (vI 17) ?_)
   have hX2:Ext w w4:=(Ext.own ((hEw1.trans hEw2).trans hEw3) hCw4 (by omega))
   exact ⟨congrArg (fun z:Nat=>vI z) ((ziD (fun hh=>by have h1:(t.getD (num n l+j) Un.zero).nd.lv=l:=hh.1;have h2:(t.getD (num n l+j) Un.zero).nd.ix=j:=hh.2.1;have h3:zb1 n (t.getD (num n l+j) Un.zero).nd=0:=hh.2.2;omega)).symm),hX2⟩
  ·refine zb 4 [(45,(vP w2.heap.size 0)),(44,(vI n)),(43,vF),(42,vF)] (za (zQ w2.heap.size 0 (hBw4.at 0 (zH (t.getD (num n l+j) Un.zero).nd) (zdE _)) (zN _) ?_))
   refine za (zt (zrZ n ((t.getD (num n l+j) Un.zero).nd) _ (by omega) (by omega)) ?_)
   rintro _ w5 ⟨rfl,hEw5⟩
   have hzw5:=hEw5.size
   refine za (zbT 48 (zb1 n ((t.getD (num n l+j) Un.zero).nd)) 0 (fun hc48=> ?_) (fun hc48=> ?_))
   ·refine zb 1 [(49,vT)] (wEt (zk (wsr (zb 1 [(6,(vI 17))] (zF ?_)))))
    refine zj (zh (vI 17) ?_)
    have hX3:Ext w w5:=((Ext.own ((hEw1.trans hEw2).trans hEw3) hCw4 (by omega)).trans hEw5)
    exact ⟨congrArg (fun z:Nat=>vI z) ((ziD (fun hh=>by have h1:(t.getD (num n l+j) Un.zero).nd.lv=l:=hh.1;have h2:(t.getD (num n l+j) Un.zero).nd.ix=j:=hh.2.1;have h3:zb1 n (t.getD (num n l+j) Un.zero).nd=0:=hh.2.2;omega)).symm),hX3⟩
   ·refine zb 1 [(49,vF)] (wEt (zf (zl (zc (wsr (zb 1 [(9,vF)] (zq ?_)))))))
    refine zc (zd (wsr (zb 1 [(10,(vI 0))] (wEt (zp ?_)))))
    have hnm:¬zb9 n (ndU n t l j).nd l j:=ziT (show (t.getD (num n l+j) Un.zero).nd.lv=l by omega) (show (t.getD (num n l+j) Un.zero).nd.ix=j by omega) (show zb1 n (t.getD (num n l+j) Un.zero).nd=0 by omega)
    refine zU (X:=Nat×Bool) (fun ⟨m,d⟩=> [(9,(.bool d)),(10,(vI m))]) [6,50,51,52,53,54,55,56,57,58,59,60,61,62,63,64,65,66,67,68,69,70,71,72,73,74,75,76,77] (fun ⟨m,d⟩ w6=>m≤4∧d=(List.range m).any (t.getD (num n l+j) Un.zero).g∧(∀i,i<m→(t.getD (num n l+j) Un.zero).g i=true→l=0∧((t.getD (num n l+j) Un.zero).nd.rs.get i).st≠0)∧Ext w5 w6) (fun ⟨m,d⟩=>4-m) (0,false) (by kernel_rfl) ⟨by omega,rfl,fun i h=>absurd h (Nat.not_lt_zero _),Ext.refl _⟩ ?_
    rintro ⟨m,d⟩ dw6 w6 ⟨hw,hd,hmk,hEl⟩
    have hzl:=hEl.size
    refine zd (wsr (zb 1 [(50,(vI m))] (za (zag 51 m 4 (fun hc51=> ?_) (fun hc51=> ?_)))))
    ·refine wEt (zk (zl (zc (zd (zp (zd (wsr ?_)))))))
     refine zb 2 [(55,(vP w2.heap.size 276)),(54,(vI m))] (za (zaW w2.heap.size 276 m 4 1 ?_))
     rcases Bool.eq_false_or_eq_true ((t.getD (num n l+j) Un.zero).g m) with hb57 | hb57
     ·refine za (zm w2.heap.size (276+m*1) (Eq.trans (((hBw4.ext hEw5).ext hEl).cell (zin (by omega))) (congrArg (fun z=>some (Value.bool z)) hb57)) ?_)
      refine zb 2 [(59,(vI l)),(58,vT)] (za (zcn 60 l 0 (fun hc60=> ?_) (fun hc60=> ?_)))
      ·refine zb 10 [(70,vT),(69,vT),(68,undef),(67,undef),(66,undef),(65,undef),(64,undef),(63,undef),(62,undef),(61,vT)] (wEt (zk (wsr (zb 1 [(6,(vI 9))] (zF ?_)))))
       refine zj (zu (zj (zj (zu (zj (zh (vI 9) ?_))))))
       have hX4:Ext w w6:=(((Ext.own ((hEw1.trans hEw2).trans hEw3) hCw4 (by omega)).trans hEw5).trans hEl)
       exact ⟨congrArg (fun z:Nat=>vI z) ((zdF hnm (fun hh=>by have h1:=zdR.1 hh.1 m (by omega) hb57;have h2:((t.getD (num n l+j) Un.zero).nd.rs.get m).st≠0:=h1.2;omega)).symm),hX4⟩
      ·refine zb 4 [(64,(vP w2.heap.size 2)),(63,(vP w2.heap.size 0)),(62,(vI m)),(61,vF)] (za (zaW w2.heap.size 2 m 4 35 ?_))
       refine zb 1 [(66,(vP w2.heap.size (2+m*35)))] (za (zm w2.heap.size (2+m*35) (((hBw4.ext hEw5).ext hEl).cell (zhJ (by omega))) ?_))
       refine za (zaI 68 (((t.getD (num n l+j) Un.zero).nd.rs.get m).st) 0 (fun hc68=> ?_) (fun hc68=> ?_))
       ·refine zb 2 [(70,vT),(69,vT)] (wEt (zk (wsr (zb 1 [(6,(vI 9))] (zF ?_)))))
        refine zj (zu (zj (zj (zu (zj (zh (vI 9) ?_))))))
        have hX5:Ext w w6:=(((Ext.own ((hEw1.trans hEw2).trans hEw3) hCw4 (by omega)).trans hEw5).trans hEl)
        exact ⟨congrArg (fun z:Nat=>vI z) ((zdF hnm (fun hh=>by have h1:=zdR.1 hh.1 m (by omega) hb57;have h2:((t.getD (num n l+j) Un.zero).nd.rs.get m).st≠0:=h1.2;omega)).symm),hX5⟩
       ·refine zb 2 [(70,vF),(69,vF)] (wEt (zf (zl (zc (zg ?_)))))
        rcases Bool.eq_false_or_eq_true (d) with hb71 | hb71
        ·rw [hb71]
         refine zb 8 [(9,vT),(77,vT),(76,undef),(75,undef),(74,undef),(73,undef),(72,vT),(71,vT)] (zq (zi (zc (zg (zb 1 [(52,(vI m))] (za (zJ 53 m 1 (m+1) ?_)))))))
         refine zb 1 [(10,(vI (m+1)))] (zq (zn (zG (m+1,true) ?_ ?_)))
         ·exact ⟨by omega,by rw [zcP,←hd,show d=true from hb71,show (t.getD (num n l+j) Un.zero).g m=true from hb57];rfl,fun i hi hg=>by rcases Nat.lt_succ_iff_lt_or_eq.1 hi with h1 | rfl;exact hmk i h1 hg;exact ⟨by omega,hc68⟩,hEl⟩
         ·first | omega |(dsimp only;omega)
        ·rw [hb71]
         refine zb 4 [(74,(vP w2.heap.size 276)),(73,(vI m)),(72,vF),(71,vF)] (za (zaW w2.heap.size 276 m 4 1 ?_))
         refine za (zm w2.heap.size (276+m*1) (Eq.trans (((hBw4.ext hEw5).ext hEl).cell (zin (by omega))) (congrArg (fun z=>some (Value.bool z)) hb57)) ?_)
         refine zb 2 [(9,vT),(77,vT)] (zq (zi (zc (zg (zb 1 [(52,(vI m))] (za (zJ 53 m 1 (m+1) ?_)))))))
         refine zb 1 [(10,(vI (m+1)))] (zq (zn (zG (m+1,true) ?_ ?_)))
         ·exact ⟨by omega,by rw [zcP,←hd,show d=false from hb71,show (t.getD (num n l+j) Un.zero).g m=true from hb57];rfl,fun i hi hg=>by rcases Nat.lt_succ_iff_lt_or_eq.1 hi with h1 | rfl;exact hmk i h1 hg;exact ⟨by omega,hc68⟩,hEl⟩
         ·first | omega |(dsimp only;omega)
     ·refine za (zm w2.heap.size (276+m*1) (Eq.trans (((hBw4.ext hEw5).ext hEl).cell (zin (by omega))) (congrArg (fun z=>some (Value.bool z)) hb57)) ?_)
      refine zb 13 [(70,vF),(69,undef),(68,undef),(67,undef),(66,undef),(65,undef),(64,undef),(63,undef),(62,undef),(61,undef),(60,undef),(59,undef),(58,vF)] (wEt (zf (zl (zc (zg ?_)))))
      rcases Bool.eq_false_or_eq_true (d) with hb71 | hb71
      ·rw [hb71]
       refine zb 8 [(9,vT),(77,vT),(76,undef),(75,undef),(74,undef),(73,undef),(72,vT),(71,vT)] (zq (zi (zc (zg (zb 1 [(52,(vI m))] (za (zJ 53 m 1 (m+1) ?_)))))))
       refine zb 1 [(10,(vI (m+1)))] (zq (zn (zG (m+1,true) ?_ ?_)))
       ·exact ⟨by omega,by rw [zcP,←hd,show d=true from hb71,show (t.getD (num n l+j) Un.zero).g m=false from hb57];rfl,fun i hi hg=>by rcases Nat.lt_succ_iff_lt_or_eq.1 hi with h1 | rfl;exact hmk i h1 hg;exact absurd (hb57.symm.trans hg) (by decide),hEl⟩
       ·first | omega |(dsimp only;omega)
      ·rw [hb71]
       refine zb 4 [(74,(vP w2.heap.size 276)),(73,(vI m)),(72,vF),(71,vF)] (za (zaW w2.heap.size 276 m 4 1 ?_))
       refine za (zm w2.heap.size (276+m*1) (Eq.trans (((hBw4.ext hEw5).ext hEl).cell (zin (by omega))) (congrArg (fun z=>some (Value.bool z)) hb57)) ?_)
       refine zb 2 [(9,vF),(77,vF)] (zq (zi (zc (zg (zb 1 [(52,(vI m))] (za (zJ 53 m 1 (m+1) ?_)))))))
       refine zb 1 [(10,(vI (m+1)))] (zq (zn (zG (m+1,false) ?_ ?_)))
       ·exact ⟨by omega,by rw [zcP,←hd,show d=false from hb71,show (t.getD (num n l+j) Un.zero).g m=false from hb57];rfl,fun i hi hg=>by rcases Nat.lt_succ_iff_lt_or_eq.1 hi with h1 | rfl;exact hmk i h1 hg;exact absurd (hb57.symm.trans hg) (by decide),hEl⟩
       ·first | omega |(dsimp only;omega)
    ·obtain rfl:m=4:=by omega
     have hmrk:zeY (ndU n t l j) l=true:=zdR.2 fun w hw hg=>hmk w hw hg
     refine wEt (zf (zP (zo (zo (zD (zc (wsr ?_)))))))
     refine zb 3 [(80,(vI j)),(79,(vI l)),(78,(vI n))] (za (zt (zhD n l j _ (by omega) (by omega) (by omega) (by omega)) ?_))
     rintro _ _ ⟨rfl,rfl⟩
     refine zb 1 [(11,(vI (prt n l j)))] (zM (zb 1 [(12,(vI 0))] (wEt (zp ?_))))
     refine zU (X:=Nat×Bool) (fun ⟨q,e⟩=> [(9,(.bool e)),(12,(vI q))]) [82,83,84,85,86,87,88,89,90,91,92,93,94,95,96,97,98,99,100,101,102,103,104,105,106] (fun ⟨q,e⟩ w7=>q≤prt n l j∧(l=0→q=0)∧e=((List.range 4).any (t.getD (num n l+j) Un.zero).g ||(List.range q).any fun q=>(t.getD (num n (l-1)+(4*j+q)) Un.zero).dt)∧Ext w6 w7) (fun ⟨q,e⟩=>4-q) (0,d) (by kernel_rfl) ⟨Nat.zero_le _,fun _=>rfl,by rw [hd,show (List.range 0)= [] from rfl,List.any_nil,Bool.or_false],Ext.refl _⟩ ?_
     rintro ⟨q,e⟩ dw7 w7 ⟨hq,hq0,he2,hEm⟩
     have hzm:=hEm.size
     refine zd (wsr (zb 2 [(83,(vI (prt n l j))),(82,(vI q))] (za (zag 84 q (prt n l j) (fun hc84=> ?_) (fun hc84=> ?_)))))
     ·refine zb 2 [(86,(vI l)),(85,vT)] (za (zcn 87 l 0 (fun hc87=> ?_) (fun hc87=> ?_)))
      ·have hpm:=zc1 (n:=n) (l:=l) (j:=j) (by omega) hp3 hp4 (w:=q) (by omega)
       refine zb 1 [(88,vT)] (wEt (zk (zl (zc (zd (zp (zY 17 (fun w8 hEw8 hzw8 hT319=> ?_))))))))
       rcases Bool.eq_false_or_eq_true (e) with hb91 | hb91
       ·rw [hb91]
        refine ze hT319 [(0,91,vT),(1,92,vT),(2,93,undef),(3,94,undef),(4,95,undef),(5,96,undef),(6,97,undef),(7,98,undef),(8,99,undef),(9,100,undef),(10,101,undef),(11,102,undef),(12,103,undef),(13,104,undef)] 14 (ze hT319 [(14,105,undef),(15,106,vT),(16,9,vT)] 3 (zB (zi (zc (zg (zb 1 [(89,(vI q))] (za (zJ 90 q 1 (q+1) ?_))))))))
        refine zb 1 [(12,(vI (q+1)))] (zq (zn (zG (q+1,true) ?_ ?_)))
        ·exact ⟨by omega,by omega,by rw [zcP (k:=q),←Bool.or_assoc,←he2,show e=true from hb91];rfl,(hEm.trans hEw8)⟩
        ·first | omega |(dsimp only;omega)
       ·rw [hb91]
        refine ze hT319 [(0,91,vF),(1,92,vF),(2,93,(vP w.heap.size 1))] 3 ?_
        have hX6:=((hEw5.trans hEl).trans hEm).trans hEw8
        have hK1:=((((hBw1.ext hEw2).ext hEw3).chg hCw4).ext hX6)
        refine zx hT319 3 w.heap.size 1 (fun w' hC=>((hK1.ext hC).cell rfl)) (ze hT319 [(4,95,(vI n)),(5,96,(vI l))] 2 (zr hT319 6 (vI (l-1)) (zac .i64 (IntKind.i64.wrap (((l:Nat):Int)-((1:Nat):Int))) (zao)) (ze hT319 [(7,98,(vI j))] 1 (zr hT319 8 (vI (4*j)) (zac .i64 (IntKind.i64.wrap (((4:Nat):Int)*((j:Nat):Int))) (zao)) (ze hT319 [(9,100,(vI q))] 1 (zr hT319 10 (vI (4*j+q)) (zac .i64 (IntKind.i64.wrap (((4*j:Nat):Int)+((q:Nat):Int))) (zao)) (zr hT319 11 (vI (num n (l-1)+(4*j+q))) (zcv (f:=27) (args:= #[(vI n),(vI (l-1)),(vI (4*j+q))]) (fun w' hC=>ze6 n (l-1) (4*j+q) _ (by omega) (by omega) (by omega) (by omega))) (zaD hT319 12 b1 o1 n_t c_t (num n (l-1)+(4*j+q)) 280 (ze hT319 [(13,104,(vP b1 (o1+(num n (l-1)+(4*j+q))*280+275)))] 1 ?_)))))))))
        have hX7:=Ext.own ((hEw1.trans hEw2).trans hEw3) hCw4 (by omega)
        rcases Bool.eq_false_or_eq_true ((t.getD (num n (l-1)+(4*j+q)) Un.zero).dt) with hb105 | hb105
        ·refine zx hT319 14 b1 (o1+(num n (l-1)+(4*j+q))*280+275) (fun w' hC=>(Eq.trans ((((h_t.ext hX7).ext hX6).ext hC).cell (j:=275) Un.zero (by omega) (zdc _)) (congrArg (fun z=>some (Value.bool z)) hb105))) (ze hT319 [(15,106,vT),(16,9,vT)] 2 (zB (zi (zc (zg (zb 1 [(89,(vI q))] (za (zJ 90 q 1 (q+1) ?_))))))))
         refine zb 1 [(12,(vI (q+1)))] (zq (zn (zG (q+1,true) ?_ ?_)))
         ·exact ⟨by omega,by omega,by rw [zcP (k:=q),←Bool.or_assoc,←he2,show e=false from hb91,show (t.getD (num n (l-1)+(4*j+q)) Un.zero).dt=true from hb105];rfl,(hEm.trans hEw8)⟩
         ·first | omega |(dsimp only;omega)
        ·refine zx hT319 14 b1 (o1+(num n (l-1)+(4*j+q))*280+275) (fun w' hC=>(Eq.trans ((((h_t.ext hX7).ext hX6).ext hC).cell (j:=275) Un.zero (by omega) (zdc _)) (congrArg (fun z=>some (Value.bool z)) hb105))) (ze hT319 [(15,106,vF),(16,9,vF)] 2 (zB (zi (zc (zg (zb 1 [(89,(vI q))] (za (zJ 90 q 1 (q+1) ?_))))))))
         refine zb 1 [(12,(vI (q+1)))] (zq (zn (zG (q+1,false) ?_ ?_)))
         ·exact ⟨by omega,by omega,by rw [zcP (k:=q),←Bool.or_assoc,←he2,show e=false from hb91,show (t.getD (num n (l-1)+(4*j+q)) Un.zero).dt=false from hb105];rfl,(hEm.trans hEw8)⟩
         ·first | omega |(dsimp only;omega)
      ·have hdr:e=zcW n t l j:=he2.trans (zuW hmrk (by omega))
       refine zb 1 [(88,vF)] (wEt (zf (zP (zo (zo (zD (zc (zd ?_))))))))
       refine wsr (zb 1 [(107,(vP w2.heap.size 275))] ?_)
       have hK2:=(((hBw4.ext hEw5).ext hEl).ext hEm)
       refine za (zm w2.heap.size 275 (hK2.cell (zdc _)) ?_)
       refine zb 1 [(109,(.bool e))] ?_
       rcases Classical.em ((t.getD (num n l+j) Un.zero).dt=e) with hq110 | hq110
       ·refine za (zbn (some 110) (!((t.getD (num n l+j) Un.zero).dt==e)) false (bnF hq110) ?_)
        refine wEt (zf (zl (zc (zd (wsr (zb 1 [(13,(vI 0))] (zq ?_)))))))
        refine zc (zp (zU (X:=Nat) (fun q=> [(13,(vI q))]) [6,14,15,16,17,18,111,112,113,114,115,116,117,118,119,120,121,122,123,124,125,126,127,128,129,130,131,132,133,134,135,136,137,138,139,140,141,142,143,144,145,146,147,148,149,150,151,152,153,154,155,156,157,158,159,160,161,162,163,164,165,166,167,168,169,170,171,172,173,174,175] (fun q w9=>q≤prt n l j∧(l=0→q=0)∧(∀i,i<q→(t.getD (num n l+j) Un.zero).nd.es.get i=enU (t.getD (num n (l-1)+(4*j+i)) Un.zero))∧Ext w7 w9) (fun q=>4-q) 0 (by kernel_rfl) ⟨Nat.zero_le _,fun _=>rfl,fun i h=>absurd h (Nat.not_lt_zero _),Ext.refl _⟩ ?_))
        rintro q dw9 w9 ⟨hq2,hq3,hen,hEn⟩
        have hzn:=hEn.size
        refine zd (wsr (zb 2 [(112,(vI (prt n l j))),(111,(vI q))] (za (zag 113 q (prt n l j) (fun hc113=> ?_) (fun hc113=> ?_)))))
        ·refine zb 2 [(115,(vI l)),(114,vT)] (za (zcn 116 l 0 (fun hc116=> ?_) (fun hc116=> ?_)))
         ·have hpm:=zc1 (n:=n) (l:=l) (j:=j) (by omega) hp3 hp4 (w:=q) (by omega)
          obtain ⟨hs0,hs1⟩:=hp5 (by omega) q (by omega)
          refine zb 1 [(117,vT)] (wEt (zk (zl (zc (zd (zp (zd (zY 14 (fun w10 hEw10 hzw10 hT432=> ?_)))))))))
          refine ze hT432 [(0,120,(vP w.heap.size 1))] 1 ?_
          have hX8:=((hEw5.trans hEl).trans hEm).trans hEn
          have hK3:=(((((hBw1.ext hEw2).ext hEw3).chg hCw4).ext hX8).ext hEw10)
          refine zx hT432 1 w.heap.size 1 (fun w' hC=>((hK3.ext hC).cell rfl)) (ze hT432 [(2,122,(vI n)),(3,123,(vI l))] 2 (zr hT432 4 (vI (l-1)) (zac .i64 (IntKind.i64.wrap (((l:Nat):Int)-((1:Nat):Int))) (zao)) (ze hT432 [(5,125,(vI j))] 1 (zr hT432 6 (vI (4*j)) (zac .i64 (IntKind.i64.wrap (((4:Nat):Int)*((j:Nat):Int))) (zao)) (ze hT432 [(7,127,(vI q))] 1 (zr hT432 8 (vI (4*j+q)) (zac .i64 (IntKind.i64.wrap (((4*j:Nat):Int)+((q:Nat):Int))) (zao)) (zr hT432 9 (vI (num n (l-1)+(4*j+q))) (zcv (f:=27) (args:= #[(vI n),(vI (l-1)),(vI (4*j+q))]) (fun w' hC=>ze6 n (l-1) (4*j+q) _ (by omega) (by omega) (by omega) (by omega))) (zaD hT432 10 b1 o1 n_t c_t (num n (l-1)+(4*j+q)) 280 ?_))))))))
          have hX9:=Ext.own ((hEw1.trans hEw2).trans hEw3) hCw4 (by omega)
          have hK4:=(((h_t.ext hX9).ext hX8).ext hEw10)
          refine zaq hT432 11 b1 (o1+(num n (l-1)+(4*j+q))*280) (fun w' hC=>((hK4.ext hC).at Un.zero (by omega))) (zI _) (zy 12 (zad (unC Un.zero) 77 ?_))
          intro w11 hBw11 hEw11 hzw11 hlw11
          refine ⟨.inr hEw11, ?_⟩
          refine zy 13 (zC 77 w10.heap.size 0 77 (vA (unC (t.getD (num n (l-1)+(4*j+q)) Un.zero))) (unC Un.zero) (unC (t.getD (num n (l-1)+(4*j+q)) Un.zero)) hBw11 (by rw [zI];kernel_rfl) (by first |(simp;done)|(simp;omega)) (za7 _) ?_)
          intro w12 hBw12 hCw12
          have hzw12:=hCw12.size
          rw [zv _ _ (by simp)] at hBw12
          refine ⟨.inl (by kernel_rfl), ?_⟩
          refine zB (zc (wsr (za (zad (zW Ent.zero) 71 ?_))))
          intro w13 hBw13 hEw13 hzw13 hlw13
          refine zz (zb 1 [(16,vF)] (zM ?_))
          refine zb 1 [(17,(vI 0))] (wEt (zp (zU (X:=Nat×Bool) (fun ⟨i,u⟩=> [(16,(.bool u)),(17,(vI i))]) [132,133,134,135,136,137,138,139,140,141,142,143,144,145,146,147,148,149,150,151,152,153,154] (fun ⟨i,u⟩ w14=>i≤4∧u=zji (t.getD (num n (l-1)+(4*j+q)) Un.zero).nd i∧Ext w13 w14) (fun ⟨i,u⟩=>4-i) (0,false) (by kernel_rfl) ⟨by omega,rfl,Ext.refl _⟩ ?_)))
          rintro ⟨i,u⟩ dw14 w14 ⟨hi,hu,hEu⟩
          have hzu:=hEu.size
          refine zd (wsr (zb 1 [(132,(vI i))] (za (zag 133 i 4 (fun hc133=> ?_) (fun hc133=> ?_)))))
          ·refine wEt (zk (zl (zc (zd (zp (zg ?_))))))
           rcases Bool.eq_false_or_eq_true (u) with hb136 | hb136
           ·rw [hb136]
            refine zb 20 [(16,vT),(154,vT),(153,undef),(152,undef),(151,undef),(150,undef),(149,undef),(148,undef),(147,undef),(146,vT),(145,vT),(144,undef),(143,undef),(142,undef),(141,undef),(140,undef),(139,undef),(138,undef),(137,vT),(136,vT)] (zq (zi (zc (zg (zb 1 [(134,(vI i))] (za (zJ 135 i 1 (i+1) ?_)))))))
            refine zb 1 [(17,(vI (i+1)))] (zq (zn (zG (i+1,true) ?_ ?_)))
            ·exact ⟨by omega,by rw [zdN,←hu,show u=true from hb136];rfl,hEu⟩
            ·first | omega |(dsimp only;omega)
           ·rw [hb136]
            refine zb 5 [(140,(vP w10.heap.size 2)),(139,(vP w10.heap.size 0)),(138,(vI i)),(137,vF),(136,vF)] (za (zaW w10.heap.size 2 i 4 35 ?_))
            refine zb 1 [(142,(vP w10.heap.size (2+i*35)))] (za (zm w10.heap.size (2+i*35) (((hBw12.ext hEw13).ext hEu).cell (zhJ (by omega))) ?_))
            refine za (zcn 144 (((t.getD (num n (l-1)+(4*j+q)) Un.zero).nd.rs.get i).st) 0 (fun hc144=> ?_) (fun hc144=> ?_))
            ·refine zb 11 [(16,vT),(154,vT),(153,undef),(152,undef),(151,undef),(150,undef),(149,undef),(148,undef),(147,undef),(146,vT),(145,vT)] (zq (zi (zc (zg (zb 1 [(134,(vI i))] (za (zJ 135 i 1 (i+1) ?_)))))))
             refine zb 1 [(17,(vI (i+1)))] (zq (zn (zG (i+1,true) ?_ ?_)))
             ·exact ⟨by omega,by rw [zdN,bne_iff_ne.2 (show ((t.getD (num n (l-1)+(4*j+q)) Un.zero).nd.rs.get i).st≠0 by omega),Bool.true_or,Bool.or_true],hEu⟩
             ·first | omega |(dsimp only;omega)
            ·refine zb 5 [(149,(vP w10.heap.size 142)),(148,(vP w10.heap.size 0)),(147,(vI i)),(146,vF),(145,vF)] (za (zaW w10.heap.size 142 i 4 33 ?_))
             refine zb 1 [(151,(vP w10.heap.size (142+i*33)))] (za (zm w10.heap.size (142+i*33) (((hBw12.ext hEw13).ext hEu).cell (zqi (by omega))) ?_))
             refine za (zcn 153 (((t.getD (num n (l-1)+(4*j+q)) Un.zero).nd.es.get i).st) 0 (fun hc153=> ?_) (fun hc153=> ?_))
             ·refine zb 2 [(16,vT),(154,vT)] (zq (zi (zc (zg (zb 1 [(134,(vI i))] (za (zJ 135 i 1 (i+1) ?_)))))))
              refine zb 1 [(17,(vI (i+1)))] (zq (zn (zG (i+1,true) ?_ ?_)))
              ·exact ⟨by omega,by rw [zdN,bne_iff_ne.2 (show ((t.getD (num n (l-1)+(4*j+q)) Un.zero).nd.es.get i).st≠0 by omega),Bool.or_true,Bool.or_true],hEu⟩
              ·first | omega |(dsimp only;omega)
             ·refine zb 2 [(16,vF),(154,vF)] (zq (zi (zc (zg (zb 1 [(134,(vI i))] (za (zJ 135 i 1 (i+1) ?_)))))))
              refine zb 1 [(17,(vI (i+1)))] (zq (zn (zG (i+1,false) ?_ ?_)))
              ·exact ⟨by omega,by rw [zdN,←hu,show u=false from hb136,show ((t.getD (num n (l-1)+(4*j+q)) Un.zero).nd.rs.get i).st=0 by omega,show ((t.getD (num n (l-1)+(4*j+q)) Un.zero).nd.es.get i).st=0 by omega];rfl,hEu⟩
              ·first | omega |(dsimp only;omega)
          ·obtain rfl:i=4:=by omega
           have hus:=zmh hs1
           refine wEt (zf (zP (zo (zo (zD (zc (zd (zd ?_))))))))
           refine zg ?_
           rcases Bool.eq_false_or_eq_true (u) with hb155 | hb155
           ·rw [hb155]
            refine zb 1 [(155,vT)] (wEt (zk (wsr (zb 1 [(156,(vP w10.heap.size 274))] (za (zm w10.heap.size 274 (((hBw12.ext hEw13).ext hEu).cell (zdu _)) ?_))))))
            refine zb 1 [(18,(.int .i64 ((t.getD (num n (l-1)+(4*j+q)) Un.zero).sl)))] (zM (zb 1 [(158,(vP w10.heap.size 275))] ?_))
            rcases Bool.eq_false_or_eq_true ((t.getD (num n (l-1)+(4*j+q)) Un.zero).dt) with hb159 | hb159
            ·have hsu:slU (t.getD (num n (l-1)+(4*j+q)) Un.zero)=1-(t.getD (num n (l-1)+(4*j+q)) Un.zero).sl:=if_pos hb159
             refine za (zm w10.heap.size 275 (Eq.trans (((hBw12.ext hEw13).ext hEu).cell (zdc _)) (congrArg (fun z=>some (Value.bool z)) hb159)) ?_)
             refine wEt (zk (zg (zb 1 [(160,(.int .i64 ((t.getD (num n (l-1)+(4*j+q)) Un.zero).sl)))] (za (zeR (some 161) .i64 (IntKind.i64.wrap (((1:Nat):Int)-((t.getD (num n (l-1)+(4*j+q)) Un.zero).sl))) (1-(t.getD (num n (l-1)+(4*j+q)) Un.zero).sl) (zao rfl) ?_)))))
             refine zb 1 [(18,(.int .i64 (1-(t.getD (num n (l-1)+(4*j+q)) Un.zero).sl)))] (zdx (zb 1 [(162,(.int .i64 (1-(t.getD (num n (l-1)+(4*j+q)) Un.zero).sl)))] (za (zeR (some 163) .i64 (IntKind.i64.wrap ((1-(t.getD (num n (l-1)+(4*j+q)) Un.zero).sl)+((1:Nat):Int))) (slU (t.getD (num n (l-1)+(4*j+q)) Un.zero)+1) (zao (by rw [hsu];rfl) (by have:=zet hs0;omega) (by have:=zet hs0;omega)) ?_))))
             refine za (zae (some 164) .u8 (IntKind.u8.wrap (slU (t.getD (num n (l-1)+(4*j+q)) Un.zero)+1)) ((slU (t.getD (num n (l-1)+(4*j+q)) Un.zero)+1).toNat%2^8) (slE hs0) ?_)
             refine zb 1 [(165,(vP w10.heap.size 0))] (za (zQ w10.heap.size 0 (((hBw12.ext hEw13).ext hEu).at 0 (zH (t.getD (num n (l-1)+(4*j+q)) Un.zero).nd) (zdE _)) (zN _) ?_))
             refine za (zt (zeG ((t.getD (num n (l-1)+(4*j+q)) Un.zero).nd) _) ?_)
             rintro _ w15 ⟨rfl,hEw15⟩
             have hzw15:=hEw15.size
             refine za (zaN (Instr.build 71 #[(0,(vB ((slU (t.getD (num n (l-1)+(4*j+q)) Un.zero)+1).toNat%2^8))),(1,(vA (zK (zX (zR ((t.getD (num n (l-1)+(4*j+q)) Un.zero).nd))))))]) (vA (zW (enU (t.getD (num n (l-1)+(4*j+q)) Un.zero)))) ((zcf ((slU (t.getD (num n (l-1)+(4*j+q)) Un.zero)+1).toNat%2^8) (zX (zR ((t.getD (num n (l-1)+(4*j+q)) Un.zero).nd))) (Nat.mod_lt _ (by decide))).trans (congrArg (fun z:Ent=>Result.ok (Value.agg (zW z).toArray) _) (show (⟨(slU (t.getD (num n (l-1)+(4*j+q)) Un.zero)+1).toNat%2^8,(zX (zR ((t.getD (num n (l-1)+(4*j+q)) Un.zero).nd))),Nat.mod_lt _ (by decide)⟩:Ent)=enU (t.getD (num n (l-1)+(4*j+q)) Un.zero) from by unfold enU;rw [if_neg (hus.1 (by rw [←hu];exact hb155))]))) ?_)
             refine za (zC 71 w12.heap.size 0 71 (vA (zW (enU (t.getD (num n (l-1)+(4*j+q)) Un.zero)))) (zW Ent.zero) (zW (enU (t.getD (num n (l-1)+(4*j+q)) Un.zero))) ((hBw13.ext hEu).ext hEw15) (by rw [zat];kernel_rfl) (by first |(simp;done)|(simp;omega)) (zch _) ?_)
             intro w16 hBw16 hCw16
             have hzw16:=hCw16.size
             rw [zv _ _ (by simp)] at hBw16
             refine wEt (zd (zY 7 (fun w17 hEw17 hzw17 hT616=> ?_)))
             refine ze hT616 [(0,169,(vI q)),(1,170,(vP w2.heap.size 0)),(2,171,(vP w2.heap.size 142))] 3 (zaP hT616 3 w2.heap.size 142 q 4 33 ?_)
             have hX10:=(Ext.own (hEw10.trans hEw11) hCw12 (by omega)).trans hEw13
             have hK5:=((((((hK2.ext hEn).ext hX10).ext hEu).ext hEw15).chg hCw16).ext hEw17)
             refine zaq hT616 4 w2.heap.size (142+q*33) (fun w' hC=>((hK5.ext hC).at (142+q*33) (zW ((t.getD (num n l+j) Un.zero).nd.es.get q)) (zhK (by omega)))) (zat _) (zaq hT616 5 w12.heap.size 0 (fun w' hC=>(((hBw16.ext hEw17).ext hC).all)) (zat _) ?_)
             rcases Bool.eq_false_or_eq_true (((t.getD (num n l+j) Un.zero).nd.es.get q).eqb (enU (t.getD (num n (l-1)+(4*j+q)) Un.zero))) with hq175 | hq175
             ·refine zr hT616 6 vF (zai (bo .neq 71 (.tmp 173) (.tmp 174) (vA (zW ((t.getD (num n l+j) Un.zero).nd.es.get q))) (vA (zW (enU (t.getD (num n (l-1)+(4*j+q)) Un.zero))))) (fun w' hC=>zaj (r:=true) (T:=71) ((za2 (dd:=9997) (t:=71) (t8:=5) (td:=59) (e:=5) ((t.getD (num n l+j) Un.zero).nd.es.get q) (enU (t.getD (num n (l-1)+(4*j+q)) Un.zero))).trans (congrArg (fun b=>Result.ok b _) (show (((t.getD (num n l+j) Un.zero).nd.es.get q).eqb (enU (t.getD (num n (l-1)+(4*j+q)) Un.zero)))=true from hq175))))) (zB (zc (zf (zl (zi (zc (zg (zb 1 [(118,(vI q))] (za (zJ 119 q 1 (q+1) ?_))))))))))
              refine zb 1 [(13,(vI (q+1)))] (zq (zn ?_))
              have hX11:Ext w7 w17:=((Ext.own (((hEn.trans hX10).trans hEu).trans hEw15) hCw16 (by omega)).trans hEw17)
              refine zG (q+1) ?_ ?_
              ·exact ⟨by omega,by omega,fun i hi=>by rcases Nat.lt_succ_iff_lt_or_eq.1 hi with h1 | rfl;exact hen i h1;exact (Ent.eqb_iff _ _).1 hq175,hX11⟩
              ·first | omega |(dsimp only;omega)
             ·refine zr hT616 6 vT (zai (bo .neq 71 (.tmp 173) (.tmp 174) (vA (zW ((t.getD (num n l+j) Un.zero).nd.es.get q))) (vA (zW (enU (t.getD (num n (l-1)+(4*j+q)) Un.zero))))) (fun w' hC=>zaj (r:=false) (T:=71) ((za2 (dd:=9997) (t:=71) (t8:=5) (td:=59) (e:=5) ((t.getD (num n l+j) Un.zero).nd.es.get q) (enU (t.getD (num n (l-1)+(4*j+q)) Un.zero))).trans (congrArg (fun b=>Result.ok b _) (show (((t.getD (num n l+j) Un.zero).nd.es.get q).eqb (enU (t.getD (num n (l-1)+(4*j+q)) Un.zero)))=false from hq175))))) (zB (zc (zk (wsr (zb 1 [(6,(vI 9))] (zF ?_))))))
              refine zu (zj (zj (zu (zj (zh (vI 9) ?_)))))
              have hX12:Ext w w17:=((Ext.own ((((hX9.trans hX8).trans hX10).trans hEu).trans hEw15) hCw16 (by omega)).trans hEw17)
              exact ⟨congrArg (fun z:Nat=>vI z) ((zdF hnm (fun hh=>by have h1:=((zb4.1 hh.2.2).resolve_left (by omega)) q (by omega);rw [(Ent.eqb_iff _ _).2 (show (t.getD (num n l+j) Un.zero).nd.es.get q=enU (t.getD (num n (l-1)+(4*j+q)) Un.zero) from h1)] at hq175;cases hq175)).symm),hX12⟩
            ·have hsu:slU (t.getD (num n (l-1)+(4*j+q)) Un.zero)=(t.getD (num n (l-1)+(4*j+q)) Un.zero).sl:=if_neg (by rw [hb159];decide)
             refine za (zm w10.heap.size 275 (Eq.trans (((hBw12.ext hEw13).ext hEu).cell (zdc _)) (congrArg (fun z=>some (Value.bool z)) hb159)) ?_)
             refine wEt (zf (zl (zc (zg (zb 1 [(162,(.int .i64 ((t.getD (num n (l-1)+(4*j+q)) Un.zero).sl)))] (za (zeR (some 163) .i64 (IntKind.i64.wrap (((t.getD (num n (l-1)+(4*j+q)) Un.zero).sl)+((1:Nat):Int))) (slU (t.getD (num n (l-1)+(4*j+q)) Un.zero)+1) (zao (by rw [hsu];rfl) (by have:=zet hs0;omega) (by have:=zet hs0;omega)) ?_)))))))
             refine za (zae (some 164) .u8 (IntKind.u8.wrap (slU (t.getD (num n (l-1)+(4*j+q)) Un.zero)+1)) ((slU (t.getD (num n (l-1)+(4*j+q)) Un.zero)+1).toNat%2^8) (slE hs0) ?_)
             refine zb 1 [(165,(vP w10.heap.size 0))] (za (zQ w10.heap.size 0 (((hBw12.ext hEw13).ext hEu).at 0 (zH (t.getD (num n (l-1)+(4*j+q)) Un.zero).nd) (zdE _)) (zN _) ?_))
             refine za (zt (zeG ((t.getD (num n (l-1)+(4*j+q)) Un.zero).nd) _) ?_)
             rintro _ w18 ⟨rfl,hEw18⟩
             have hzw18:=hEw18.size
             refine za (zaN (Instr.build 71 #[(0,(vB ((slU (t.getD (num n (l-1)+(4*j+q)) Un.zero)+1).toNat%2^8))),(1,(vA (zK (zX (zR ((t.getD (num n (l-1)+(4*j+q)) Un.zero).nd))))))]) (vA (zW (enU (t.getD (num n (l-1)+(4*j+q)) Un.zero)))) ((zcf ((slU (t.getD (num n (l-1)+(4*j+q)) Un.zero)+1).toNat%2^8) (zX (zR ((t.getD (num n (l-1)+(4*j+q)) Un.zero).nd))) (Nat.mod_lt _ (by decide))).trans (congrArg (fun z:Ent=>Result.ok (Value.agg (zW z).toArray) _) (show (⟨(slU (t.getD (num n (l-1)+(4*j+q)) Un.zero)+1).toNat%2^8,(zX (zR ((t.getD (num n (l-1)+(4*j+q)) Un.zero).nd))),Nat.mod_lt _ (by decide)⟩:Ent)=enU (t.getD (num n (l-1)+(4*j+q)) Un.zero) from by unfold enU;rw [if_neg (hus.1 (by rw [←hu];exact hb155))]))) ?_)
             refine za (zC 71 w12.heap.size 0 71 (vA (zW (enU (t.getD (num n (l-1)+(4*j+q)) Un.zero)))) (zW Ent.zero) (zW (enU (t.getD (num n (l-1)+(4*j+q)) Un.zero))) ((hBw13.ext hEu).ext hEw18) (by rw [zat];kernel_rfl) (by first |(simp;done)|(simp;omega)) (zch _) ?_)
             intro w19 hBw19 hCw19
             have hzw19:=hCw19.size
             rw [zv _ _ (by simp)] at hBw19
             refine wEt (zd (zY 7 (fun w20 hEw20 hzw20 hT683=> ?_)))
             refine ze hT683 [(0,169,(vI q)),(1,170,(vP w2.heap.size 0)),(2,171,(vP w2.heap.size 142))] 3 (zaP hT683 3 w2.heap.size 142 q 4 33 ?_)
             have hX13:=(Ext.own (hEw10.trans hEw11) hCw12 (by omega)).trans hEw13
             have hK6:=((((((hK2.ext hEn).ext hX13).ext hEu).ext hEw18).chg hCw19).ext hEw20)
             refine zaq hT683 4 w2.heap.size (142+q*33) (fun w' hC=>((hK6.ext hC).at (142+q*33) (zW ((t.getD (num n l+j) Un.zero).nd.es.get q)) (zhK (by omega)))) (zat _) (zaq hT683 5 w12.heap.size 0 (fun w' hC=>(((hBw19.ext hEw20).ext hC).all)) (zat _) ?_)
             rcases Bool.eq_false_or_eq_true (((t.getD (num n l+j) Un.zero).nd.es.get q).eqb (enU (t.getD (num n (l-1)+(4*j+q)) Un.zero))) with hq175 | hq175
             ·refine zr hT683 6 vF (zai (bo .neq 71 (.tmp 173) (.tmp 174) (vA (zW ((t.getD (num n l+j) Un.zero).nd.es.get q))) (vA (zW (enU (t.getD (num n (l-1)+(4*j+q)) Un.zero))))) (fun w' hC=>zaj (r:=true) (T:=71) ((za2 (dd:=9997) (t:=71) (t8:=5) (td:=59) (e:=5) ((t.getD (num n l+j) Un.zero).nd.es.get q) (enU (t.getD (num n (l-1)+(4*j+q)) Un.zero))).trans (congrArg (fun b=>Result.ok b _) (show (((t.getD (num n l+j) Un.zero).nd.es.get q).eqb (enU (t.getD (num n (l-1)+(4*j+q)) Un.zero)))=true from hq175))))) (zB (zc (zf (zl (zi (zc (zg (zb 1 [(118,(vI q))] (za (zJ 119 q 1 (q+1) ?_))))))))))
              refine zb 1 [(13,(vI (q+1)))] (zq (zn ?_))
              have hX14:Ext w7 w20:=((Ext.own (((hEn.trans hX13).trans hEu).trans hEw18) hCw19 (by omega)).trans hEw20)
              refine zG (q+1) ?_ ?_
              ·exact ⟨by omega,by omega,fun i hi=>by rcases Nat.lt_succ_iff_lt_or_eq.1 hi with h1 | rfl;exact hen i h1;exact (Ent.eqb_iff _ _).1 hq175,hX14⟩
              ·first | omega |(dsimp only;omega)
             ·refine zr hT683 6 vT (zai (bo .neq 71 (.tmp 173) (.tmp 174) (vA (zW ((t.getD (num n l+j) Un.zero).nd.es.get q))) (vA (zW (enU (t.getD (num n (l-1)+(4*j+q)) Un.zero))))) (fun w' hC=>zaj (r:=false) (T:=71) ((za2 (dd:=9997) (t:=71) (t8:=5) (td:=59) (e:=5) ((t.getD (num n l+j) Un.zero).nd.es.get q) (enU (t.getD (num n (l-1)+(4*j+q)) Un.zero))).trans (congrArg (fun b=>Result.ok b _) (show (((t.getD (num n l+j) Un.zero).nd.es.get q).eqb (enU (t.getD (num n (l-1)+(4*j+q)) Un.zero)))=false from hq175))))) (zB (zc (zk (wsr (zb 1 [(6,(vI 9))] (zF ?_))))))
              refine zu (zj (zj (zu (zj (zh (vI 9) ?_)))))
              have hX15:Ext w w20:=((Ext.own ((((hX9.trans hX8).trans hX13).trans hEu).trans hEw18) hCw19 (by omega)).trans hEw20)
              exact ⟨congrArg (fun z:Nat=>vI z) ((zdF hnm (fun hh=>by have h1:=((zb4.1 hh.2.2).resolve_left (by omega)) q (by omega);rw [(Ent.eqb_iff _ _).2 (show (t.getD (num n l+j) Un.zero).nd.es.get q=enU (t.getD (num n (l-1)+(4*j+q)) Un.zero) from h1)] at hq175;cases hq175)).symm),hX15⟩
           ·have hze:enU (t.getD (num n (l-1)+(4*j+q)) Un.zero)=Ent.zero:=by unfold enU;rw [if_pos (Classical.byContradiction fun hh=>by have h9:=hus.2 hh;rw [←hu,hb155] at h9;cases h9)]
            rw [hb155]
            rw [←hze] at hBw13
            refine zb 1 [(155,vF)] (wEt (zf (zl (zc (zd (zY 7 (fun w21 hEw21 hzw21 hT736=> ?_)))))))
            refine ze hT736 [(0,169,(vI q)),(1,170,(vP w2.heap.size 0)),(2,171,(vP w2.heap.size 142))] 3 (zaP hT736 3 w2.heap.size 142 q 4 33 ?_)
            have hX16:=(Ext.own (hEw10.trans hEw11) hCw12 (by omega)).trans hEw13
            have hK7:=((((hK2.ext hEn).ext hX16).ext hEu).ext hEw21)
            refine zaq hT736 4 w2.heap.size (142+q*33) (fun w' hC=>((hK7.ext hC).at (142+q*33) (zW ((t.getD (num n l+j) Un.zero).nd.es.get q)) (zhK (by omega)))) (zat _) (zaq hT736 5 w12.heap.size 0 (fun w' hC=>((((hBw13.ext hEu).ext hEw21).ext hC).all)) (zat _) ?_)
            rcases Bool.eq_false_or_eq_true (((t.getD (num n l+j) Un.zero).nd.es.get q).eqb (enU (t.getD (num n (l-1)+(4*j+q)) Un.zero))) with hq175 | hq175
            ·refine zr hT736 6 vF (zai (bo .neq 71 (.tmp 173) (.tmp 174) (vA (zW ((t.getD (num n l+j) Un.zero).nd.es.get q))) (vA (zW (enU (t.getD (num n (l-1)+(4*j+q)) Un.zero))))) (fun w' hC=>zaj (r:=true) (T:=71) ((za2 (dd:=9997) (t:=71) (t8:=5) (td:=59) (e:=5) ((t.getD (num n l+j) Un.zero).nd.es.get q) (enU (t.getD (num n (l-1)+(4*j+q)) Un.zero))).trans (congrArg (fun b=>Result.ok b _) (show (((t.getD (num n l+j) Un.zero).nd.es.get q).eqb (enU (t.getD (num n (l-1)+(4*j+q)) Un.zero)))=true from hq175))))) (zB (zc (zf (zl (zi (zc (zg (zb 1 [(118,(vI q))] (za (zJ 119 q 1 (q+1) ?_))))))))))
             refine zb 1 [(13,(vI (q+1)))] (zq (zn ?_))
             have hX17:Ext w7 w21:=(((hEn.trans hX16).trans hEu).trans hEw21)
             refine zG (q+1) ?_ ?_
             ·exact ⟨by omega,by omega,fun i hi=>by rcases Nat.lt_succ_iff_lt_or_eq.1 hi with h1 | rfl;exact hen i h1;exact (Ent.eqb_iff _ _).1 hq175,hX17⟩
             ·first | omega |(dsimp only;omega)
            ·refine zr hT736 6 vT (zai (bo .neq 71 (.tmp 173) (.tmp 174) (vA (zW ((t.getD (num n l+j) Un.zero).nd.es.get q))) (vA (zW (enU (t.getD (num n (l-1)+(4*j+q)) Un.zero))))) (fun w' hC=>zaj (r:=false) (T:=71) ((za2 (dd:=9997) (t:=71) (t8:=5) (td:=59) (e:=5) ((t.getD (num n l+j) Un.zero).nd.es.get q) (enU (t.getD (num n (l-1)+(4*j+q)) Un.zero))).trans (congrArg (fun b=>Result.ok b _) (show (((t.getD (num n l+j) Un.zero).nd.es.get q).eqb (enU (t.getD (num n (l-1)+(4*j+q)) Un.zero)))=false from hq175))))) (zB (zc (zk (wsr (zb 1 [(6,(vI 9))] (zF ?_))))))
             refine zu (zj (zj (zu (zj (zh (vI 9) ?_)))))
             have hX18:Ext w w21:=((((hX9.trans hX8).trans hX16).trans hEu).trans hEw21)
             exact ⟨congrArg (fun z:Nat=>vI z) ((zdF hnm (fun hh=>by have h1:=((zb4.1 hh.2.2).resolve_left (by omega)) q (by omega);rw [(Ent.eqb_iff _ _).2 (show (t.getD (num n l+j) Un.zero).nd.es.get q=enU (t.getD (num n (l-1)+(4*j+q)) Un.zero) from h1)] at hq175;cases hq175)).symm),hX18⟩
         ·have hdone:zfL n t l j=true:=zb4.2 (by rcases Classical.em (l=0) with h | h;exact .inl h;exact .inr fun w hw=>hen w (by omega))
          refine zb 1 [(117,vF)] (wEt (zf (zP (zo (zo (zD (zc (zd ?_))))))))
          refine zg (zb 1 [(6,(vI 0))] (zF (zh (vI 0) ?_)))
          have hX19:Ext w w9:=(((((Ext.own ((hEw1.trans hEw2).trans hEw3) hCw4 (by omega)).trans hEw5).trans hEl).trans hEm).trans hEn)
          exact ⟨congrArg (fun z:Nat=>vI z) ((zgC hnm hmrk (hq110.trans hdr) hdone).symm),hX19⟩
        ·have hdone:zfL n t l j=true:=zb4.2 (by rcases Classical.em (l=0) with h | h;exact .inl h;exact .inr fun w hw=>hen w (by omega))
         refine zb 4 [(117,vF),(116,undef),(115,undef),(114,vF)] (wEt (zf (zP (zo (zo (zD (zc (zd ?_))))))))
         refine zg (zb 1 [(6,(vI 0))] (zF (zh (vI 0) ?_)))
         have hX20:Ext w w9:=(((((Ext.own ((hEw1.trans hEw2).trans hEw3) hCw4 (by omega)).trans hEw5).trans hEl).trans hEm).trans hEn)
         exact ⟨congrArg (fun z:Nat=>vI z) ((zgC hnm hmrk (hq110.trans hdr) hdone).symm),hX20⟩
       ·refine za (zbn (some 110) (!((t.getD (num n l+j) Un.zero).dt==e)) true (bnT hq110) ?_)
        refine wEt (zk (wsr (zb 1 [(6,(vI 9))] (zF (zj ?_)))))
        refine zh (vI 9) ?_
        have hX21:Ext w w7:=((((Ext.own ((hEw1.trans hEw2).trans hEw3) hCw4 (by omega)).trans hEw5).trans hEl).trans hEm)
        exact ⟨congrArg (fun z:Nat=>vI z) ((zdF hnm (fun hh=>hq110 ((show (t.getD (num n l+j) Un.zero).dt=_ from hh.2.1).trans hdr.symm))).symm),hX21⟩
     ·have hdr:e=zcW n t l j:=he2.trans (zuW hmrk (by omega))
      refine zb 4 [(88,vF),(87,undef),(86,undef),(85,vF)] (wEt (zf (zP (zo (zo (zD (zc (zd ?_))))))))
      refine wsr (zb 1 [(107,(vP w2.heap.size 275))] ?_)
      have hK8:=(((hBw4.ext hEw5).ext hEl).ext hEm)
      refine za (zm w2.heap.size 275 (hK8.cell (zdc _)) ?_)
      refine zb 1 [(109,(.bool e))] ?_
      rcases Classical.em ((t.getD (num n l+j) Un.zero).dt=e) with hq110 | hq110
      ·refine za (zbn (some 110) (!((t.getD (num n l+j) Un.zero).dt==e)) false (bnF hq110) ?_)
       refine wEt (zf (zl (zc (zd (wsr (zb 1 [(13,(vI 0))] (zq ?_)))))))
       refine zc (zp (zU (X:=Nat) (fun q=> [(13,(vI q))]) [6,14,15,16,17,18,111,112,113,114,115,116,117,118,119,120,121,122,123,124,125,126,127,128,129,130,131,132,133,134,135,136,137,138,139,140,141,142,143,144,145,146,147,148,149,150,151,152,153,154,155,156,157,158,159,160,161,162,163,164,165,166,167,168,169,170,171,172,173,174,175] (fun q w22=>q≤prt n l j∧(l=0→q=0)∧(∀i,i<q→(t.getD (num n l+j) Un.zero).nd.es.get i=enU (t.getD (num n (l-1)+(4*j+i)) Un.zero))∧Ext w7 w22) (fun q=>4-q) 0 (by kernel_rfl) ⟨Nat.zero_le _,fun _=>rfl,fun i h=>absurd h (Nat.not_lt_zero _),Ext.refl _⟩ ?_))
       rintro q dw22 w22 ⟨hq2,hq3,hen,hEn⟩
       have hzn:=hEn.size
       refine zd (wsr (zb 2 [(112,(vI (prt n l j))),(111,(vI q))] (za (zag 113 q (prt n l j) (fun hc113=> ?_) (fun hc113=> ?_)))))
       ·refine zb 2 [(115,(vI l)),(114,vT)] (za (zcn 116 l 0 (fun hc116=> ?_) (fun hc116=> ?_)))
        ·have hpm:=zc1 (n:=n) (l:=l) (j:=j) (by omega) hp3 hp4 (w:=q) (by omega)
         obtain ⟨hs0,hs1⟩:=hp5 (by omega) q (by omega)
         refine zb 1 [(117,vT)] (wEt (zk (zl (zc (zd (zp (zd (zY 14 (fun w23 hEw23 hzw23 hT883=> ?_)))))))))
         refine ze hT883 [(0,120,(vP w.heap.size 1))] 1 ?_
         have hX22:=((hEw5.trans hEl).trans hEm).trans hEn
         have hK9:=(((((hBw1.ext hEw2).ext hEw3).chg hCw4).ext hX22).ext hEw23)
         refine zx hT883 1 w.heap.size 1 (fun w' hC=>((hK9.ext hC).cell rfl)) (ze hT883 [(2,122,(vI n)),(3,123,(vI l))] 2 (zr hT883 4 (vI (l-1)) (zac .i64 (IntKind.i64.wrap (((l:Nat):Int)-((1:Nat):Int))) (zao)) (ze hT883 [(5,125,(vI j))] 1 (zr hT883 6 (vI (4*j)) (zac .i64 (IntKind.i64.wrap (((4:Nat):Int)*((j:Nat):Int))) (zao)) (ze hT883 [(7,127,(vI q))] 1 (zr hT883 8 (vI (4*j+q)) (zac .i64 (IntKind.i64.wrap (((4*j:Nat):Int)+((q:Nat):Int))) (zao)) (zr hT883 9 (vI (num n (l-1)+(4*j+q))) (zcv (f:=27) (args:= #[(vI n),(vI (l-1)),(vI (4*j+q))]) (fun w' hC=>ze6 n (l-1) (4*j+q) _ (by omega) (by omega) (by omega) (by omega))) (zaD hT883 10 b1 o1 n_t c_t (num n (l-1)+(4*j+q)) 280 ?_))))))))
         have hX23:=Ext.own ((hEw1.trans hEw2).trans hEw3) hCw4 (by omega)
         have hK10:=(((h_t.ext hX23).ext hX22).ext hEw23)
         refine zaq hT883 11 b1 (o1+(num n (l-1)+(4*j+q))*280) (fun w' hC=>((hK10.ext hC).at Un.zero (by omega))) (zI _) (zy 12 (zad (unC Un.zero) 77 ?_))
         intro w24 hBw24 hEw24 hzw24 hlw24
         refine ⟨.inr hEw24, ?_⟩
         refine zy 13 (zC 77 w23.heap.size 0 77 (vA (unC (t.getD (num n (l-1)+(4*j+q)) Un.zero))) (unC Un.zero) (unC (t.getD (num n (l-1)+(4*j+q)) Un.zero)) hBw24 (by rw [zI];kernel_rfl) (by first |(simp;done)|(simp;omega)) (za7 _) ?_)
         intro w25 hBw25 hCw25
         have hzw25:=hCw25.size
         rw [zv _ _ (by simp)] at hBw25
         refine ⟨.inl (by kernel_rfl), ?_⟩
         refine zB (zc (wsr (za (zad (zW Ent.zero) 71 ?_))))
         intro w26 hBw26 hEw26 hzw26 hlw26
         refine zz (zb 1 [(16,vF)] (zM ?_))
         refine zb 1 [(17,(vI 0))] (wEt (zp (zU (X:=Nat×Bool) (fun ⟨i,u⟩=> [(16,(.bool u)),(17,(vI i))]) [132,133,134,135,136,137,138,139,140,141,142,143,144,145,146,147,148,149,150,151,152,153,154] (fun ⟨i,u⟩ w27=>i≤4∧u=zji (t.getD (num n (l-1)+(4*j+q)) Un.zero).nd i∧Ext w26 w27) (fun ⟨i,u⟩=>4-i) (0,false) (by kernel_rfl) ⟨by omega,rfl,Ext.refl _⟩ ?_)))
         rintro ⟨i,u⟩ dw27 w27 ⟨hi,hu,hEu⟩
         have hzu:=hEu.size
         refine zd (wsr (zb 1 [(132,(vI i))] (za (zag 133 i 4 (fun hc133=> ?_) (fun hc133=> ?_)))))
         ·refine wEt (zk (zl (zc (zd (zp (zg ?_))))))
          rcases Bool.eq_false_or_eq_true (u) with hb136 | hb136
          ·rw [hb136]
           refine zb 20 [(16,vT),(154,vT),(153,undef),(152,undef),(151,undef),(150,undef),(149,undef),(148,undef),(147,undef),(146,vT),(145,vT),(144,undef),(143,undef),(142,undef),(141,undef),(140,undef),(139,undef),(138,undef),(137,vT),(136,vT)] (zq (zi (zc (zg (zb 1 [(134,(vI i))] (za (zJ 135 i 1 (i+1) ?_)))))))
           refine zb 1 [(17,(vI (i+1)))] (zq (zn (zG (i+1,true) ?_ ?_)))
           ·exact ⟨by omega,by rw [zdN,←hu,show u=true from hb136];rfl,hEu⟩
           ·first | omega |(dsimp only;omega)
          ·rw [hb136]
           refine zb 5 [(140,(vP w23.heap.size 2)),(139,(vP w23.heap.size 0)),(138,(vI i)),(137,vF),(136,vF)] (za (zaW w23.heap.size 2 i 4 35 ?_))
           refine zb 1 [(142,(vP w23.heap.size (2+i*35)))] (za (zm w23.heap.size (2+i*35) (((hBw25.ext hEw26).ext hEu).cell (zhJ (by omega))) ?_))
           refine za (zcn 144 (((t.getD (num n (l-1)+(4*j+q)) Un.zero).nd.rs.get i).st) 0 (fun hc144=> ?_) (fun hc144=> ?_))
           ·refine zb 11 [(16,vT),(154,vT),(153,undef),(152,undef),(151,undef),(150,undef),(149,undef),(148,undef),(147,undef),(146,vT),(145,vT)] (zq (zi (zc (zg (zb 1 [(134,(vI i))] (za (zJ 135 i 1 (i+1) ?_)))))))
            refine zb 1 [(17,(vI (i+1)))] (zq (zn (zG (i+1,true) ?_ ?_)))
            ·exact ⟨by omega,by rw [zdN,bne_iff_ne.2 (show ((t.getD (num n (l-1)+(4*j+q)) Un.zero).nd.rs.get i).st≠0 by omega),Bool.true_or,Bool.or_true],hEu⟩
            ·first | omega |(dsimp only;omega)
           ·refine zb 5 [(149,(vP w23.heap.size 142)),(148,(vP w23.heap.size 0)),(147,(vI i)),(146,vF),(145,vF)] (za (zaW w23.heap.size 142 i 4 33 ?_))
            refine zb 1 [(151,(vP w23.heap.size (142+i*33)))] (za (zm w23.heap.size (142+i*33) (((hBw25.ext hEw26).ext hEu).cell (zqi (by omega))) ?_))
            refine za (zcn 153 (((t.getD (num n (l-1)+(4*j+q)) Un.zero).nd.es.get i).st) 0 (fun hc153=> ?_) (fun hc153=> ?_))
            ·refine zb 2 [(16,vT),(154,vT)] (zq (zi (zc (zg (zb 1 [(134,(vI i))] (za (zJ 135 i 1 (i+1) ?_)))))))
             refine zb 1 [(17,(vI (i+1)))] (zq (zn (zG (i+1,true) ?_ ?_)))
             ·exact ⟨by omega,by rw [zdN,bne_iff_ne.2 (show ((t.getD (num n (l-1)+(4*j+q)) Un.zero).nd.es.get i).st≠0 by omega),Bool.or_true,Bool.or_true],hEu⟩
             ·first | omega |(dsimp only;omega)
            ·refine zb 2 [(16,vF),(154,vF)] (zq (zi (zc (zg (zb 1 [(134,(vI i))] (za (zJ 135 i 1 (i+1) ?_)))))))
             refine zb 1 [(17,(vI (i+1)))] (zq (zn (zG (i+1,false) ?_ ?_)))
             ·exact ⟨by omega,by rw [zdN,←hu,show u=false from hb136,show ((t.getD (num n (l-1)+(4*j+q)) Un.zero).nd.rs.get i).st=0 by omega,show ((t.getD (num n (l-1)+(4*j+q)) Un.zero).nd.es.get i).st=0 by omega];rfl,hEu⟩
             ·first | omega |(dsimp only;omega)
         ·obtain rfl:i=4:=by omega
          have hus:=zmh hs1
          refine wEt (zf (zP (zo (zo (zD (zc (zd (zd ?_))))))))
          refine zg ?_
          rcases Bool.eq_false_or_eq_true (u) with hb155 | hb155
          ·rw [hb155]
           refine zb 1 [(155,vT)] (wEt (zk (wsr (zb 1 [(156,(vP w23.heap.size 274))] (za (zm w23.heap.size 274 (((hBw25.ext hEw26).ext hEu).cell (zdu _)) ?_))))))
           refine zb 1 [(18,(.int .i64 ((t.getD (num n (l-1)+(4*j+q)) Un.zero).sl)))] (zM (zb 1 [(158,(vP w23.heap.size 275))] ?_))
           rcases Bool.eq_false_or_eq_true ((t.getD (num n (l-1)+(4*j+q)) Un.zero).dt) with hb159 | hb159
           ·have hsu:slU (t.getD (num n (l-1)+(4*j+q)) Un.zero)=1-(t.getD (num n (l-1)+(4*j+q)) Un.zero).sl:=if_pos hb159
            refine za (zm w23.heap.size 275 (Eq.trans (((hBw25.ext hEw26).ext hEu).cell (zdc _)) (congrArg (fun z=>some (Value.bool z)) hb159)) ?_)
            refine wEt (zk (zg (zb 1 [(160,(.int .i64 ((t.getD (num n (l-1)+(4*j+q)) Un.zero).sl)))] (za (zeR (some 161) .i64 (IntKind.i64.wrap (((1:Nat):Int)-((t.getD (num n (l-1)+(4*j+q)) Un.zero).sl))) (1-(t.getD (num n (l-1)+(4*j+q)) Un.zero).sl) (zao rfl) ?_)))))
            refine zb 1 [(18,(.int .i64 (1-(t.getD (num n (l-1)+(4*j+q)) Un.zero).sl)))] (zdx (zb 1 [(162,(.int .i64 (1-(t.getD (num n (l-1)+(4*j+q)) Un.zero).sl)))] (za (zeR (some 163) .i64 (IntKind.i64.wrap ((1-(t.getD (num n (l-1)+(4*j+q)) Un.zero).sl)+((1:Nat):Int))) (slU (t.getD (num n (l-1)+(4*j+q)) Un.zero)+1) (zao (by rw [hsu];rfl) (by have:=zet hs0;omega) (by have:=zet hs0;omega)) ?_))))
            refine za (zae (some 164) .u8 (IntKind.u8.wrap (slU (t.getD (num n (l-1)+(4*j+q)) Un.zero)+1)) ((slU (t.getD (num n (l-1)+(4*j+q)) Un.zero)+1).toNat%2^8) (slE hs0) ?_)
            refine zb 1 [(165,(vP w23.heap.size 0))] (za (zQ w23.heap.size 0 (((hBw25.ext hEw26).ext hEu).at 0 (zH (t.getD (num n (l-1)+(4*j+q)) Un.zero).nd) (zdE _)) (zN _) ?_))
            refine za (zt (zeG ((t.getD (num n (l-1)+(4*j+q)) Un.zero).nd) _) ?_)
            rintro _ w28 ⟨rfl,hEw28⟩
            have hzw28:=hEw28.size
            refine za (zaN (Instr.build 71 #[(0,(vB ((slU (t.getD (num n (l-1)+(4*j+q)) Un.zero)+1).toNat%2^8))),(1,(vA (zK (zX (zR ((t.getD (num n (l-1)+(4*j+q)) Un.zero).nd))))))]) (vA (zW (enU (t.getD (num n (l-1)+(4*j+q)) Un.zero)))) ((zcf ((slU (t.getD (num n (l-1)+(4*j+q)) Un.zero)+1).toNat%2^8) (zX (zR ((t.getD (num n (l-1)+(4*j+q)) Un.zero).nd))) (Nat.mod_lt _ (by decide))).trans (congrArg (fun z:Ent=>Result.ok (Value.agg (zW z).toArray) _) (show (⟨(slU (t.getD (num n (l-1)+(4*j+q)) Un.zero)+1).toNat%2^8,(zX (zR ((t.getD (num n (l-1)+(4*j+q)) Un.zero).nd))),Nat.mod_lt _ (by decide)⟩:Ent)=enU (t.getD (num n (l-1)+(4*j+q)) Un.zero) from by unfold enU;rw [if_neg (hus.1 (by rw [←hu];exact hb155))]))) ?_)
            refine za (zC 71 w25.heap.size 0 71 (vA (zW (enU (t.getD (num n (l-1)+(4*j+q)) Un.zero)))) (zW Ent.zero) (zW (enU (t.getD (num n (l-1)+(4*j+q)) Un.zero))) ((hBw26.ext hEu).ext hEw28) (by rw [zat];kernel_rfl) (by first |(simp;done)|(simp;omega)) (zch _) ?_)
            intro w29 hBw29 hCw29
            have hzw29:=hCw29.size
            rw [zv _ _ (by simp)] at hBw29
            refine wEt (zd (zY 7 (fun w30 hEw30 hzw30 hT1067=> ?_)))
            refine ze hT1067 [(0,169,(vI q)),(1,170,(vP w2.heap.size 0)),(2,171,(vP w2.heap.size 142))] 3 (zaP hT1067 3 w2.heap.size 142 q 4 33 ?_)
            have hX24:=(Ext.own (hEw23.trans hEw24) hCw25 (by omega)).trans hEw26
            have hK11:=((((((hK8.ext hEn).ext hX24).ext hEu).ext hEw28).chg hCw29).ext hEw30)
            refine zaq hT1067 4 w2.heap.size (142+q*33) (fun w' hC=>((hK11.ext hC).at (142+q*33) (zW ((t.getD (num n l+j) Un.zero).nd.es.get q)) (zhK (by omega)))) (zat _) (zaq hT1067 5 w25.heap.size 0 (fun w' hC=>(((hBw29.ext hEw30).ext hC).all)) (zat _) ?_)
            rcases Bool.eq_false_or_eq_true (((t.getD (num n l+j) Un.zero).nd.es.get q).eqb (enU (t.getD (num n (l-1)+(4*j+q)) Un.zero))) with hq175 | hq175
            ·refine zr hT1067 6 vF (zai (bo .neq 71 (.tmp 173) (.tmp 174) (vA (zW ((t.getD (num n l+j) Un.zero).nd.es.get q))) (vA (zW (enU (t.getD (num n (l-1)+(4*j+q)) Un.zero))))) (fun w' hC=>zaj (r:=true) (T:=71) ((za2 (dd:=9997) (t:=71) (t8:=5) (td:=59) (e:=5) ((t.getD (num n l+j) Un.zero).nd.es.get q) (enU (t.getD (num n (l-1)+(4*j+q)) Un.zero))).trans (congrArg (fun b=>Result.ok b _) (show (((t.getD (num n l+j) Un.zero).nd.es.get q).eqb (enU (t.getD (num n (l-1)+(4*j+q)) Un.zero)))=true from hq175))))) (zB (zc (zf (zl (zi (zc (zg (zb 1 [(118,(vI q))] (za (zJ 119 q 1 (q+1) ?_))))))))))
             refine zb 1 [(13,(vI (q+1)))] (zq (zn ?_))
             have hX25:Ext w7 w30:=((Ext.own (((hEn.trans hX24).trans hEu).trans hEw28) hCw29 (by omega)).trans hEw30)
             refine zG (q+1) ?_ ?_
             ·exact ⟨by omega,by omega,fun i hi=>by rcases Nat.lt_succ_iff_lt_or_eq.1 hi with h1 | rfl;exact hen i h1;exact (Ent.eqb_iff _ _).1 hq175,hX25⟩
             ·first | omega |(dsimp only;omega)
            ·refine zr hT1067 6 vT (zai (bo .neq 71 (.tmp 173) (.tmp 174) (vA (zW ((t.getD (num n l+j) Un.zero).nd.es.get q))) (vA (zW (enU (t.getD (num n (l-1)+(4*j+q)) Un.zero))))) (fun w' hC=>zaj (r:=false) (T:=71) ((za2 (dd:=9997) (t:=71) (t8:=5) (td:=59) (e:=5) ((t.getD (num n l+j) Un.zero).nd.es.get q) (enU (t.getD (num n (l-1)+(4*j+q)) Un.zero))).trans (congrArg (fun b=>Result.ok b _) (show (((t.getD (num n l+j) Un.zero).nd.es.get q).eqb (enU (t.getD (num n (l-1)+(4*j+q)) Un.zero)))=false from hq175))))) (zB (zc (zk (wsr (zb 1 [(6,(vI 9))] (zF ?_))))))
             refine zu (zj (zj (zu (zj (zh (vI 9) ?_)))))
             have hX26:Ext w w30:=((Ext.own ((((hX23.trans hX22).trans hX24).trans hEu).trans hEw28) hCw29 (by omega)).trans hEw30)
             exact ⟨congrArg (fun z:Nat=>vI z) ((zdF hnm (fun hh=>by have h1:=((zb4.1 hh.2.2).resolve_left (by omega)) q (by omega);rw [(Ent.eqb_iff _ _).2 (show (t.getD (num n l+j) Un.zero).nd.es.get q=enU (t.getD (num n (l-1)+(4*j+q)) Un.zero) from h1)] at hq175;cases hq175)).symm),hX26⟩
           ·have hsu:slU (t.getD (num n (l-1)+(4*j+q)) Un.zero)=(t.getD (num n (l-1)+(4*j+q)) Un.zero).sl:=if_neg (by rw [hb159];decide)
            refine za (zm w23.heap.size 275 (Eq.trans (((hBw25.ext hEw26).ext hEu).cell (zdc _)) (congrArg (fun z=>some (Value.bool z)) hb159)) ?_)
            refine wEt (zf (zl (zc (zg (zb 1 [(162,(.int .i64 ((t.getD (num n (l-1)+(4*j+q)) Un.zero).sl)))] (za (zeR (some 163) .i64 (IntKind.i64.wrap (((t.getD (num n (l-1)+(4*j+q)) Un.zero).sl)+((1:Nat):Int))) (slU (t.getD (num n (l-1)+(4*j+q)) Un.zero)+1) (zao (by rw [hsu];rfl) (by have:=zet hs0;omega) (by have:=zet hs0;omega)) ?_)))))))
            refine za (zae (some 164) .u8 (IntKind.u8.wrap (slU (t.getD (num n (l-1)+(4*j+q)) Un.zero)+1)) ((slU (t.getD (num n (l-1)+(4*j+q)) Un.zero)+1).toNat%2^8) (slE hs0) ?_)
            refine zb 1 [(165,(vP w23.heap.size 0))] (za (zQ w23.heap.size 0 (((hBw25.ext hEw26).ext hEu).at 0 (zH (t.getD (num n (l-1)+(4*j+q)) Un.zero).nd) (zdE _)) (zN _) ?_))
            refine za (zt (zeG ((t.getD (num n (l-1)+(4*j+q)) Un.zero).nd) _) ?_)
            rintro _ w31 ⟨rfl,hEw31⟩
            have hzw31:=hEw31.size
            refine za (zaN (Instr.build 71 #[(0,(vB ((slU (t.getD (num n (l-1)+(4*j+q)) Un.zero)+1).toNat%2^8))),(1,(vA (zK (zX (zR ((t.getD (num n (l-1)+(4*j+q)) Un.zero).nd))))))]) (vA (zW (enU (t.getD (num n (l-1)+(4*j+q)) Un.zero)))) ((zcf ((slU (t.getD (num n (l-1)+(4*j+q)) Un.zero)+1).toNat%2^8) (zX (zR ((t.getD (num n (l-1)+(4*j+q)) Un.zero).nd))) (Nat.mod_lt _ (by decide))).trans (congrArg (fun z:Ent=>Result.ok (Value.agg (zW z).toArray) _) (show (⟨(slU (t.getD (num n (l-1)+(4*j+q)) Un.zero)+1).toNat%2^8,(zX (zR ((t.getD (num n (l-1)+(4*j+q)) Un.zero).nd))),Nat.mod_lt _ (by decide)⟩:Ent)=enU (t.getD (num n (l-1)+(4*j+q)) Un.zero) from by unfold enU;rw [if_neg (hus.1 (by rw [←hu];exact hb155))]))) ?_)
            refine za (zC 71 w25.heap.size 0 71 (vA (zW (enU (t.getD (num n (l-1)+(4*j+q)) Un.zero)))) (zW Ent.zero) (zW (enU (t.getD (num n (l-1)+(4*j+q)) Un.zero))) ((hBw26.ext hEu).ext hEw31) (by rw [zat];kernel_rfl) (by first |(simp;done)|(simp;omega)) (zch _) ?_)
            intro w32 hBw32 hCw32
            have hzw32:=hCw32.size
            rw [zv _ _ (by simp)] at hBw32
            refine wEt (zd (zY 7 (fun w33 hEw33 hzw33 hT1134=> ?_)))
            refine ze hT1134 [(0,169,(vI q)),(1,170,(vP w2.heap.size 0)),(2,171,(vP w2.heap.size 142))] 3 (zaP hT1134 3 w2.heap.size 142 q 4 33 ?_)
            have hX27:=(Ext.own (hEw23.trans hEw24) hCw25 (by omega)).trans hEw26
            have hK12:=((((((hK8.ext hEn).ext hX27).ext hEu).ext hEw31).chg hCw32).ext hEw33)
            refine zaq hT1134 4 w2.heap.size (142+q*33) (fun w' hC=>((hK12.ext hC).at (142+q*33) (zW ((t.getD (num n l+j) Un.zero).nd.es.get q)) (zhK (by omega)))) (zat _) (zaq hT1134 5 w25.heap.size 0 (fun w' hC=>(((hBw32.ext hEw33).ext hC).all)) (zat _) ?_)
            rcases Bool.eq_false_or_eq_true (((t.getD (num n l+j) Un.zero).nd.es.get q).eqb (enU (t.getD (num n (l-1)+(4*j+q)) Un.zero))) with hq175 | hq175
            ·refine zr hT1134 6 vF (zai (bo .neq 71 (.tmp 173) (.tmp 174) (vA (zW ((t.getD (num n l+j) Un.zero).nd.es.get q))) (vA (zW (enU (t.getD (num n (l-1)+(4*j+q)) Un.zero))))) (fun w' hC=>zaj (r:=true) (T:=71) ((za2 (dd:=9997) (t:=71) (t8:=5) (td:=59) (e:=5) ((t.getD (num n l+j) Un.zero).nd.es.get q) (enU (t.getD (num n (l-1)+(4*j+q)) Un.zero))).trans (congrArg (fun b=>Result.ok b _) (show (((t.getD (num n l+j) Un.zero).nd.es.get q).eqb (enU (t.getD (num n (l-1)+(4*j+q)) Un.zero)))=true from hq175))))) (zB (zc (zf (zl (zi (zc (zg (zb 1 [(118,(vI q))] (za (zJ 119 q 1 (q+1) ?_))))))))))
             refine zb 1 [(13,(vI (q+1)))] (zq (zn ?_))
             have hX28:Ext w7 w33:=((Ext.own (((hEn.trans hX27).trans hEu).trans hEw31) hCw32 (by omega)).trans hEw33)
             refine zG (q+1) ?_ ?_
             ·exact ⟨by omega,by omega,fun i hi=>by rcases Nat.lt_succ_iff_lt_or_eq.1 hi with h1 | rfl;exact hen i h1;exact (Ent.eqb_iff _ _).1 hq175,hX28⟩
             ·first | omega |(dsimp only;omega)
            ·refine zr hT1134 6 vT (zai (bo .neq 71 (.tmp 173) (.tmp 174) (vA (zW ((t.getD (num n l+j) Un.zero).nd.es.get q))) (vA (zW (enU (t.getD (num n (l-1)+(4*j+q)) Un.zero))))) (fun w' hC=>zaj (r:=false) (T:=71) ((za2 (dd:=9997) (t:=71) (t8:=5) (td:=59) (e:=5) ((t.getD (num n l+j) Un.zero).nd.es.get q) (enU (t.getD (num n (l-1)+(4*j+q)) Un.zero))).trans (congrArg (fun b=>Result.ok b _) (show (((t.getD (num n l+j) Un.zero).nd.es.get q).eqb (enU (t.getD (num n (l-1)+(4*j+q)) Un.zero)))=false from hq175))))) (zB (zc (zk (wsr (zb 1 [(6,(vI 9))] (zF ?_))))))
             refine zu (zj (zj (zu (zj (zh (vI 9) ?_)))))
             have hX29:Ext w w33:=((Ext.own ((((hX23.trans hX22).trans hX27).trans hEu).trans hEw31) hCw32 (by omega)).trans hEw33)
             exact ⟨congrArg (fun z:Nat=>vI z) ((zdF hnm (fun hh=>by have h1:=((zb4.1 hh.2.2).resolve_left (by omega)) q (by omega);rw [(Ent.eqb_iff _ _).2 (show (t.getD (num n l+j) Un.zero).nd.es.get q=enU (t.getD (num n (l-1)+(4*j+q)) Un.zero) from h1)] at hq175;cases hq175)).symm),hX29⟩
          ·have hze:enU (t.getD (num n (l-1)+(4*j+q)) Un.zero)=Ent.zero:=by unfold enU;rw [if_pos (Classical.byContradiction fun hh=>by have h9:=hus.2 hh;rw [←hu,hb155] at h9;cases h9)]
           rw [hb155]
           rw [←hze] at hBw26
           refine zb 1 [(155,vF)] (wEt (zf (zl (zc (zd (zY 7 (fun w34 hEw34 hzw34 hT1187=> ?_)))))))
           refine ze hT1187 [(0,169,(vI q)),(1,170,(vP w2.heap.size 0)),(2,171,(vP w2.heap.size 142))] 3 (zaP hT1187 3 w2.heap.size 142 q 4 33 ?_)
           have hX30:=(Ext.own (hEw23.trans hEw24) hCw25 (by omega)).trans hEw26
           have hK13:=((((hK8.ext hEn).ext hX30).ext hEu).ext hEw34)
           refine zaq hT1187 4 w2.heap.size (142+q*33) (fun w' hC=>((hK13.ext hC).at (142+q*33) (zW ((t.getD (num n l+j) Un.zero).nd.es.get q)) (zhK (by omega)))) (zat _) (zaq hT1187 5 w25.heap.size 0 (fun w' hC=>((((hBw26.ext hEu).ext hEw34).ext hC).all)) (zat _) ?_)
           rcases Bool.eq_false_or_eq_true (((t.getD (num n l+j) Un.zero).nd.es.get q).eqb (enU (t.getD (num n (l-1)+(4*j+q)) Un.zero))) with hq175 | hq175
           ·refine zr hT1187 6 vF (zai (bo .neq 71 (.tmp 173) (.tmp 174) (vA (zW ((t.getD (num n l+j) Un.zero).nd.es.get q))) (vA (zW (enU (t.getD (num n (l-1)+(4*j+q)) Un.zero))))) (fun w' hC=>zaj (r:=true) (T:=71) ((za2 (dd:=9997) (t:=71) (t8:=5) (td:=59) (e:=5) ((t.getD (num n l+j) Un.zero).nd.es.get q) (enU (t.getD (num n (l-1)+(4*j+q)) Un.zero))).trans (congrArg (fun b=>Result.ok b _) (show (((t.getD (num n l+j) Un.zero).nd.es.get q).eqb (enU (t.getD (num n (l-1)+(4*j+q)) Un.zero)))=true from hq175))))) (zB (zc (zf (zl (zi (zc (zg (zb 1 [(118,(vI q))] (za (zJ 119 q 1 (q+1) ?_))))))))))
            refine zb 1 [(13,(vI (q+1)))] (zq (zn ?_))
            have hX31:Ext w7 w34:=(((hEn.trans hX30).trans hEu).trans hEw34)
            refine zG (q+1) ?_ ?_
            ·exact ⟨by omega,by omega,fun i hi=>by rcases Nat.lt_succ_iff_lt_or_eq.1 hi with h1 | rfl;exact hen i h1;exact (Ent.eqb_iff _ _).1 hq175,hX31⟩
            ·first | omega |(dsimp only;omega)
           ·refine zr hT1187 6 vT (zai (bo .neq 71 (.tmp 173) (.tmp 174) (vA (zW ((t.getD (num n l+j) Un.zero).nd.es.get q))) (vA (zW (enU (t.getD (num n (l-1)+(4*j+q)) Un.zero))))) (fun w' hC=>zaj (r:=false) (T:=71) ((za2 (dd:=9997) (t:=71) (t8:=5) (td:=59) (e:=5) ((t.getD (num n l+j) Un.zero).nd.es.get q) (enU (t.getD (num n (l-1)+(4*j+q)) Un.zero))).trans (congrArg (fun b=>Result.ok b _) (show (((t.getD (num n l+j) Un.zero).nd.es.get q).eqb (enU (t.getD (num n (l-1)+(4*j+q)) Un.zero)))=false from hq175))))) (zB (zc (zk (wsr (zb 1 [(6,(vI 9))] (zF ?_))))))
            refine zu (zj (zj (zu (zj (zh (vI 9) ?_)))))
            have hX32:Ext w w34:=((((hX23.trans hX22).trans hX30).trans hEu).trans hEw34)
            exact ⟨congrArg (fun z:Nat=>vI z) ((zdF hnm (fun hh=>by have h1:=((zb4.1 hh.2.2).resolve_left (by omega)) q (by omega);rw [(Ent.eqb_iff _ _).2 (show (t.getD (num n l+j) Un.zero).nd.es.get q=enU (t.getD (num n (l-1)+(4*j+q)) Un.zero) from h1)] at hq175;cases hq175)).symm),hX32⟩
        ·have hdone:zfL n t l j=true:=zb4.2 (by rcases Classical.em (l=0) with h | h;exact .inl h;exact .inr fun w hw=>hen w (by omega))
         refine zb 1 [(117,vF)] (wEt (zf (zP (zo (zo (zD (zc (zd ?_))))))))
         refine zg (zb 1 [(6,(vI 0))] (zF (zh (vI 0) ?_)))
         have hX33:Ext w w22:=(((((Ext.own ((hEw1.trans hEw2).trans hEw3) hCw4 (by omega)).trans hEw5).trans hEl).trans hEm).trans hEn)
         exact ⟨congrArg (fun z:Nat=>vI z) ((zgC hnm hmrk (hq110.trans hdr) hdone).symm),hX33⟩
       ·have hdone:zfL n t l j=true:=zb4.2 (by rcases Classical.em (l=0) with h | h;exact .inl h;exact .inr fun w hw=>hen w (by omega))
        refine zb 4 [(117,vF),(116,undef),(115,undef),(114,vF)] (wEt (zf (zP (zo (zo (zD (zc (zd ?_))))))))
        refine zg (zb 1 [(6,(vI 0))] (zF (zh (vI 0) ?_)))
        have hX34:Ext w w22:=(((((Ext.own ((hEw1.trans hEw2).trans hEw3) hCw4 (by omega)).trans hEw5).trans hEl).trans hEm).trans hEn)
        exact ⟨congrArg (fun z:Nat=>vI z) ((zgC hnm hmrk (hq110.trans hdr) hdone).symm),hX34⟩
      ·refine za (zbn (some 110) (!((t.getD (num n l+j) Un.zero).dt==e)) true (bnT hq110) ?_)
       refine wEt (zk (wsr (zb 1 [(6,(vI 9))] (zF (zj ?_)))))
       refine zh (vI 9) ?_
       have hX35:Ext w w7:=((((Ext.own ((hEw1.trans hEw2).trans hEw3) hCw4 (by omega)).trans hEw5).trans hEl).trans hEm)
       exact ⟨congrArg (fun z:Nat=>vI z) ((zdF hnm (fun hh=>hq110 ((show (t.getD (num n l+j) Un.zero).dt=_ from hh.2.1).trans hdr.symm))).symm),hX35⟩
end Go.Proofs.YtkmhgepdhilllaaGreatDoor
namespace Go.Proofs.YtkmhgepdhilllaaGreatDoor
open Go Go.RowKit Go.Cs
set_option maxRecDepth 100000
theorem zrv (n:Int) {lo_t hi_t:Nat} {a_t:Option Addr} {n_t c_t:Nat} {t:List Un} (w:World) (h_t:Ms unC 280 lo_t hi_t w a_t n_t c_t t) (hp0:n<1):
  Calls Tryz.prog 41 #[(vA [(.int .i64 n),(.slice a_t n_t c_t)])] w (Ret fun r w'=>r=(vI 1)∧Ext w w'):=by
 refine zw (n:=67) (σ:= [(0,(vA [(.int .i64 n),(.slice a_t n_t c_t)]))]) Tryz.func41 rfl ?_
 replace h_t:=h_t.now;have hle_t:=h_t.le
 have hlt:=h_t.len_eq;have hle:=h_t.le
 refine wsr (za (zS (Instr.box 38 (vA [(.int .i64 n),(.slice a_t n_t c_t)])) (vP w.heap.size 0) ([(.int .i64 n),(.slice a_t n_t c_t)]) 38 ?_))
 intro w1 hBw1 hEw1 hzw1 hlw1
 refine zb 1 [(2,(vI 0))] (zz (zb 1 [(8,(vP w.heap.size 0))] (za (zm w.heap.size 0 (hBw1.cell rfl) ?_))))
 refine zb 1 [(3,(.int .i64 n))] (wEt (zd (zd (zY 14 (fun w2 hEw2 hzw2 hT21=> ?_)))))
 refine ze hT21 [(0,10,(.int .i64 n))] 1 (zr hT21 1 vT (zaS (decide (n<((1:Nat):Int))) (zeA)) (ze hT21 [(2,12,vT),(3,13,undef),(4,14,undef),(5,15,vT),(6,16,vT),(7,17,undef),(8,18,undef),(9,19,undef),(10,20,undef),(11,21,undef),(12,22,undef),(13,23,vT)] 12 (zB (zc (zk (wsr (zb 1 [(2,(vI 1))] (zq ?_))))))))
 exact zc (zaH (zj (zh (vI 1) (⟨rfl,(hEw1.trans hEw2)⟩))))
theorem zra (n:Int) {lo_t hi_t:Nat} {a_t:Option Addr} {n_t c_t:Nat} {t:List Un} (w:World) (h_t:Ms unC 280 lo_t hi_t w a_t n_t c_t t) (hp0:4096<n):
  Calls Tryz.prog 41 #[(vA [(.int .i64 n),(.slice a_t n_t c_t)])] w (Ret fun r w'=>r=(vI 1)∧Ext w w'):=by
 refine zw (n:=67) (σ:= [(0,(vA [(.int .i64 n),(.slice a_t n_t c_t)]))]) Tryz.func41 rfl ?_
 replace h_t:=h_t.now;have hle_t:=h_t.le
 have hlt:=h_t.len_eq;have hle:=h_t.le
 refine wsr (za (zS (Instr.box 38 (vA [(.int .i64 n),(.slice a_t n_t c_t)])) (vP w.heap.size 0) ([(.int .i64 n),(.slice a_t n_t c_t)]) 38 ?_))
 intro w1 hBw1 hEw1 hzw1 hlw1
 refine zb 1 [(2,(vI 0))] (zz (zb 1 [(8,(vP w.heap.size 0))] (za (zm w.heap.size 0 (hBw1.cell rfl) ?_))))
 refine zb 1 [(3,(.int .i64 n))] (wEt (zd (zd (zY 14 (fun w2 hEw2 hzw2 hT33=> ?_)))))
 refine ze hT33 [(0,10,(.int .i64 n))] 1 (zr hT33 1 vF (zaS (decide (n<((1:Nat):Int))) (zbW)) (ze hT33 [(2,12,vF),(3,13,(.int .i64 n))] 2 (zr hT33 4 vT (zaS (decide (n>((4096:Nat):Int))) (zeA)) (ze hT33 [(5,15,vT),(6,16,vT),(7,17,undef),(8,18,undef),(9,19,undef),(10,20,undef),(11,21,undef),(12,22,undef),(13,23,vT)] 9 (zB (zc (zk (wsr ?_))))))))
 exact zb 1 [(2,(vI 1))] (zF (zj (zh (vI 1) (⟨rfl,(hEw1.trans hEw2)⟩))))
theorem zrc (n:Nat) {lo_t hi_t:Nat} {a_t:Option Addr} {n_t c_t:Nat} {t:List Un} (w:World) (h_t:Ms unC 280 lo_t hi_t w a_t n_t c_t t) (hp0:1≤n) (hp1:n≤4096) (hp2:n_t≠tot n):
  Calls Tryz.prog 41 #[(vA [(vI n),(.slice a_t n_t c_t)])] w (Ret fun r w'=>r=(vI 1)∧Ext w w'):=by
 refine zw (n:=67) (σ:= [(0,(vA [(vI n),(.slice a_t n_t c_t)]))]) Tryz.func41 rfl ?_
 replace h_t:=h_t.now;have hle_t:=h_t.le
 have hlt:=h_t.len_eq;have hle:=h_t.le
 refine wsr (za (zS (Instr.box 38 (vA [(vI n),(.slice a_t n_t c_t)])) (vP w.heap.size 0) ([(vI n),(.slice a_t n_t c_t)]) 38 ?_))
 intro w1 hBw1 hEw1 hzw1 hlw1
 refine zb 1 [(2,(vI 0))] (zz (zb 1 [(8,(vP w.heap.size 0))] (za (zm w.heap.size 0 (hBw1.cell rfl) ?_))))
 refine zb 1 [(3,(vI n))] (wEt (zd (zd (zY 14 (fun w2 hEw2 hzw2 hT45=> ?_)))))
 refine ze hT45 [(0,10,(vI n))] 1 (zr hT45 1 vF (zaS (decide (((n:Nat):Int)<((1:Nat):Int))) (zbW)) (ze hT45 [(2,12,vF),(3,13,(vI n))] 2 (zr hT45 4 vF (zaS (decide (((n:Nat):Int)>((4096:Nat):Int))) (zbW)) (ze hT45 [(5,15,vF),(6,16,vF),(7,17,(vP w.heap.size 1))] 3 (zx hT45 8 w.heap.size 1 (fun w' hC=>(((hBw1.ext hEw2).ext hC).cell rfl)) (ze hT45 [(9,19,(vI n_t)),(10,20,(vI n))] 2 (zr hT45 11 (vI (tot n)) (zcv (f:=28) (args:= #[(vI n)]) (fun w' hC=>zhA n _ (by omega) (by omega))) (zr hT45 12 vT (zaS (((n_t:Nat):Int) !=((tot n:Nat):Int)) (zd1)) (ze hT45 [(13,23,vT)] 1 ?_)))))))))
 refine zB (zc (zk (wsr (zb 1 [(2,(vI 1))] (zF (zj ?_))))))
 exact zh (vI 1) (⟨rfl,(hEw1.trans hEw2)⟩)
theorem zq8 (n:Nat) {lo_t hi_t:Nat} {a_t:Option Addr} {n_t c_t:Nat} {t:List Un} (w:World) (h_t:Ms unC 280 lo_t hi_t w a_t n_t c_t t) (hp0:1≤n) (hp1:n≤4096) (hp2:n_t=tot n) (hp3:¬(∀i,i<t.length→(t.getD i Un.zero).sl=0∨(t.getD i Un.zero).sl=1)):
  Calls Tryz.prog 41 #[(vA [(vI n),(.slice a_t n_t c_t)])] w (Ret fun r w'=>r=(vI 1)∧Ext w w'):=by
 refine zw (n:=67) (σ:= [(0,(vA [(vI n),(.slice a_t n_t c_t)]))]) Tryz.func41 rfl ?_
 replace h_t:=h_t.now;have hle_t:=h_t.le
 have h5:=zam n
 have hlt:=h_t.len_eq
 have hts:=zau hp1
 have hle:=h_t.le
 refine wsr (za (zS (Instr.box 38 (vA [(vI n),(.slice a_t n_t c_t)])) (vP w.heap.size 0) ([(vI n),(.slice a_t n_t c_t)]) 38 ?_))
 intro w1 hBw1 hEw1 hzw1 hlw1
 refine zb 1 [(2,(vI 0))] (zz (zb 1 [(8,(vP w.heap.size 0))] (za (zm w.heap.size 0 (hBw1.cell rfl) ?_))))
 refine zb 1 [(3,(vI n))] (wEt (zd (zd (zY 14 (fun w2 hEw2 hzw2 hT61=> ?_)))))
 refine ze hT61 [(0,10,(vI n))] 1 (zr hT61 1 vF (zaS (decide (((n:Nat):Int)<((1:Nat):Int))) (zbW)) (ze hT61 [(2,12,vF),(3,13,(vI n))] 2 (zr hT61 4 vF (zaS (decide (((n:Nat):Int)>((4096:Nat):Int))) (zbW)) (ze hT61 [(5,15,vF),(6,16,vF),(7,17,(vP w.heap.size 1))] 3 (zx hT61 8 w.heap.size 1 (fun w' hC=>(((hBw1.ext hEw2).ext hC).cell rfl)) (ze hT61 [(9,19,(vI n_t)),(10,20,(vI n))] 2 (zr hT61 11 (vI (tot n)) (zcv (f:=28) (args:= #[(vI n)]) (fun w' hC=>zhA n _ (by omega) (by omega))) (zr hT61 12 vF (zaS (((n_t:Nat):Int) !=((tot n:Nat):Int)) (zcb)) (ze hT61 [(13,23,vF)] 1 ?_)))))))))
 refine zB (zc (zf (zl (zc (zd (wsr (zb 1 [(4,(vI 0))] (zq ?_))))))))
 refine zc (zp (zU (X:=Nat) (fun k=> [(4,(vI k))]) [2,24,25,26,27,28,29,30,31,32,33,34,35,36,37,38,39,40,41,42,43,44,45,46] (fun k w3=>k≤n_t∧(∀i,i<k→(t.getD i Un.zero).sl=0∨(t.getD i Un.zero).sl=1)∧Ext w2 w3) (fun k=>n_t-k) 0 (by kernel_rfl) ⟨Nat.zero_le _,fun i h=>absurd h (Nat.not_lt_zero _),Ext.refl _⟩ ?_))
 rintro k dw3 w3 ⟨hk,hal,hE1⟩
 have hz1:=hE1.size
 refine zd (wsr (zb 2 [(25,(vP w.heap.size 1)),(24,(vI k))] (za (zm w.heap.size 1 (((hBw1.ext hEw2).ext hE1).cell rfl) ?_))))
 refine zb 1 [(27,(vI n_t))] (za (zag 28 k n_t (fun hc28=> ?_) (fun hc28=> ?_)))
 ·refine wEt (zk (zl (zc (zd (zp (wsr (zb 1 [(31,(vP w.heap.size 1))] ?_)))))))
  refine za (zm w.heap.size 1 (((hBw1.ext hEw2).ext hE1).cell rfl) ?_)
  refine zb 1 [(33,(vI k))] ?_
  obtain ⟨b1,o1,rfl⟩:=h_t.addr (by omega) (by decide)
  refine za (zan b1 o1 n_t c_t k 280 ?_)
  refine zb 1 [(35,(vP b1 (o1+k*280+274)))] ?_
  have hK1:=(((h_t.ext hEw1).ext hEw2).ext hE1)
  refine za (zm b1 (o1+k*280+274) (hK1.cell (j:=274) Un.zero (by omega) (zdu _)) ?_)
  refine za (zg9 37 ((t.getD k Un.zero).sl) ((0:Nat):Int) (fun hc37=> ?_) (fun hc37=> ?_))
  ·refine zb 2 [(39,(vP w.heap.size 1)),(38,vT)] (za (zm w.heap.size 1 (((hBw1.ext hEw2).ext hE1).cell rfl) ?_))
   refine zb 1 [(41,(vI k))] (za (zan b1 o1 n_t c_t k 280 ?_))
   refine zb 1 [(43,(vP b1 (o1+k*280+274)))] (za (zm b1 (o1+k*280+274) (hK1.cell (j:=274) Un.zero (by omega) (zdu _)) ?_))
   refine za (zg9 45 ((t.getD k Un.zero).sl) ((1:Nat):Int) (fun hc45=> ?_) (fun hc45=> ?_))
   ·refine zb 1 [(46,vT)] (wEt (zk (wsr (zb 1 [(2,(vI 1))] (zF ?_)))))
    exact zu (zj (zj (zu (zj (zh (vI 1) (⟨rfl,((hEw1.trans hEw2).trans hE1)⟩))))))
   ·refine zb 1 [(46,vF)] (wEt (zf (zl (zi (zc (zg (zb 1 [(29,(vI k))] (za (zJ 30 k 1 (k+1) ?_)))))))))
    refine zb 1 [(4,(vI (k+1)))] (zq (zn (zG (k+1) ?_ ?_)))
    ·exact ⟨by omega,fun i hi=>by rcases Nat.lt_succ_iff_lt_or_eq.1 hi with h1 | rfl;exact hal i h1;omega,hE1⟩
    ·first | omega |(dsimp only;omega)
  ·refine zb 9 [(46,vF),(45,undef),(44,undef),(43,undef),(42,undef),(41,undef),(40,undef),(39,undef),(38,vF)] (wEt (zf (zl (zi (zc (zg (zb 1 [(29,(vI k))] (za (zJ 30 k 1 (k+1) ?_)))))))))
   refine zb 1 [(4,(vI (k+1)))] (zq (zn (zG (k+1) ?_ ?_)))
   ·exact ⟨by omega,fun i hi=>by rcases Nat.lt_succ_iff_lt_or_eq.1 hi with h1 | rfl;exact hal i h1;omega,hE1⟩
   ·first | omega |(dsimp only;omega)
 ·exact absurd (fun i hi=>hal i (by omega)) hp3
theorem zqZ (n:Nat) {lo_t hi_t:Nat} {a_t:Option Addr} {n_t c_t:Nat} {t:List Un} (w:World) (h_t:Ms unC 280 lo_t hi_t w a_t n_t c_t t) (hp0:1≤n) (hp1:n≤4096) (hp2:n_t=tot n) (hp3:∀i,i<t.length→(t.getD i Un.zero).sl=0∨(t.getD i Un.zero).sl=1):
  Calls Tryz.prog 41 #[(vA [(vI n),(.slice a_t n_t c_t)])] w (Ret fun r w'=>r=(vI (zaY n (zaG n t)))∧Ext w w'):=by
 refine zw (n:=67) (σ:= [(0,(vA [(vI n),(.slice a_t n_t c_t)]))]) Tryz.func41 rfl ?_
 replace h_t:=h_t.now;have hle_t:=h_t.le
 have h5:=zam n
 have hlt:=h_t.len_eq
 have hts:=zau hp1
 have hle:=h_t.le
 refine wsr (za (zS (Instr.box 38 (vA [(vI n),(.slice a_t n_t c_t)])) (vP w.heap.size 0) ([(vI n),(.slice a_t n_t c_t)]) 38 ?_))
 intro w1 hBw1 hEw1 hzw1 hlw1
 refine zb 1 [(2,(vI 0))] (zz (zb 1 [(8,(vP w.heap.size 0))] (za (zm w.heap.size 0 (hBw1.cell rfl) ?_))))
 refine zb 1 [(3,(vI n))] (wEt (zd (zd (zY 14 (fun w2 hEw2 hzw2 hT105=> ?_)))))
 refine ze hT105 [(0,10,(vI n))] 1 (zr hT105 1 vF (zaS (decide (((n:Nat):Int)<((1:Nat):Int))) (zbW)) (ze hT105 [(2,12,vF),(3,13,(vI n))] 2 (zr hT105 4 vF (zaS (decide (((n:Nat):Int)>((4096:Nat):Int))) (zbW)) (ze hT105 [(5,15,vF),(6,16,vF),(7,17,(vP w.heap.size 1))] 3 (zx hT105 8 w.heap.size 1 (fun w' hC=>(((hBw1.ext hEw2).ext hC).cell rfl)) (ze hT105 [(9,19,(vI n_t)),(10,20,(vI n))] 2 (zr hT105 11 (vI (tot n)) (zcv (f:=28) (args:= #[(vI n)]) (fun w' hC=>zhA n _ (by omega) (by omega))) (zr hT105 12 vF (zaS (((n_t:Nat):Int) !=((tot n:Nat):Int)) (zcb)) (ze hT105 [(13,23,vF)] 1 ?_)))))))))
 refine zB (zc (zf (zl (zc (zd (wsr (zb 1 [(4,(vI 0))] (zq ?_))))))))
 refine zc (zp (zU (X:=Nat) (fun k=> [(4,(vI k))]) [2,24,25,26,27,28,29,30,31,32,33,34,35,36,37,38,39,40,41,42,43,44,45,46] (fun k w3=>k≤n_t∧Ext w2 w3) (fun k=>n_t-k) 0 (by kernel_rfl) ⟨Nat.zero_le _,Ext.refl _⟩ ?_))
 rintro k dw3 w3 ⟨hk,hE1⟩
 have hz1:=hE1.size
 refine zd (wsr (zb 2 [(25,(vP w.heap.size 1)),(24,(vI k))] (za (zm w.heap.size 1 (((hBw1.ext hEw2).ext hE1).cell rfl) ?_))))
 refine zb 1 [(27,(vI n_t))] (za (zag 28 k n_t (fun hc28=> ?_) (fun hc28=> ?_)))
 ·have hsk:=hp3 k (by omega)
  refine wEt (zk (zl (zc (zd (zp (wsr (zb 1 [(31,(vP w.heap.size 1))] ?_)))))))
  refine za (zm w.heap.size 1 (((hBw1.ext hEw2).ext hE1).cell rfl) ?_)
  refine zb 1 [(33,(vI k))] ?_
  obtain ⟨b1,o1,rfl⟩:=h_t.addr (by omega) (by decide)
  refine za (zan b1 o1 n_t c_t k 280 ?_)
  refine zb 1 [(35,(vP b1 (o1+k*280+274)))] ?_
  have hK1:=(((h_t.ext hEw1).ext hEw2).ext hE1)
  refine za (zm b1 (o1+k*280+274) (hK1.cell (j:=274) Un.zero (by omega) (zdu _)) ?_)
  refine za (zg9 37 ((t.getD k Un.zero).sl) ((0:Nat):Int) (fun hc37=> ?_) (fun hc37=> ?_))
  ·refine zb 2 [(39,(vP w.heap.size 1)),(38,vT)] (za (zm w.heap.size 1 (((hBw1.ext hEw2).ext hE1).cell rfl) ?_))
   refine zb 1 [(41,(vI k))] (za (zan b1 o1 n_t c_t k 280 ?_))
   refine zb 1 [(43,(vP b1 (o1+k*280+274)))] (za (zm b1 (o1+k*280+274) (hK1.cell (j:=274) Un.zero (by omega) (zdu _)) ?_))
   refine za (zbn (some 45) ((t.getD k Un.zero).sl !=((1:Nat):Int)) false (zcb) ?_)
   refine zb 1 [(46,vF)] (wEt (zf (zl (zi (zc (zg (zb 1 [(29,(vI k))] (za (zJ 30 k 1 (k+1) ?_)))))))))
   refine zb 1 [(4,(vI (k+1)))] (zq (zn (zG (k+1) ?_ ?_)))
   ·exact ⟨by omega,hE1⟩
   ·first | omega |(dsimp only;omega)
  ·refine zb 9 [(46,vF),(45,undef),(44,undef),(43,undef),(42,undef),(41,undef),(40,undef),(39,undef),(38,vF)] (wEt (zf (zl (zi (zc (zg (zb 1 [(29,(vI k))] (za (zJ 30 k 1 (k+1) ?_)))))))))
   refine zb 1 [(4,(vI (k+1)))] (zq (zn (zG (k+1) ?_ ?_)))
   ·exact ⟨by omega,hE1⟩
   ·first | omega |(dsimp only;omega)
 ·refine wEt (zf (zP (zo (zo (zD (zc (zd (zd ?_))))))))
  refine zg (zb 1 [(5,(vI 0))] (wEt (zp (zU (X:=Nat) (fun v=> [(5,(vI v))]) [2,6,7,47,48,49,50,51,52,53,54,55,56,57,58,59,60,61,62,63,64,65,66] (fun v w4=>v≤hgt n+1∧okP n (zaG n t) v 0∧Ext w3 w4) (fun v=>hgt n+1-v) 0 (by kernel_rfl) ⟨by omega,zqW,Ext.refl _⟩ ?_))))
  rintro v dw4 w4 ⟨hv,hok,hE2⟩
  have hz2:=hE2.size
  have hcn:=zbl n v
  refine zd (wsr (zb 2 [(48,(vI n)),(47,(vI v))] (za (zt (zdM n _ (by omega) (by omega)) ?_))))
  rintro _ _ ⟨rfl,rfl⟩
  refine za (zjO 50 v (hgt n) (fun hc50=> ?_) (fun hc50=> ?_))
  ·refine wEt (zk (zl (zc (zd (zp (wsr (zb 1 [(6,(vI 0))] ?_)))))))
   refine wEt (zp (zU (X:=Nat) (fun j=> [(6,(vI j))]) [2,7,53,54,55,56,57,58,59,60,61,62,63,64,65,66] (fun j w5=>j≤cnt n v∧okP n (zaG n t) v j∧Ext w4 w5) (fun j=>cnt n v-j) 0 (by kernel_rfl) ⟨by omega,hok,Ext.refl _⟩ ?_))
   rintro j dw5 w5 ⟨hj,hok2,hE3⟩
   have hz3:=hE3.size
   refine zd (wsr (zb 3 [(55,(vI v)),(54,(vI n)),(53,(vI j))] (za (zt (zep n v _ (by omega) (by omega) (by omega)) ?_))))
   rintro _ _ ⟨rfl,rfl⟩
   refine za (zag 57 j (cnt n v) (fun hc57=> ?_) (fun hc57=> ?_))
   ·have hjc:j<cnt n v:=by omega
    have hkid:v≠0→∀w,w<prt n v j→((t.getD (num n (v-1)+(4*j+w)) Un.zero).sl=0∨(t.getD (num n (v-1)+(4*j+w)) Un.zero).sl=1)∧zaz (t.getD (num n (v-1)+(4*j+w)) Un.zero).nd=0:=fun h0 w hw=>by
     obtain ⟨h1,h2,h3⟩:=zc1 (n:=n) h0 (by omega) hjc hw
     exact ⟨hp3 _ (by omega),(zcx (zij (zuD hok2 h1 (.inl (by omega)))).1.2.2).1⟩
    refine wEt (zk (zl (zc (zd (zp (wsr ?_))))))
    have hK2:=((((hBw1.ext hEw2).ext hE1).ext hE2).ext hE3)
    refine za (zV w.heap.size 0 (hK2.all) ?_)
    refine zb 2 [(62,(vI j)),(61,(vI v))] ?_
    have hX1:=((hEw1.trans hEw2).trans hE1).trans hE2
    refine za (zt (zvl n v j _ ((h_t.ext hX1).ext hE3) (by omega) (by omega) (by omega) (by omega) (by omega) (by assumption)) ?_)
    rintro _ w6 ⟨rfl,hEw6⟩
    have hzw6:=hEw6.size
    refine zb 1 [(7,(vI (zaG n t v j)))] (zz (zb 1 [(64,(vI (zaG n t v j)))] (za (zbT 65 (zaG n t v j) 0 (fun hc65=> ?_) (fun hc65=> ?_)))))
    ·refine wEt (zk (wsr (zb 2 [(2,(vI (zaG n t v j))),(66,(vI (zaG n t v j)))] (zF (zu ?_)))))
     exact zj (zj (zu (zu (zj (zj (zu (zj (zh (vI (zaG n t v j)) (⟨congrArg (fun z:Nat=>vI z) (zlv hok2 (by omega) hjc rfl hc65).symm,((hX1.trans hE3).trans hEw6)⟩)))))))))
    ·refine wEt (zf (zl (zi (zc (zg (zb 1 [(58,(vI j))] (za (zJ 59 j 1 (j+1) ?_))))))))
     refine zb 1 [(6,(vI (j+1)))] (zq (zn (zG (j+1) ?_ ?_)))
     ·exact ⟨by omega,zro hok2 (by omega),(hE3.trans hEw6)⟩
     ·first | omega |(dsimp only;omega)
   ·obtain rfl:j=cnt n v:=by omega
    refine wEt (zf (zP (zo (zo (zD (zi (zc (zg ?_))))))))
    refine zb 1 [(51,(vI v))] (za (zJ 52 v 1 (v+1) ?_))
    refine zb 1 [(5,(vI (v+1)))] (zq (zn (zG (v+1) ?_ ?_)))
    ·exact ⟨by omega,zpT hok2,(hE2.trans hE3)⟩
    ·first | omega |(dsimp only;omega)
  ·refine wEt (zf (zP (zo (zo (zD (zc (wsr ?_)))))))
   refine zb 1 [(2,(vI 0))] (zF (zh (vI 0) ?_))
   have hX2:Ext w w4:=(((hEw1.trans hEw2).trans hE1).trans hE2)
   obtain rfl:v=hgt n+1:=by omega
   exact ⟨congrArg (fun z:Nat=>vI z) (zrO hok).symm,hX2⟩
theorem ztG (n:Int) {lo_t hi_t:Nat} {a_t:Option Addr} {n_t c_t:Nat} {t:List Un} (w:World) (h_t:Ms unC 280 lo_t hi_t w a_t n_t c_t t):
  Calls Tryz.prog 41 #[(vA [(.int .i64 n),(.slice a_t n_t c_t)])] w (Ret fun r w'=>r=(vI (zaf n t))∧Ext w w'):=by
 have hlt:=h_t.len_eq
 by_cases h1:n<1
 ·rw [zes (by omega)];exact zrv n w h_t h1
 by_cases h2:4096<n
 ·rw [zes (by omega)];exact zra n w h_t h2
 obtain ⟨n,rfl⟩:=Int.eq_ofNat_of_zero_le (show 0≤n by omega)
 by_cases h3:n_t=tot n
 ·by_cases h4:zej t=true
  ·rw [zdC (by omega) (by omega) (by omega) h4];exact zqZ n w h_t (by omega) (by omega) h3 (zci.1 h4)
  ·rw [zes (fun hh=>h4 hh.2.2.2)];exact zq8 n w h_t (by omega) (by omega) h3 (fun hh=>h4 (zci.2 hh))
 ·rw [zes (fun hh=>h3 (by have:=hh.2.2.1;rw [Int.toNat_natCast] at this;omega))];exact zrc n w h_t (by omega) (by omega) h3
end Go.Proofs.YtkmhgepdhilllaaGreatDoor
namespace Go.Proofs.YtkmhgepdhilllaaGreatDoor
open Go Go.RowKit Go.Cs
set_option maxRecDepth 100000
theorem ztq (n:Int) {lo_t hi_t:Nat} {a_t:Option Addr} {n_t c_t:Nat} {t:List Un} (w:World) (h_t:Ms unC 280 lo_t hi_t w a_t n_t c_t t) (hg0:Gl 0 [vI 45,vI 33] w) (hg1:Gl 1 (w8C zaV) w) (hg2:Gl 3 (zas kA) w):
  Calls Tryz.prog 30 #[(vA [(.int .i64 n),(.slice a_t n_t c_t)])] w (Ret fun r w'=>∃(a0:Option Addr) (na0:Nat) (ca0:Nat),r=(.tuple #[(.slice a0 na0 ca0),(vI (zaf n t))])∧(zaf n t=0∨na0=0)∧Ext w w'):=by
 have hlt:=h_t.len_eq
 by_cases hv:zaf n t=0
 ·obtain ⟨m,rfl,h1,h2,h3,hs,he⟩:=zd4 hv
  refine zbY (zpS m w h_t (by omega) (by omega) (by omega) hs he hg0 hg1 hg2) ?_
  rintro r w' ⟨a,rfl,hM,hE⟩
  rw [hv]
  exact ⟨_,_,_,rfl, .inl rfl,hE⟩
 ·refine zbY (zt3 n w h_t hv hg0 hg1 hg2) ?_
  rintro r w' ⟨rfl,hE⟩
  exact ⟨_,_,_,rfl, .inr rfl,hE⟩
theorem zrC (n:Int) {lo_t hi_t:Nat} {a_t:Option Addr} {n_t c_t:Nat} {t:List Un} (w:World) (h_t:Ms unC 280 lo_t hi_t w a_t n_t c_t t) (hg0:Gl 0 [vI 45,vI 33] w) (hg1:Gl 1 (w8C zaV) w) (hg2:Gl 3 (zas kA) w):
  Calls Tryz.prog 36 #[(vA [(.int .i64 n),(.slice a_t n_t c_t)])] w (Ret fun r w'=>∃(a0:Dig),r=(.tuple #[(vA (zK a0)),(vI (zaf n t))])∧(zaf n t=0∨a0=Dig.zero)∧Ext w w'):=by
 have hlt:=h_t.len_eq
 by_cases hv:zaf n t=0
 ·obtain ⟨m,rfl,h1,h2,h3,hs,he⟩:=zd4 hv
  refine zbY (zsQ m w h_t (by omega) (by omega) (by omega) hs he hg0 hg1 hg2) ?_
  rintro r w' ⟨rfl,hE⟩
  rw [hv]
  exact ⟨_,rfl, .inl rfl,hE⟩
 ·refine zbY (zri n w h_t hv hg0 hg1 hg2) ?_
  rintro r w' ⟨rfl,hE⟩
  exact ⟨_,rfl, .inr rfl,hE⟩
theorem zuc (n:Int) {lo_t hi_t:Nat} {a_t:Option Addr} {n_t c_t:Nat} {t:List Un} (w:World) (h_t:Ms unC 280 lo_t hi_t w a_t n_t c_t t) (hg0:Gl 0 [vI 45,vI 33] w) (hg1:Gl 1 (w8C zaV) w) (hg2:Gl 3 (zas kA) w):
  Calls Tryz.prog 17 #[(vA [(.int .i64 n),(.slice a_t n_t c_t)])] w (Ret fun r w'=>∃(a0:Int) (a1:Option Addr) (na1:Nat) (ca1:Nat),r=(.tuple #[(vA [(.int .i64 a0),(.slice a1 na1 ca1)]),(vI (zaf n t))])∧(zaf n t=0∨na1=0)∧Ext w w'):=by
 have hlt:=h_t.len_eq
 by_cases hv:zaf n t=0
 ·obtain ⟨m,rfl,h1,h2,h3,hs,he⟩:=zd4 hv
  refine zbY (zpc m w h_t (by omega) (by omega) (by omega) hs he hg0 hg1 hg2) ?_
  rintro r w' ⟨a,rfl,hM,hE⟩
  rw [hv]
  exact ⟨_,_,_,_,rfl, .inl rfl,hE⟩
 ·refine zbY (zsT n w h_t hv hg0 hg1 hg2) ?_
  rintro r w' ⟨rfl,hE⟩
  exact ⟨0,_,_,_,rfl, .inr rfl,hE⟩
theorem zul (n:Int) {lo_t hi_t:Nat} {a_t:Option Addr} {n_t c_t:Nat} {t:List Un} (w:World) (h_t:Ms unC 280 lo_t hi_t w a_t n_t c_t t) (hg0:Gl 0 [vI 45,vI 33] w) (hg1:Gl 1 (w8C zaV) w) (hg2:Gl 3 (zas kA) w):
  Calls Tryz.prog 37 #[(vA [(.int .i64 n),(.slice a_t n_t c_t)])] w (Ret fun r w'=>∃(a0:Int) (a1:Option Addr) (na1:Nat) (ca1:Nat) (a2:Option Addr) (na2:Nat) (ca2:Nat),r=(.tuple #[(vA [(.int .i64 a0),(.slice a1 na1 ca1)]),(.slice a2 na2 ca2),(vI (zaf n t))])∧(zaf n t=0∨(na1=0∧na2=0))∧Ext w w'):=by
 have hlt:=h_t.len_eq
 by_cases hv:zaf n t=0
 ·obtain ⟨m,rfl,h1,h2,h3,hs,he⟩:=zd4 hv
  refine zbY (zvQ m w h_t (by omega) (by omega) (by omega) hs he hg0 hg1 hg2) ?_
  rintro r w' ⟨a,b,rfl,hM,hN,hE⟩
  rw [hv]
  exact ⟨_,_,_,_,_,_,_,rfl, .inl rfl,hE⟩
 ·refine zbY (zsY n w h_t hv hg0 hg1 hg2) ?_
  rintro r w' ⟨rfl,hE⟩
  exact ⟨0,_,_,_,_,_,_,rfl, .inr ⟨rfl,rfl⟩,hE⟩
theorem zm7 (n:Int) {lo_t hi_t:Nat} {a_t:Option Addr} {n_t c_t:Nat} {t:List Un} (b:Int) (w:World) (h_t:Ms unC 280 lo_t hi_t w a_t n_t c_t t) (hg0:Gl 0 [vI 45,vI 33] w) (hg1:Gl 1 (w8C zaV) w) (hg2:Gl 3 (zas kA) w):
  Calls Tryz.prog 34 #[(vA [(.int .i64 n),(.slice a_t n_t c_t)]),(.int .i64 b)] w (Ret fun r w'=>∃(a0:Int),r=(.tuple #[(.int .i64 a0),(vI (za4 n t b))])∧(za4 n t b=0∨a0=0)∧Ext w w'):=by
 have hlt:=h_t.len_eq
 by_cases hv:zaf n t=0
 ·by_cases hb:0≤b∧b<n
  ·rw [zic hv hb]
   obtain ⟨m,rfl,h1,h2,h3,hs,he⟩:=zd4 hv
   obtain ⟨b,rfl⟩:=Int.eq_ofNat_of_zero_le hb.1
   refine zbY (zmm m b w h_t (by omega) (by omega) (by omega) hs he (by omega) hg0 hg1 hg2) ?_
   rintro r w' ⟨rfl,hE⟩
   exact ⟨_,rfl, .inl rfl,hE⟩
  ·rw [zgL hv hb]
   obtain ⟨m,rfl,h1,h2,h3,hs,he⟩:=zd4 hv
   refine zbY (zt8 m b w h_t (by omega) (by omega) (by omega) hs he hb hg0 hg1 hg2) ?_
   rintro r w' ⟨rfl,hE⟩
   exact ⟨0,rfl, .inr rfl,hE⟩
 ·rw [zhI hv]
  refine zbY (ztK n b w h_t hv hg0 hg1 hg2) ?_
  rintro r w' ⟨rfl,hE⟩
  exact ⟨0,rfl, .inr rfl,hE⟩
theorem znj (n:Int) {lo_t hi_t:Nat} {a_t:Option Addr} {n_t c_t:Nat} {t:List Un} (b:Int) (w:World) (h_t:Ms unC 280 lo_t hi_t w a_t n_t c_t t) (hg0:Gl 0 [vI 45,vI 33] w) (hg1:Gl 1 (w8C zaV) w) (hg2:Gl 3 (zas kA) w):
  Calls Tryz.prog 35 #[(vA [(.int .i64 n),(.slice a_t n_t c_t)]),(.int .i64 b)] w (Ret fun r w'=>∃(a0:Rec),r=(.tuple #[(vA (zL a0)),(vI (za4 n t b))])∧(za4 n t b=0∨a0=Rec.zero)∧Ext w w'):=by
 have hlt:=h_t.len_eq
 by_cases hv:zaf n t=0
 ·by_cases hb:0≤b∧b<n
  ·rw [zic hv hb]
   obtain ⟨m,rfl,h1,h2,h3,hs,he⟩:=zd4 hv
   obtain ⟨b,rfl⟩:=Int.eq_ofNat_of_zero_le hb.1
   refine zbY (zp6 m b w h_t (by omega) (by omega) (by omega) hs he (by omega) hg0 hg1 hg2) ?_
   rintro r w' ⟨rfl,hE⟩
   exact ⟨_,rfl, .inl rfl,hE⟩
  ·rw [zgL hv hb]
   obtain ⟨m,rfl,h1,h2,h3,hs,he⟩:=zd4 hv
   refine zbY (zs8 m b w h_t (by omega) (by omega) (by omega) hs he hb hg0 hg1 hg2) ?_
   rintro r w' ⟨rfl,hE⟩
   exact ⟨_,rfl, .inr rfl,hE⟩
 ·rw [zhI hv]
  refine zbY (zsS n b w h_t hv hg0 hg1 hg2) ?_
  rintro r w' ⟨rfl,hE⟩
  exact ⟨_,rfl, .inr rfl,hE⟩
theorem zgi (n:Int) {lo_t hi_t:Nat} {a_t:Option Addr} {n_t c_t:Nat} {t:List Un} (b:Int) (x:Non) (y:Dig) (w:World) (h_t:Ms unC 280 lo_t hi_t w a_t n_t c_t t) (hg0:Gl 0 [vI 45,vI 33] w) (hg1:Gl 1 (w8C zaV) w) (hg2:Gl 3 (zas kA) w):
  Calls Tryz.prog 22 #[(vA [(.int .i64 n),(.slice a_t n_t c_t)]),(.int .i64 b),(vA (zbb x)),(vA (zK y))] w (Ret fun r w'=>∃(a0:Int) (a1:Option Addr) (na1:Nat) (ca1:Nat) (a2:Int),r=(.tuple #[(vA [(.int .i64 a0),(.slice a1 na1 ca1)]),(.int .i64 a2),(vI (za4 n t b))])∧(za4 n t b=0∨(na1=0∧a2=0))∧Ext w w'):=by
 have hlt:=h_t.len_eq
 by_cases hv:zaf n t=0
 ·by_cases hb:0≤b∧b<n
  ·rw [zic hv hb]
   obtain ⟨m,rfl,h1,h2,h3,hs,he⟩:=zd4 hv
   obtain ⟨b,rfl⟩:=Int.eq_ofNat_of_zero_le hb.1
   refine zbY (zgt m b x y w h_t (by omega) (by omega) (by omega) hs he (by omega) hg0 hg1 hg2) ?_
   rintro r w' ⟨a,rfl,hM,hE⟩
   exact ⟨_,_,_,_,_,rfl, .inl rfl,hE⟩
  ·rw [zgL hv hb]
   obtain ⟨m,rfl,h1,h2,h3,hs,he⟩:=zd4 hv
   refine zbY (ztr m b x y w h_t (by omega) (by omega) (by omega) hs he hb hg0 hg1 hg2) ?_
   rintro r w' ⟨rfl,hE⟩
   exact ⟨0,_,_,_,0,rfl, .inr ⟨rfl,rfl⟩,hE⟩
 ·rw [zhI hv]
  refine zbY (zs9 n b x y w h_t hv hg0 hg1 hg2) ?_
  rintro r w' ⟨rfl,hE⟩
  exact ⟨0,_,_,_,0,rfl, .inr ⟨rfl,rfl⟩,hE⟩
end Go.Proofs.YtkmhgepdhilllaaGreatDoor
namespace Go.Proofs.YtkmhgepdhilllaaGreatDoor
open Go Go.RowKit Go.Cs
set_option maxRecDepth 100000
set_option maxHeartbeats 4000000 in
theorem zkh (k:Nat) {lo_p hi_p:Nat} {a_p:Option Addr} {n_p c_p:Nat} {p:List (UInt8×UInt8)} {lo_s hi_s:Nat} {a_s:Option Addr} {n_s c_s:Nat} {s:List UInt8} {lo_q hi_q:Nat} {a_q:Option Addr} {n_q c_q:Nat} {q:List (UInt8×UInt8)} (b:Nat) (z:ZU) (w:World) (h_p:Ms b2C 2 lo_p hi_p w a_p n_p c_p p) (h_s:Bs lo_s hi_s w a_s n_s c_s s) (h_q:Ms b2C 2 lo_q hi_q w a_q n_q c_q q) (hp0:k<256) (hp1:b<256) (hg0:Gl 0 [vI 45,vI 33] w) (hg1:Gl 1 (w8C zaV) w) (hg2:Gl 3 (zas kA) w) (hg3:Gl 2 [.iface 227 (.agg #[.pointer (some ⟨4,160,none⟩)])] w):
  Calls Tryz.prog 9 #[(vA [(vB k),(.slice a_p n_p c_p),(.slice a_s n_s c_s),(.slice a_q n_q c_q)]),(vB b),(vA (zuC z))] w (Ret fun r w'=>r=vT∧Ext w w'):=by
 refine zw (n:=194) (σ:= [(0,(vA [(vB k),(.slice a_p n_p c_p),(.slice a_s n_s c_s),(.slice a_q n_q c_q)])),(1,(vB b)),(2,(vA (zuC z)))]) Tryz.func9 rfl ?_
 replace h_p:=h_p.now;have hle_p:=h_p.le
 replace h_s:=h_s.now;have hle_s:=h_s.le
 replace h_q:=h_q.now;have hle_q:=h_q.le
 have hgl0:=hg0.lt
 have hgl1:=hg1.lt
 have hgl2:=hg2.lt
 have hgl3:=hg3.lt
 have hbk:=zhx k
 have h5:=zam (zT k)
 have hts:=zau (n:=zT k) (by omega)
 have htp:=zcq (n:=zT k) (by omega) (by omega)
 have hzo:=z.hot
 have hib:b%tot (zT k)<tot (zT k):=Nat.mod_lt _ (by omega)
 refine wsr (za (zS (Instr.box 27 (vA [(vB k),(.slice a_p n_p c_p),(.slice a_s n_s c_s),(.slice a_q n_q c_q)])) (vP w.heap.size 0) ([(vB k),(.slice a_p n_p c_p),(.slice a_s n_s c_s),(.slice a_q n_q c_q)]) 27 ?_))
 intro w1 hBw1 hEw1 hzw1 hlw1
 refine za (zS (Instr.box 79 (vA (zuC z))) (vP w1.heap.size 0) (zuC z) 79 ?_)
 intro w2 hBw2 hEw2 hzw2 hlw2
 refine zb 1 [(6,vF)] (zz (za (zV w.heap.size 0 ((hBw1.ext hEw2).all) ?_)))
 refine za (zt (zu9 k _ ((h_p.ext hEw1).ext hEw2) ((h_s.ext hEw1).ext hEw2) ((h_q.ext hEw1).ext hEw2) (by omega)) ?_)
 rintro _ w3 ⟨a1L,a1C,a1S,a1a,a1b,a1c,a1d,a1e,a1f,rfl,hFz1_0,hFz1_1,hFz1_2,hFz1_3,hFz1_4,hEw3⟩
 have hzw3:=hEw3.size
 have hO:=hFz1_0;have hLn:=hFz1_1;have hl1:=hFz1_2.le;have hl2:=hFz1_3.le;have hl3:=hFz1_4.le
 refine za (zt (zrt _ hFz1_2 hFz1_3 hFz1_4 (by first | omega | decide) (by first | omega | decide) (by first | omega | decide) (by first | omega | decide) (hO.m.sl)) ?_)
 rintro _ w4 ⟨a2,ca2,rfl,hFz2_0,hEw4⟩
 have hzw4:=hEw4.size
 have hma2:=hFz2_0.ms;have hlea2:=hma2.le
 obtain ⟨ts,hts⟩:∃ts,ts=(zaM a1L a1C a1S).set (b%tot (zT k)) z.nd:=⟨_,rfl⟩
 have hlts:ts.length=tot (zT k):=by rw [hts,List.length_set,zvj hLn]
 refine zal ([(vI (zT k)),(.slice a2 (tot (zT k)) ca2)]) 38 rfl (by simp [Value.oneCell']) ?_
 intro w5 hBw5 hEw5 hzw5 hlw5
 refine wEt (zd (zY 12 (fun w6 hEw6 hzw6 hT44=> ?_)))
 refine ze hT44 [(0,25,(vP w4.heap.size 1))] 1 (zx hT44 1 w4.heap.size 1 (fun w' hC=>(((hBw5.ext hEw6).ext hC).cell rfl)) (ze hT44 [(2,27,(vB b))] 1 (zr hT44 3 (vI b) (zac .i64 (IntKind.i64.wrap ((b:Nat):Int)) (zao rfl)) (ze hT44 [(4,29,(vP w4.heap.size 1))] 1 (zx hT44 5 w4.heap.size 1 (fun w' hC=>(((hBw5.ext hEw6).ext hC).cell rfl)) (ze hT44 [(6,31,(vI (tot (zT k))))] 1 (zr hT44 7 (vI (b%(tot (zT k)))) (zai (bo .rem 3 (.tmp 28) (.tmp 31) (vI b) (vI (tot (zT k)))) (fun w' hC=>zm8 (by omega))) (ze hT44 [(8,33,(vP w1.heap.size 0))] 1 ?_))))))))
 have hK1:=((((hBw2.ext hEw3).ext hEw4).ext hEw5).ext hEw6)
 refine zaq hT44 9 w1.heap.size 0 (fun w' hC=>((hK1.ext hC).at 0 (unC z.nd) (zwE _))) (zI _) ?_
 have hqb1:=((hFz2_0.ext hEw5).ext hEw6).ms.len_eq
 obtain ⟨b1,r1,rfl,hBb1,hrb1,hlob1,hhib1,hcpb1,hmxb1⟩:=((hFz2_0.ext hEw5).ext hEw6).row_of (by omega)
 have hlb1:=hBb1.lt
 refine zaD hT44 10 b1 0 (tot (zT k)) ca2 (b%(tot (zT k))) 280 (zy 11 (zC 77 b1 (0+(b%(tot (zT k)))*280) 77 (vA (unC z.nd)) ((zaM a1L a1C a1S).flatMap unC++r1) (unC z.nd) hBb1 (by rw [zI];kernel_rfl) (by (try simp only [List.length_append,List.length_cons,List.length_nil,List.length_set]);(try rw [zaC zI]);(try simp only [List.length_set]);have:=hqb1;(try rw [zI]);omega) (za7 _) ?_))
 intro w7 hBw7 hCw7
 have hzw7:=hCw7.size
 rw [show (zZ ((zaM a1L a1C a1S).flatMap unC++r1) (0+(b%(tot (zT k)))*280) (unC z.nd):List Value)=((zaM a1L a1C a1S).set (b%(tot (zT k))) z.nd).flatMap unC++r1 from (by have hz:=zcc zI Un.zero z.nd (zaM a1L a1C a1S) (b%(tot (zT k))) 0 (unC z.nd) r1 (by (try simp only [List.length_set]);omega) (zv _ _ (by rw [zI,zI])) (by (try simp only [List.length_cons,List.length_nil]);(try rw [zI]);omega);rw [show 0+(b%(tot (zT k)))*280=(b%(tot (zT k)))*280+0 from by omega];exact hz),show ((zaM a1L a1C a1S).set (b%(tot (zT k))) z.nd)=ts from hts.symm] at hBw7
 have hmw7:Ms unC 280 w3.heap.size w4.heap.size w7 (pA b1 0) (tot (zT k)) ca2 ts:=Ms.of_pre (r:=r1) (by exact hBw7) zI (by (try simp only [List.length_set]);omega) (by omega) (by simp only [maxLen] at*;omega) (by omega) (by omega)
 refine ⟨.inl (by kernel_rfl), ?_⟩
 refine zB (zc ?_)
 obtain ⟨nn,hnn⟩:∃nn,nn=if z.ot%4=3 then z.bz else ((zT k:Nat):Int):=⟨_,rfl⟩
 refine zeU (X:=Unit) (fun _=> []) [36,37,38,39,40,41,42] (fun _ w8=>Blk w8 w4.heap.size ([(.int .i64 nn),(.slice (pA b1 0) (tot (zT k)) ca2)]) 38∧Chg (fun k=>k=w4.heap.size) w7 w8) ?_ ?_
 ·refine wsr (zb 1 [(36,(vP w1.heap.size 281))] (za (zm w1.heap.size 281 ((hK1.chg hCw7).cell (zwK _)) ?_)))
  refine za (zae (some 38) .u8 (((z.ot:Nat):Int).tmod ((4:Nat):Int)) (z.ot%4) (zcX _ _) ?_)
  refine za (zaI 39 (z.ot%4) 3 (fun hc39=> ?_) (fun hc39=> ?_))
  ·refine wEt (zk (zg (zb 1 [(40,(vP w1.heap.size 280))] (za (zm w1.heap.size 280 ((hK1.chg hCw7).cell (zwr _)) ?_)))))
   refine zb 1 [(42,(vP w4.heap.size 0))] (za (zah 3 w4.heap.size 0 38 (.int .i64 z.bz) ([(vI (zT k)),(.slice (pA b1 0) (tot (zT k)) ca2)]) ((hBw5.ext hEw6).chg hCw7) (by first | decide |(simp;done)|(simp;omega)) ?_))
   intro w9 hBw9 hCw9
   have hzw9:=hCw9.size
   rw [show (([(vI (zT k)),(.slice (pA b1 0) (tot (zT k)) ca2)]).set 0 (.int .i64 z.bz):List Value)= [(.int .i64 z.bz),(.slice (pA b1 0) (tot (zT k)) ca2)] from rfl] at hBw9
   exact zq (zn (zbI () (⟨by rw [hnn,if_pos hc39];exact hBw9,(Chg.then (Chg.refl (fun k=>k=w4.heap.size) w7) hCw9 (fun k hk hs=>by have h:k=_:=hs;first | exact hs | exact .inl h | exact .inr h |(exfalso;omega)))⟩)))
  ·exact wEt (zf (zl (zn (zbI () (⟨by rw [hnn,if_neg hc39];exact ((hBw5.ext hEw6).chg hCw7),(Chg.refl (fun k=>k=w4.heap.size) w7)⟩)))))
 rintro _ dw8 w8 ⟨hJ7,hEj⟩
 have hzj:=hEj.size
 have hJl7:=hJ7.lt
 refine wsr (za (zV w4.heap.size 0 (hJ7.all) ?_))
 refine za (zt (ztG nn _ (hmw7.chg hEj)) ?_)
 rintro _ w10 ⟨rfl,hEw10⟩
 have hzw10:=hEw10.size
 refine zb 1 [(8,(vI (zaf nn ts)))] (zz (za (zV w4.heap.size 0 ((hJ7.ext hEw10).all) ?_)))
 have hX1:=((hEw1.trans hEw2).trans hEw3).trans hEw4
 have hK2:=((((((hg0.ext hX1).ext hEw5).ext hEw6).chg hCw7).chg hEj).ext hEw10)
 have hK3:=((((((hg1.ext hX1).ext hEw5).ext hEw6).chg hCw7).chg hEj).ext hEw10)
 have hK4:=((((((hg2.ext hX1).ext hEw5).ext hEw6).chg hCw7).chg hEj).ext hEw10)
 refine za (zt (ztq nn _ ((hmw7.chg hEj).ext hEw10) hK2 hK3 hK4) ?_)
 rintro _ w11 ⟨a3,na3,ca3,rfl,hFz4_0,hEw11⟩
 have hzw11:=hEw11.size
 refine zb 5 [(10,(vI (zaf nn ts))),(9,(.slice a3 na3 ca3)),(49,(vI (zaf nn ts))),(48,(.slice a3 na3 ca3)),(45,(.tuple #[(.slice a3 na3 ca3),(vI (zaf nn ts))]))] (zz (za (zV w4.heap.size 0 (((hJ7.ext hEw10).ext hEw11).all) ?_)))
 have hK5:=(((hmw7.chg hEj).ext hEw10).ext hEw11)
 refine za (zt (zrC nn _ hK5 (hK2.ext hEw11) (hK3.ext hEw11) (hK4.ext hEw11)) ?_)
 rintro _ w12 ⟨a4,rfl,hFz5_0,hEw12⟩
 have hzw12:=hEw12.size
 have hXr:=hFz5_0
 refine zb 3 [(54,(vI (zaf nn ts))),(53,(vA (zK a4))),(50,(.tuple #[(vA (zK a4)),(vI (zaf nn ts))]))] (zal (zK a4) 59 (zar _) (zbK _) ?_)
 intro w13 hBw13 hEw13 hzw13 hlw13
 refine zb 1 [(12,(vI (zaf nn ts)))] (zz ?_)
 have hX2:=((hEw10.trans hEw11).trans hEw12).trans hEw13
 refine za (zV w4.heap.size 0 ((hJ7.ext hX2).all) ?_)
 have hK6:=(((hK2.ext hEw11).ext hEw12).ext hEw13)
 have hK7:=(((hK3.ext hEw11).ext hEw12).ext hEw13)
 have hK8:=(((hK4.ext hEw11).ext hEw12).ext hEw13)
 refine za (zt (zuc nn _ ((hK5.ext hEw12).ext hEw13) hK6 hK7 hK8) ?_)
 rintro _ w14 ⟨a5,a6,na6,ca6,rfl,hFz6_0,hEw14⟩
 have hzw14:=hEw14.size
 refine zb 3 [(59,(vI (zaf nn ts))),(58,(vA [(.int .i64 a5),(.slice a6 na6 ca6)])),(55,(.tuple #[(vA [(.int .i64 a5),(.slice a6 na6 ca6)]),(vI (zaf nn ts))]))] (zal ([(.int .i64 a5),(.slice a6 na6 ca6)]) 38 rfl (by simp [Value.oneCell']) ?_)
 intro w15 hBw15 hEw15 hzw15 hlw15
 refine zb 1 [(14,(vI (zaf nn ts)))] (zz ?_)
 have hK9:=(((hJ7.ext hX2).ext hEw14).ext hEw15)
 refine za (zV w4.heap.size 0 (hK9.all) ?_)
 have hK10:=((((hK5.ext hEw12).ext hEw13).ext hEw14).ext hEw15)
 refine za (zt (zul nn _ hK10 ((hK6.ext hEw14).ext hEw15) ((hK7.ext hEw14).ext hEw15) ((hK8.ext hEw14).ext hEw15)) ?_)
 rintro _ w16 ⟨a7,a8,na8,ca8,a9,na9,ca9,rfl,hFz7_0,hEw16⟩
 have hzw16:=hEw16.size
 refine zb 4 [(65,(vI (zaf nn ts))),(64,(.slice a9 na9 ca9)),(63,(vA [(.int .i64 a7),(.slice a8 na8 ca8)])),(60,(.tuple #[(vA [(.int .i64 a7),(.slice a8 na8 ca8)]),(.slice a9 na9 ca9),(vI (zaf nn ts))]))] (zal ([(.int .i64 a7),(.slice a8 na8 ca8)]) 44 rfl (by simp [Value.oneCell']) ?_)
 intro w17 hBw17 hEw17 hzw17 hlw17
 refine zb 2 [(17,(vI (zaf nn ts))),(16,(.slice a9 na9 ca9))] (zM (za (zV w4.heap.size 0 (((hK9.ext hEw16).ext hEw17).all) ?_)))
 have hX3:=((hEw14.trans hEw15).trans hEw16).trans hEw17
 refine za (zt (zfk nn _ ((hK10.ext hEw16).ext hEw17) (hK6.ext hX3) (hK7.ext hX3) (hK8.ext hX3)) ?_)
 rintro _ w18 ⟨rfl,hEw18⟩
 have hzw18:=hEw18.size
 refine zb 1 [(68,(vI (zaf nn ts)))] (za (zbe 69 (zaf nn ts) (zaf nn ts) ?_))
 refine zb 3 [(72,(vI (zaf nn ts))),(71,(vI (zaf nn ts))),(70,vF)] (za (zbe 73 (zaf nn ts) (zaf nn ts) ?_))
 refine zb 4 [(77,(vI (zaf nn ts))),(76,(vI (zaf nn ts))),(75,vF),(74,vF)] (za (zbe 78 (zaf nn ts) (zaf nn ts) ?_))
 refine zb 4 [(82,(vI (zaf nn ts))),(81,(vI (zaf nn ts))),(80,vF),(79,vF)] (za (zbe 83 (zaf nn ts) (zaf nn ts) ?_))
 refine zb 4 [(87,(vI (zaf nn ts))),(86,(vI (zaf nn ts))),(85,vF),(84,vF)] (za (zbe 88 (zaf nn ts) (zaf nn ts) ?_))
 refine zb 1 [(89,vF)] (wEt (zf (zl (zc (zd (wsr (zb 1 [(90,(vI (zaf nn ts)))] ?_)))))))
 refine za (zbT 91 (zaf nn ts) 0 (fun hc91=> ?_) (fun hc91=> ?_))
 ·refine zb 3 [(94,(vI na3)),(93,(.slice a3 na3 ca3)),(92,vT)] (za (zgE 95 na3 0 ?_))
  refine zb 1 [(96,vF)] (za (zQ w12.heap.size 0 (((hBw13.ext hX3).ext hEw18).all) (zar _) ?_))
  refine zb 1 [(98,(vA (zK Dig.zero)))] (za (zaN (bo .neq 59 (.tmp 97) (.tmp 98) (vA (zK a4)) (vA (zK Dig.zero))) vF (zaj (r:=true) (T:=59) ((zbS (dd:=9998) (t:=59) (e:=5) a4 Dig.zero).trans (congrArg (fun b=>Result.ok b _) (show (a4.l==Dig.zero.l)=true from beq_iff_eq.2 (congrArg Dig.l (hXr.resolve_left hc91)))))) ?_))
  refine zb 3 [(102,(vP w14.heap.size 1)),(101,vF),(100,vF)] ?_
  have hK11:=(((hBw15.ext hEw16).ext hEw17).ext hEw18)
  refine za (zm w14.heap.size 1 (hK11.cell rfl) ?_)
  refine zb 1 [(104,(vI na6))] (za (zgE 105 na6 0 ?_))
  refine zb 3 [(108,(vP w16.heap.size 1)),(107,vF),(106,vF)] (za (zm w16.heap.size 1 ((hBw17.ext hEw18).cell rfl) ?_))
  refine zb 1 [(110,(vI na8))] (za (zgE 111 na8 0 ?_))
  refine zb 4 [(115,(vI na9)),(114,(.slice a9 na9 ca9)),(113,vF),(112,vF)] (za (zgE 116 na9 0 ?_))
  refine zb 2 [(118,vF),(117,vF)] (wEt (zf (zl (zc (zeU (X:=Nat) (fun e8=> [(8,(vI e8))]) [119,120,121,122,123,124,125,126,127,128,129,130,131,132] (fun e8 w19=>e8=za4 nn ts z.bk∧Ext w18 w19) ?_ ?_)))))
  ·refine wsr (zb 1 [(119,(vI (zaf nn ts)))] (za (zaI 120 (zaf nn ts) 0 (fun hc120=> ?_) (fun hc120=> ?_))))
   ·refine zb 2 [(122,(vP w1.heap.size 282)),(121,vT)] ?_
    have hK12:=(((((hK1.chg hCw7).chg hEj).ext hX2).ext hX3).ext hEw18)
    refine za (zm w1.heap.size 282 (hK12.cell (zfT _)) ?_)
    refine za (zmL 124 z.bk ((0:Nat):Int) (fun hc124=> ?_) (fun hc124=> ?_))
    ·exact zb 8 [(132,vT),(131,vT),(130,undef),(129,undef),(128,undef),(127,undef),(126,undef),(125,vT)] (wEt (zk (zg (zb 1 [(8,(vI 1))] (zq (zn (zbI (1) (⟨(zgL hc120 (by omega)).symm,(Ext.refl _)⟩))))))))
    ·refine zb 2 [(126,(vP w1.heap.size 282)),(125,vF)] (za (zm w1.heap.size 282 (hK12.cell (zfT _)) ?_))
     refine zb 1 [(128,(vP w4.heap.size 0))] ?_
     have hK13:=(((hK9.ext hEw16).ext hEw17).ext hEw18)
     refine za (zm w4.heap.size 0 (hK13.cell rfl) ?_)
     refine za (zo7 130 z.bk nn (fun hc130=> ?_) (fun hc130=> ?_))
     ·exact zb 2 [(132,vT),(131,vT)] (wEt (zk (zg (zb 1 [(8,(vI 1))] (zq (zn (zbI (1) (⟨(zgL hc120 (by omega)).symm,(Ext.refl _)⟩))))))))
     ·exact zb 2 [(132,vF),(131,vF)] (wEt (zf (zl (zn (zbI (zaf nn ts) (⟨hc120.trans (zic hc120 (by omega)).symm,(Ext.refl _)⟩))))))
   ·exact zb 12 [(132,vF),(131,undef),(130,undef),(129,undef),(128,undef),(127,undef),(126,undef),(125,undef),(124,undef),(123,undef),(122,undef),(121,vF)] (wEt (zf (zl (zn (zbI (zaf nn ts) (⟨(zhI hc120).symm,(Ext.refl _)⟩))))))
  rintro e8 dw19 w19 ⟨he8,hEj2⟩
  have hzj2:=hEj2.size
  refine wsr ?_
  have hK14:=((((hK9.ext hEw16).ext hEw17).ext hEw18).ext hEj2)
  refine za (zV w4.heap.size 0 (hK14.all) ?_)
  refine zb 1 [(135,(vP w1.heap.size 282))] ?_
  have hK15:=((((((hK1.chg hCw7).chg hEj).ext hX2).ext hX3).ext hEw18).ext hEj2)
  refine za (zm w1.heap.size 282 (hK15.cell (zfT _)) ?_)
  have hK16:=((((hK10.ext hEw16).ext hEw17).ext hEw18).ext hEj2)
  have hK17:=(((hK6.ext hX3).ext hEw18).ext hEj2)
  have hK18:=(((hK7.ext hX3).ext hEw18).ext hEj2)
  have hK19:=(((hK8.ext hX3).ext hEw18).ext hEj2)
  refine za (zt (zm7 nn z.bk _ hK16 hK17 hK18 hK19) ?_)
  rintro _ w20 ⟨a10,rfl,hFz9_0,hEw20⟩
  have hzw20:=hEw20.size
  refine zb 5 [(10,(vI (za4 nn ts z.bk))),(18,(.int .i64 a10)),(139,(vI (za4 nn ts z.bk))),(138,(.int .i64 a10)),(133,(.tuple #[(.int .i64 a10),(vI (za4 nn ts z.bk))]))] (wEt (zeU (X:=Nat×Int×Option Addr×Nat×Nat×Int) (fun ⟨bj19,tn,ta,tl,tc,tv⟩=> [(12,(vI (za4 nn ts z.bk))),(19,(vP bj19 0)),(20,(.int .i64 tv))]) [140,141,142,143,144,145,146,147,148,149] (fun ⟨bj19,tn,ta,tl,tc,tv⟩ w21=>Blk w21 bj19 ([(.int .i64 tn),(.slice ta tl tc)]) 38∧(za4 nn ts z.bk=0∨(tl=0∧tv=0))∧w20.heap.size≤bj19∧Ext w20 w21) ?_ ?_))
  ·refine zY 14 (fun w22 hEw22 hzw22 hT290=> ?_)
   refine zbj hT290 0 w4.heap.size 0 (fun w' hC=>((((hK14.ext hEw20).ext hEw22).ext hC).all)) (ze hT290 [(1,142,(vP w1.heap.size 282))] 1 (zx hT290 2 w1.heap.size 282 (fun w' hC=>((((hK15.ext hEw20).ext hEw22).ext hC).cell (zfT _))) (ze hT290 [(4,145,(vA (zK Dig.zero)))] 1 (zbB 3 10 ?_ ?_))))
   ·refine zt (zdB 1 _ (by first | omega | decide | exact UInt8.toNat_lt _)) ?_
    rintro _ w23 ⟨rfl,hEw23⟩
    have hzw23:=hEw23.size
    refine ⟨.inr hEw23, ?_⟩
    refine zbB 5 10 ?_ ?_
    ·have hK20:=(((hK16.ext hEw20).ext hEw22).ext hEw23)
     have hK21:=(((hK17.ext hEw20).ext hEw22).ext hEw23)
     have hK22:=(((hK18.ext hEw20).ext hEw22).ext hEw23)
     have hK23:=(((hK19.ext hEw20).ext hEw22).ext hEw23)
     refine zt (zgi nn z.bk (zb3 1) Dig.zero _ hK20 hK21 hK22 hK23) ?_
     rintro _ w24 ⟨a11,a12,na12,ca12,a13,rfl,hFz11_0,hEw24⟩
     have hzw24:=hEw24.size
     have hXs:=hFz11_0
     have hX4:Ext w22 w24:=(hEw23.trans hEw24)
     refine ⟨.inr hX4, ?_⟩
     refine ze (hw:=hX4) hT290 [(6,140,(.tuple #[(vA [(.int .i64 a11),(.slice a12 na12 ca12)]),(.int .i64 a13),(vI (za4 nn ts z.bk))])),(7,147,(vA [(.int .i64 a11),(.slice a12 na12 ca12)])),(8,148,(.int .i64 a13)),(9,149,(vI (za4 nn ts z.bk)))] 4 (zy 10 (zad ([(vI 0),(.slice none 0 0)]) 38 ?_))
     intro w25 hBw25 hEw25 hzw25 hlw25
     have hX5:Ext w22 w25:=((hEw23.trans hEw24).trans hEw25)
     refine ⟨.inr hX5, ?_⟩
     refine zy 11 (zC 38 w24.heap.size 0 38 (vA [(.int .i64 a11),(.slice a12 na12 ca12)]) ([(vI 0),(.slice none 0 0)]) ([(.int .i64 a11),(.slice a12 na12 ca12)]) hBw25 (by kernel_rfl) (by first | decide |(simp;done)|(simp;omega)) (by simp [Value.oneCell']) ?_)
     intro w26 hBw26 hCw26
     have hzw26:=hCw26.size
     rw [zv _ _ (by kernel_rfl)] at hBw26
     have hX6:Ext w22 w26:=(Ext.own ((hEw23.trans hEw24).trans hEw25) hCw26 (by omega))
     refine ⟨.inr hX6, ?_⟩
     exact ze (hw:=hX6) hT290 [(12,20,(.int .i64 a13)),(13,12,(vI (za4 nn ts z.bk)))] 2 (zB (zn (zbI (w24.heap.size,a11,a12,na12,ca12,a13) (⟨hBw26,hXs,by omega,(hEw22.trans hX6)⟩))))
    ·refine zad ([(vI 0),(.slice none 0 0)]) 38 ?_
     intro w27 hBw27 hEw27 hzw27 hlw27
     have hX7:Ext w22 w27:=(hEw23.trans hEw27)
     refine ⟨.inr hX7, ?_⟩
     have hK24:=((((hK16.ext hEw20).ext hEw22).ext hEw23).ext hEw27)
     have hK25:=((((hK17.ext hEw20).ext hEw22).ext hEw23).ext hEw27)
     have hK26:=((((hK18.ext hEw20).ext hEw22).ext hEw23).ext hEw27)
     have hK27:=((((hK19.ext hEw20).ext hEw22).ext hEw23).ext hEw27)
     refine zy 5 (zt (zgi nn z.bk (zb3 1) Dig.zero _ hK24 hK25 hK26 hK27) ?_)
     rintro _ w28 ⟨a14,a15,na15,ca15,a16,rfl,hFz12_0,hEw28⟩
     have hzw28:=hEw28.size
     have hXs:=hFz12_0
     have hX8:Ext w22 w28:=((hEw23.trans hEw27).trans hEw28)
     refine ⟨.inr hX8, ?_⟩
     refine ze (hw:=hX8) hT290 [(6,140,(.tuple #[(vA [(.int .i64 a14),(.slice a15 na15 ca15)]),(.int .i64 a16),(vI (za4 nn ts z.bk))])),(7,147,(vA [(.int .i64 a14),(.slice a15 na15 ca15)])),(8,148,(.int .i64 a16)),(9,149,(vI (za4 nn ts z.bk)))] 4 (zy 11 (zC 38 w23.heap.size 0 38 (vA [(.int .i64 a14),(.slice a15 na15 ca15)]) ([(vI 0),(.slice none 0 0)]) ([(.int .i64 a14),(.slice a15 na15 ca15)]) (hBw27.ext hEw28) (by kernel_rfl) (by first | decide |(simp;done)|(simp;omega)) (by simp [Value.oneCell']) ?_))
     intro w29 hBw29 hCw29
     have hzw29:=hCw29.size
     rw [zv _ _ (by kernel_rfl)] at hBw29
     have hX9:Ext w22 w29:=(Ext.own ((hEw23.trans hEw27).trans hEw28) hCw29 (by omega))
     refine ⟨.inr hX9, ?_⟩
     exact ze (hw:=hX9) hT290 [(12,20,(.int .i64 a16)),(13,12,(vI (za4 nn ts z.bk)))] 2 (zB (zn (zbI (w23.heap.size,a14,a15,na15,ca15,a16) (⟨hBw29,hXs,by omega,(hEw22.trans hX9)⟩))))
   ·refine zad ([(vI 0),(.slice none 0 0)]) 38 ?_
    intro w30 hBw30 hEw30 hzw30 hlw30
    refine ⟨.inr hEw30, ?_⟩
    refine zy 3 (zt (zdB 1 _ (by first | omega | decide | exact UInt8.toNat_lt _)) ?_)
    rintro _ w31 ⟨rfl,hEw31⟩
    have hzw31:=hEw31.size
    have hX10:Ext w22 w31:=(hEw30.trans hEw31)
    refine ⟨.inr hX10, ?_⟩
    have hK28:=((((hK16.ext hEw20).ext hEw22).ext hEw30).ext hEw31)
    have hK29:=((((hK17.ext hEw20).ext hEw22).ext hEw30).ext hEw31)
    have hK30:=((((hK18.ext hEw20).ext hEw22).ext hEw30).ext hEw31)
    have hK31:=((((hK19.ext hEw20).ext hEw22).ext hEw30).ext hEw31)
    refine zy 5 (zt (zgi nn z.bk (zb3 1) Dig.zero _ hK28 hK29 hK30 hK31) ?_)
    rintro _ w32 ⟨a17,a18,na18,ca18,a19,rfl,hFz14_0,hEw32⟩
    have hzw32:=hEw32.size
    have hXs:=hFz14_0
    have hX11:Ext w22 w32:=((hEw30.trans hEw31).trans hEw32)
    refine ⟨.inr hX11, ?_⟩
    refine ze (hw:=hX11) hT290 [(6,140,(.tuple #[(vA [(.int .i64 a17),(.slice a18 na18 ca18)]),(.int .i64 a19),(vI (za4 nn ts z.bk))])),(7,147,(vA [(.int .i64 a17),(.slice a18 na18 ca18)])),(8,148,(.int .i64 a19)),(9,149,(vI (za4 nn ts z.bk)))] 4 (zy 11 (zC 38 w22.heap.size 0 38 (vA [(.int .i64 a17),(.slice a18 na18 ca18)]) ([(vI 0),(.slice none 0 0)]) ([(.int .i64 a17),(.slice a18 na18 ca18)]) ((hBw30.ext hEw31).ext hEw32) (by kernel_rfl) (by first | decide |(simp;done)|(simp;omega)) (by simp [Value.oneCell']) ?_))
    intro w33 hBw33 hCw33
    have hzw33:=hCw33.size
    rw [zv _ _ (by kernel_rfl)] at hBw33
    have hX12:Ext w22 w33:=(Ext.own ((hEw30.trans hEw31).trans hEw32) hCw33 (by omega))
    refine ⟨.inr hX12, ?_⟩
    exact ze (hw:=hX12) hT290 [(12,20,(.int .i64 a19)),(13,12,(vI (za4 nn ts z.bk)))] 2 (zB (zn (zbI (w22.heap.size,a17,a18,na18,ca18,a19) (⟨hBw33,hXs,by omega,(hEw22.trans hX12)⟩))))
  rintro ⟨bj19,tn,ta,tl,tc,tv⟩ dw21 w21 ⟨hJ19,hXs,hJs19,hEj3⟩
  have hzj3:=hEj3.size
  have hJl19:=hJ19.lt
  refine wsr (za (zV w4.heap.size 0 (((hK14.ext hEw20).ext hEj3).all) ?_))
  refine zb 1 [(152,(vP w1.heap.size 282))] (za (zm w1.heap.size 282 (((hK15.ext hEw20).ext hEj3).cell (zfT _)) ?_))
  refine za (zt (znj nn z.bk _ ((hK16.ext hEw20).ext hEj3) ((hK17.ext hEw20).ext hEj3) ((hK18.ext hEw20).ext hEj3) ((hK19.ext hEw20).ext hEj3)) ?_)
  rintro _ w34 ⟨a20,rfl,hFz15_0,hEw34⟩
  have hzw34:=hEw34.size
  have hXc:=hFz15_0
  refine zb 3 [(156,(vI (za4 nn ts z.bk))),(155,(vA (zL a20))),(150,(.tuple #[(vA (zL a20)),(vI (za4 nn ts z.bk))]))] (zal (zL a20) 68 (zab _) (zbi _) ?_)
  intro w35 hBw35 hEw35 hzw35 hlw35
  refine zb 1 [(14,(vI (za4 nn ts z.bk)))] (zM (zb 2 [(158,(vI e8)),(157,(vI (za4 nn ts z.bk)))] (za (zbe 159 (za4 nn ts z.bk) e8 ?_))))
  refine zb 3 [(162,(vI e8)),(161,(vI (za4 nn ts z.bk))),(160,vF)] (za (zbe 163 (za4 nn ts z.bk) e8 ?_))
  refine zb 4 [(167,(vI e8)),(166,(vI (za4 nn ts z.bk))),(165,vF),(164,vF)] (za (zbe 168 (za4 nn ts z.bk) e8 ?_))
  refine zb 1 [(169,vF)] (wEt (zf (zl (zc (wsr (zb 1 [(170,(vI e8))] (za (zaI 171 e8 0 (fun hc171=> ?_) (fun hc171=> ?_)))))))))
  ·refine zb 20 [(191,vT),(190,vT),(189,undef),(188,undef),(187,undef),(186,undef),(185,undef),(184,undef),(183,undef),(182,undef),(181,undef),(180,undef),(179,undef),(178,undef),(177,undef),(176,undef),(175,undef),(174,undef),(173,undef),(172,vT)] ?_
   have hK32:=((((hK17.ext hEw20).ext hEj3).ext hEw34).ext hEw35)
   have hK33:=((((hK18.ext hEw20).ext hEj3).ext hEw34).ext hEw35)
   have hK34:=((((hK19.ext hEw20).ext hEj3).ext hEw34).ext hEw35)
   have hX13:=((hEw18.trans hEj2).trans hEw20).trans hEj3
   have hK35:=((((((((((hg3.ext hX1).ext hEw5).ext hEw6).chg hCw7).chg hEj).ext hX2).ext hX3).ext hX13).ext hEw34).ext hEw35)
   refine za (zt (zgM _ hK32 hK33 hK34 hK35) ?_)
   rintro _ w36 ⟨rfl,hEw36⟩
   have hzw36:=hEw36.size
   refine zb 2 [(6,vT),(193,vT)] (zF (zh vT ?_))
   have hX14:Ext w w36:=(((((((Ext.own (Ext.own ((hX1.trans hEw5).trans hEw6) hCw7 (by omega)) hEj (by omega)).trans hX2).trans hX3).trans hX13).trans hEw34).trans hEw35).trans hEw36)
   exact ⟨rfl,hX14⟩
  ·refine zb 2 [(173,(.int .i64 a10)),(172,vF)] (za (zbn (some 174) (a10==((0:Nat):Int)) true (zc8) ?_))
   refine zb 2 [(176,(.int .i64 tv)),(175,vT)] (za (zbn (some 177) (tv==((0:Nat):Int)) true (zc8) ?_))
   refine zb 3 [(180,(vP bj19 1)),(179,vT),(178,vT)] (za (zm bj19 1 (((hJ19.ext hEw34).ext hEw35).cell rfl) ?_))
   refine zb 1 [(182,(vI tl))] (za (zdI 183 tl 0 ?_))
   refine zb 2 [(185,vT),(184,vT)] (za (zQ w34.heap.size 0 (hBw35.all) (zab _) ?_))
   refine zb 1 [(187,(vA (zL Rec.zero)))] (za (zaN (bo .eql 68 (.tmp 186) (.tmp 187) (vA (zL a20)) (vA (zL Rec.zero))) vT (zeF (r:=true) (T:=68) ((zcd (dd:=9997) (t:=68) (t8:=5) (tn:=56) (td:=59) (e:=5) (t32:=53) (t64:=54) a20 Rec.zero).trans (congrArg (fun b=>Result.ok b _) (show (a20.eqb Rec.zero)=true from (Rec.eqb_iff _ _).2 (hXc.resolve_left (by omega)))))) ?_))
   refine zb 3 [(191,vT),(190,vT),(189,vT)] ?_
   have hK36:=((((hK17.ext hEw20).ext hEj3).ext hEw34).ext hEw35)
   have hK37:=((((hK18.ext hEw20).ext hEj3).ext hEw34).ext hEw35)
   have hK38:=((((hK19.ext hEw20).ext hEj3).ext hEw34).ext hEw35)
   have hX15:=((hEw18.trans hEj2).trans hEw20).trans hEj3
   have hK39:=((((((((((hg3.ext hX1).ext hEw5).ext hEw6).chg hCw7).chg hEj).ext hX2).ext hX3).ext hX15).ext hEw34).ext hEw35)
   refine za (zt (zgM _ hK36 hK37 hK38 hK39) ?_)
   rintro _ w37 ⟨rfl,hEw37⟩
   have hzw37:=hEw37.size
   refine zb 2 [(6,vT),(193,vT)] (zF (zh vT ?_))
   have hX16:Ext w w37:=(((((((Ext.own (Ext.own ((hX1.trans hEw5).trans hEw6) hCw7 (by omega)) hEj (by omega)).trans hX2).trans hX3).trans hX15).trans hEw34).trans hEw35).trans hEw37)
   exact ⟨rfl,hX16⟩
 ·refine zb 27 [(118,vF),(117,undef),(116,undef),(115,undef),(114,undef),(113,undef),(112,undef),(111,undef),(110,undef),(109,undef),(108,undef),(107,undef),(106,undef),(105,undef),(104,undef),(103,undef),(102,undef),(101,undef),(100,undef),(99,undef),(98,undef),(97,undef),(96,undef),(95,undef),(94,undef),(93,undef),(92,vF)] (wEt (zf (zl (zc (zeU (X:=Nat) (fun e8=> [(8,(vI e8))]) [119,120,121,122,123,124,125,126,127,128,129,130,131,132] (fun e8 w38=>e8=za4 nn ts z.bk∧Ext w18 w38) ?_ ?_)))))
  ·refine wsr (zb 1 [(119,(vI (zaf nn ts)))] (za (zaI 120 (zaf nn ts) 0 (fun hc120=> ?_) (fun hc120=> ?_))))
   ·refine zb 2 [(122,(vP w1.heap.size 282)),(121,vT)] ?_
    have hK40:=(((((hK1.chg hCw7).chg hEj).ext hX2).ext hX3).ext hEw18)
    refine za (zm w1.heap.size 282 (hK40.cell (zfT _)) ?_)
    refine za (zmL 124 z.bk ((0:Nat):Int) (fun hc124=> ?_) (fun hc124=> ?_))
    ·exact zb 8 [(132,vT),(131,vT),(130,undef),(129,undef),(128,undef),(127,undef),(126,undef),(125,vT)] (wEt (zk (zg (zb 1 [(8,(vI 1))] (zq (zn (zbI (1) (⟨(zgL hc120 (by omega)).symm,(Ext.refl _)⟩))))))))
    ·refine zb 2 [(126,(vP w1.heap.size 282)),(125,vF)] (za (zm w1.heap.size 282 (hK40.cell (zfT _)) ?_))
     refine zb 1 [(128,(vP w4.heap.size 0))] ?_
     have hK41:=(((hK9.ext hEw16).ext hEw17).ext hEw18)
     refine za (zm w4.heap.size 0 (hK41.cell rfl) ?_)
     refine za (zo7 130 z.bk nn (fun hc130=> ?_) (fun hc130=> ?_))
     ·exact zb 2 [(132,vT),(131,vT)] (wEt (zk (zg (zb 1 [(8,(vI 1))] (zq (zn (zbI (1) (⟨(zgL hc120 (by omega)).symm,(Ext.refl _)⟩))))))))
     ·exact zb 2 [(132,vF),(131,vF)] (wEt (zf (zl (zn (zbI (zaf nn ts) (⟨hc120.trans (zic hc120 (by omega)).symm,(Ext.refl _)⟩))))))
   ·exact zb 12 [(132,vF),(131,undef),(130,undef),(129,undef),(128,undef),(127,undef),(126,undef),(125,undef),(124,undef),(123,undef),(122,undef),(121,vF)] (wEt (zf (zl (zn (zbI (zaf nn ts) (⟨(zhI hc120).symm,(Ext.refl _)⟩))))))
  rintro e8 dw38 w38 ⟨he8,hEj2⟩
  have hzj2:=hEj2.size
  refine wsr ?_
  have hK42:=((((hK9.ext hEw16).ext hEw17).ext hEw18).ext hEj2)
  refine za (zV w4.heap.size 0 (hK42.all) ?_)
  refine zb 1 [(135,(vP w1.heap.size 282))] ?_
  have hK43:=((((((hK1.chg hCw7).chg hEj).ext hX2).ext hX3).ext hEw18).ext hEj2)
  refine za (zm w1.heap.size 282 (hK43.cell (zfT _)) ?_)
  have hK44:=((((hK10.ext hEw16).ext hEw17).ext hEw18).ext hEj2)
  have hK45:=(((hK6.ext hX3).ext hEw18).ext hEj2)
  have hK46:=(((hK7.ext hX3).ext hEw18).ext hEj2)
  have hK47:=(((hK8.ext hX3).ext hEw18).ext hEj2)
  refine za (zt (zm7 nn z.bk _ hK44 hK45 hK46 hK47) ?_)
  rintro _ w39 ⟨a21,rfl,hFz18_0,hEw39⟩
  have hzw39:=hEw39.size
  refine zb 5 [(10,(vI (za4 nn ts z.bk))),(18,(.int .i64 a21)),(139,(vI (za4 nn ts z.bk))),(138,(.int .i64 a21)),(133,(.tuple #[(.int .i64 a21),(vI (za4 nn ts z.bk))]))] (wEt (zeU (X:=Nat×Int×Option Addr×Nat×Nat×Int) (fun ⟨bj19,tn,ta,tl,tc,tv⟩=> [(12,(vI (za4 nn ts z.bk))),(19,(vP bj19 0)),(20,(.int .i64 tv))]) [140,141,142,143,144,145,146,147,148,149] (fun ⟨bj19,tn,ta,tl,tc,tv⟩ w40=>Blk w40 bj19 ([(.int .i64 tn),(.slice ta tl tc)]) 38∧(za4 nn ts z.bk=0∨(tl=0∧tv=0))∧w39.heap.size≤bj19∧Ext w39 w40) ?_ ?_))
  ·refine zY 14 (fun w41 hEw41 hzw41 hT541=> ?_)
   refine zbj hT541 0 w4.heap.size 0 (fun w' hC=>((((hK42.ext hEw39).ext hEw41).ext hC).all)) (ze hT541 [(1,142,(vP w1.heap.size 282))] 1 (zx hT541 2 w1.heap.size 282 (fun w' hC=>((((hK43.ext hEw39).ext hEw41).ext hC).cell (zfT _))) (ze hT541 [(4,145,(vA (zK Dig.zero)))] 1 (zbB 3 10 ?_ ?_))))
   ·refine zt (zdB 1 _ (by first | omega | decide | exact UInt8.toNat_lt _)) ?_
    rintro _ w42 ⟨rfl,hEw42⟩
    have hzw42:=hEw42.size
    refine ⟨.inr hEw42, ?_⟩
    refine zbB 5 10 ?_ ?_
    ·have hK48:=(((hK44.ext hEw39).ext hEw41).ext hEw42)
     have hK49:=(((hK45.ext hEw39).ext hEw41).ext hEw42)
     have hK50:=(((hK46.ext hEw39).ext hEw41).ext hEw42)
     have hK51:=(((hK47.ext hEw39).ext hEw41).ext hEw42)
     refine zt (zgi nn z.bk (zb3 1) Dig.zero _ hK48 hK49 hK50 hK51) ?_
     rintro _ w43 ⟨a22,a23,na23,ca23,a24,rfl,hFz20_0,hEw43⟩
     have hzw43:=hEw43.size
     have hXs:=hFz20_0
     have hX17:Ext w41 w43:=(hEw42.trans hEw43)
     refine ⟨.inr hX17, ?_⟩
     refine ze (hw:=hX17) hT541 [(6,140,(.tuple #[(vA [(.int .i64 a22),(.slice a23 na23 ca23)]),(.int .i64 a24),(vI (za4 nn ts z.bk))])),(7,147,(vA [(.int .i64 a22),(.slice a23 na23 ca23)])),(8,148,(.int .i64 a24)),(9,149,(vI (za4 nn ts z.bk)))] 4 (zy 10 (zad ([(vI 0),(.slice none 0 0)]) 38 ?_))
     intro w44 hBw44 hEw44 hzw44 hlw44
     have hX18:Ext w41 w44:=((hEw42.trans hEw43).trans hEw44)
     refine ⟨.inr hX18, ?_⟩
     refine zy 11 (zC 38 w43.heap.size 0 38 (vA [(.int .i64 a22),(.slice a23 na23 ca23)]) ([(vI 0),(.slice none 0 0)]) ([(.int .i64 a22),(.slice a23 na23 ca23)]) hBw44 (by kernel_rfl) (by first | decide |(simp;done)|(simp;omega)) (by simp [Value.oneCell']) ?_)
     intro w45 hBw45 hCw45
     have hzw45:=hCw45.size
     rw [zv _ _ (by kernel_rfl)] at hBw45
     have hX19:Ext w41 w45:=(Ext.own ((hEw42.trans hEw43).trans hEw44) hCw45 (by omega))
     refine ⟨.inr hX19, ?_⟩
     exact ze (hw:=hX19) hT541 [(12,20,(.int .i64 a24)),(13,12,(vI (za4 nn ts z.bk)))] 2 (zB (zn (zbI (w43.heap.size,a22,a23,na23,ca23,a24) (⟨hBw45,hXs,by omega,(hEw41.trans hX19)⟩))))
    ·refine zad ([(vI 0),(.slice none 0 0)]) 38 ?_
     intro w46 hBw46 hEw46 hzw46 hlw46
     have hX20:Ext w41 w46:=(hEw42.trans hEw46)
     refine ⟨.inr hX20, ?_⟩
     have hK52:=((((hK44.ext hEw39).ext hEw41).ext hEw42).ext hEw46)
     have hK53:=((((hK45.ext hEw39).ext hEw41).ext hEw42).ext hEw46)
     have hK54:=((((hK46.ext hEw39).ext hEw41).ext hEw42).ext hEw46)
     have hK55:=((((hK47.ext hEw39).ext hEw41).ext hEw42).ext hEw46)
     refine zy 5 (zt (zgi nn z.bk (zb3 1) Dig.zero _ hK52 hK53 hK54 hK55) ?_)
     rintro _ w47 ⟨a25,a26,na26,ca26,a27,rfl,hFz21_0,hEw47⟩
     have hzw47:=hEw47.size
     have hXs:=hFz21_0
     have hX21:Ext w41 w47:=((hEw42.trans hEw46).trans hEw47)
     refine ⟨.inr hX21, ?_⟩
     refine ze (hw:=hX21) hT541 [(6,140,(.tuple #[(vA [(.int .i64 a25),(.slice a26 na26 ca26)]),(.int .i64 a27),(vI (za4 nn ts z.bk))])),(7,147,(vA [(.int .i64 a25),(.slice a26 na26 ca26)])),(8,148,(.int .i64 a27)),(9,149,(vI (za4 nn ts z.bk)))] 4 (zy 11 (zC 38 w42.heap.size 0 38 (vA [(.int .i64 a25),(.slice a26 na26 ca26)]) ([(vI 0),(.slice none 0 0)]) ([(.int .i64 a25),(.slice a26 na26 ca26)]) (hBw46.ext hEw47) (by kernel_rfl) (by first | decide |(simp;done)|(simp;omega)) (by simp [Value.oneCell']) ?_))
     intro w48 hBw48 hCw48
     have hzw48:=hCw48.size
     rw [zv _ _ (by kernel_rfl)] at hBw48
     have hX22:Ext w41 w48:=(Ext.own ((hEw42.trans hEw46).trans hEw47) hCw48 (by omega))
     refine ⟨.inr hX22, ?_⟩
     exact ze (hw:=hX22) hT541 [(12,20,(.int .i64 a27)),(13,12,(vI (za4 nn ts z.bk)))] 2 (zB (zn (zbI (w42.heap.size,a25,a26,na26,ca26,a27) (⟨hBw48,hXs,by omega,(hEw41.trans hX22)⟩))))
   ·refine zad ([(vI 0),(.slice none 0 0)]) 38 ?_
    intro w49 hBw49 hEw49 hzw49 hlw49
    refine ⟨.inr hEw49, ?_⟩
    refine zy 3 (zt (zdB 1 _ (by first | omega | decide | exact UInt8.toNat_lt _)) ?_)
    rintro _ w50 ⟨rfl,hEw50⟩
    have hzw50:=hEw50.size
    have hX23:Ext w41 w50:=(hEw49.trans hEw50)
    refine ⟨.inr hX23, ?_⟩
    have hK56:=((((hK44.ext hEw39).ext hEw41).ext hEw49).ext hEw50)
    have hK57:=((((hK45.ext hEw39).ext hEw41).ext hEw49).ext hEw50)
    have hK58:=((((hK46.ext hEw39).ext hEw41).ext hEw49).ext hEw50)
    have hK59:=((((hK47.ext hEw39).ext hEw41).ext hEw49).ext hEw50)
    refine zy 5 (zt (zgi nn z.bk (zb3 1) Dig.zero _ hK56 hK57 hK58 hK59) ?_)
    rintro _ w51 ⟨a28,a29,na29,ca29,a30,rfl,hFz23_0,hEw51⟩
    have hzw51:=hEw51.size
    have hXs:=hFz23_0
    have hX24:Ext w41 w51:=((hEw49.trans hEw50).trans hEw51)
    refine ⟨.inr hX24, ?_⟩
    refine ze (hw:=hX24) hT541 [(6,140,(.tuple #[(vA [(.int .i64 a28),(.slice a29 na29 ca29)]),(.int .i64 a30),(vI (za4 nn ts z.bk))])),(7,147,(vA [(.int .i64 a28),(.slice a29 na29 ca29)])),(8,148,(.int .i64 a30)),(9,149,(vI (za4 nn ts z.bk)))] 4 (zy 11 (zC 38 w41.heap.size 0 38 (vA [(.int .i64 a28),(.slice a29 na29 ca29)]) ([(vI 0),(.slice none 0 0)]) ([(.int .i64 a28),(.slice a29 na29 ca29)]) ((hBw49.ext hEw50).ext hEw51) (by kernel_rfl) (by first | decide |(simp;done)|(simp;omega)) (by simp [Value.oneCell']) ?_))
    intro w52 hBw52 hCw52
    have hzw52:=hCw52.size
    rw [zv _ _ (by kernel_rfl)] at hBw52
    have hX25:Ext w41 w52:=(Ext.own ((hEw49.trans hEw50).trans hEw51) hCw52 (by omega))
    refine ⟨.inr hX25, ?_⟩
    exact ze (hw:=hX25) hT541 [(12,20,(.int .i64 a30)),(13,12,(vI (za4 nn ts z.bk)))] 2 (zB (zn (zbI (w41.heap.size,a28,a29,na29,ca29,a30) (⟨hBw52,hXs,by omega,(hEw41.trans hX25)⟩))))
  rintro ⟨bj19,tn,ta,tl,tc,tv⟩ dw40 w40 ⟨hJ19,hXs,hJs19,hEj3⟩
  have hzj3:=hEj3.size
  have hJl19:=hJ19.lt
  refine wsr (za (zV w4.heap.size 0 (((hK42.ext hEw39).ext hEj3).all) ?_))
  refine zb 1 [(152,(vP w1.heap.size 282))] (za (zm w1.heap.size 282 (((hK43.ext hEw39).ext hEj3).cell (zfT _)) ?_))
  refine za (zt (znj nn z.bk _ ((hK44.ext hEw39).ext hEj3) ((hK45.ext hEw39).ext hEj3) ((hK46.ext hEw39).ext hEj3) ((hK47.ext hEw39).ext hEj3)) ?_)
  rintro _ w53 ⟨a31,rfl,hFz24_0,hEw53⟩
  have hzw53:=hEw53.size
  have hXc:=hFz24_0
  refine zb 3 [(156,(vI (za4 nn ts z.bk))),(155,(vA (zL a31))),(150,(.tuple #[(vA (zL a31)),(vI (za4 nn ts z.bk))]))] (zal (zL a31) 68 (zab _) (zbi _) ?_)
  intro w54 hBw54 hEw54 hzw54 hlw54
  refine zb 1 [(14,(vI (za4 nn ts z.bk)))] (zM (zb 2 [(158,(vI e8)),(157,(vI (za4 nn ts z.bk)))] (za (zbe 159 (za4 nn ts z.bk) e8 ?_))))
  refine zb 3 [(162,(vI e8)),(161,(vI (za4 nn ts z.bk))),(160,vF)] (za (zbe 163 (za4 nn ts z.bk) e8 ?_))
  refine zb 4 [(167,(vI e8)),(166,(vI (za4 nn ts z.bk))),(165,vF),(164,vF)] (za (zbe 168 (za4 nn ts z.bk) e8 ?_))
  refine zb 1 [(169,vF)] (wEt (zf (zl (zc (wsr (zb 1 [(170,(vI e8))] (za (zaI 171 e8 0 (fun hc171=> ?_) (fun hc171=> ?_)))))))))
  ·refine zb 20 [(191,vT),(190,vT),(189,undef),(188,undef),(187,undef),(186,undef),(185,undef),(184,undef),(183,undef),(182,undef),(181,undef),(180,undef),(179,undef),(178,undef),(177,undef),(176,undef),(175,undef),(174,undef),(173,undef),(172,vT)] ?_
   have hK60:=((((hK45.ext hEw39).ext hEj3).ext hEw53).ext hEw54)
   have hK61:=((((hK46.ext hEw39).ext hEj3).ext hEw53).ext hEw54)
   have hK62:=((((hK47.ext hEw39).ext hEj3).ext hEw53).ext hEw54)
   have hX26:=((hEw18.trans hEj2).trans hEw39).trans hEj3
   have hK63:=((((((((((hg3.ext hX1).ext hEw5).ext hEw6).chg hCw7).chg hEj).ext hX2).ext hX3).ext hX26).ext hEw53).ext hEw54)
   refine za (zt (zgM _ hK60 hK61 hK62 hK63) ?_)
   rintro _ w55 ⟨rfl,hEw55⟩
   have hzw55:=hEw55.size
   refine zb 2 [(6,vT),(193,vT)] (zF (zh vT ?_))
   have hX27:Ext w w55:=(((((((Ext.own (Ext.own ((hX1.trans hEw5).trans hEw6) hCw7 (by omega)) hEj (by omega)).trans hX2).trans hX3).trans hX26).trans hEw53).trans hEw54).trans hEw55)
   exact ⟨rfl,hX27⟩
  ·refine zb 2 [(173,(.int .i64 a21)),(172,vF)] (za (zbn (some 174) (a21==((0:Nat):Int)) true (zc8) ?_))
   refine zb 2 [(176,(.int .i64 tv)),(175,vT)] (za (zbn (some 177) (tv==((0:Nat):Int)) true (zc8) ?_))
   refine zb 3 [(180,(vP bj19 1)),(179,vT),(178,vT)] (za (zm bj19 1 (((hJ19.ext hEw53).ext hEw54).cell rfl) ?_))
   refine zb 1 [(182,(vI tl))] (za (zdI 183 tl 0 ?_))
   refine zb 2 [(185,vT),(184,vT)] (za (zQ w53.heap.size 0 (hBw54.all) (zab _) ?_))
   refine zb 1 [(187,(vA (zL Rec.zero)))] (za (zaN (bo .eql 68 (.tmp 186) (.tmp 187) (vA (zL a31)) (vA (zL Rec.zero))) vT (zeF (r:=true) (T:=68) ((zcd (dd:=9997) (t:=68) (t8:=5) (tn:=56) (td:=59) (e:=5) (t32:=53) (t64:=54) a31 Rec.zero).trans (congrArg (fun b=>Result.ok b _) (show (a31.eqb Rec.zero)=true from (Rec.eqb_iff _ _).2 (hXc.resolve_left (by omega)))))) ?_))
   refine zb 3 [(191,vT),(190,vT),(189,vT)] ?_
   have hK64:=((((hK45.ext hEw39).ext hEj3).ext hEw53).ext hEw54)
   have hK65:=((((hK46.ext hEw39).ext hEj3).ext hEw53).ext hEw54)
   have hK66:=((((hK47.ext hEw39).ext hEj3).ext hEw53).ext hEw54)
   have hX28:=((hEw18.trans hEj2).trans hEw39).trans hEj3
   have hK67:=((((((((((hg3.ext hX1).ext hEw5).ext hEw6).chg hCw7).chg hEj).ext hX2).ext hX3).ext hX28).ext hEw53).ext hEw54)
   refine za (zt (zgM _ hK64 hK65 hK66 hK67) ?_)
   rintro _ w56 ⟨rfl,hEw56⟩
   have hzw56:=hEw56.size
   refine zb 2 [(6,vT),(193,vT)] (zF (zh vT ?_))
   have hX29:Ext w w56:=(((((((Ext.own (Ext.own ((hX1.trans hEw5).trans hEw6) hCw7 (by omega)) hEj (by omega)).trans hX2).trans hX3).trans hX28).trans hEw53).trans hEw54).trans hEw56)
   exact ⟨rfl,hX29⟩
end Go.Proofs.YtkmhgepdhilllaaGreatDoor
namespace Go.Cs
open Go Go.ChangeShapes Go.WideShapes Go.ChangeAt Go.RowKit
section
variable {H:Type} {enc:TypeId×Value→H} {P:Program} {W:World} {base:Nat} {sp:Nat→Bool} {held:Bool}
def Rd (enc:TypeId×Value→H) (P:Program) (W:World) (base:Nat) (sp:Nat→Bool) (held:Bool) (t:TypeId) (cs:List Value):Prop:=∃fuel r,DataW.trod enc P W base sp held fuel t cs=some r
theorem zf9 {α β:Type} {f:α→Option β}:∀{xs:List α} {ys:List β},xs.mapM f=some ys→∀x∈xs,∃y,f x=some y
 | [],_,_,x,hx=>by simp at hx
 | a::xs,ys,h,x,hx=>by
  simp only [List.mapM_cons,Option.bind_eq_bind,Option.bind_eq_some_iff] at h
  obtain ⟨y,hy,zs,hz,_⟩:=h
  rcases List.mem_cons.1 hx with rfl | hx
  ·exact ⟨y,hy⟩
  ·exact zf9 hz x hx
theorem zcT {t:TypeId} {k:IntKind} {cs:List Value} (h:Rd enc P W base sp held t cs) (ht:P.underlying t=some (.int k)):∃n,cs= [.int k n]∧(Lit.int k n).wf=true:=by
 obtain ⟨fuel,r,hf⟩:=h
 obtain ⟨n,h1,_,h3⟩:=DataW.trod_int ht hf
 exact ⟨n,h1,h3⟩
theorem zb7 {t:TypeId} {cs:List Value} {x:Bool×TypeId×Nat} {xs:List (Bool×TypeId×Nat)} (h:Rd enc P W base sp held t cs) (hF:zay P t=x::xs):
  cs.length=P.cellsOf t∧∀y∈x::xs,Rd enc P W base sp held y.2.1 ((cs.drop y.2.2).take (P.cellsOf y.2.1)):=by
 obtain ⟨fuel,r,hf⟩:=h
 have hu:=zc0 ⟨x,xs,hF⟩
 cases fuel with
 | zero=>simp [DataW.trod] at hf
 | succ fuel=>
  rw [DataW.trod.eq_def] at hf
  simp only [hu] at hf
  split at hf
  ·next hl=>
   refine ⟨hl,fun y hy=> ?_⟩
   simp only [Option.map_eq_some_iff] at hf
   obtain ⟨zs,hz,_⟩:=hf
   rw [←hF,zay,List.mem_map] at hy
   obtain ⟨f,hf1,rfl⟩:=hy
   obtain ⟨z,hz2⟩:=zf9 hz f hf1
   exact ⟨fuel,z,hz2⟩
  ·cases hf
theorem zem {t e:TypeId} {n:Nat} {cs:List Value} (h:Rd enc P W base sp held t cs) (hu:P.underlying t=some (.array n e)):
  cs.length=P.cellsOf t∧∀i,i<n→Rd enc P W base sp held e ((cs.drop (i*P.cellsOf e)).take (P.cellsOf e)):=by
 obtain ⟨fuel,r,hf⟩:=h
 cases fuel with
 | zero=>simp [DataW.trod] at hf
 | succ fuel=>
  rw [DataW.trod.eq_def] at hf
  simp only [hu] at hf
  split at hf
  ·next hl=>
   refine ⟨hl,fun i hi=> ?_⟩
   simp only [Option.map_eq_some_iff] at hf
   obtain ⟨zs,hz,_⟩:=hf
   obtain ⟨z,hz2⟩:=zf9 hz i (List.mem_range.2 hi)
   exact ⟨fuel,z,hz2⟩
  ·cases hf
theorem zmo {t e:TypeId} {cs:List Value} (h:Rd enc P W base sp held t cs) (hu:P.underlying t=some (.array 32 e)) (he:P.underlying e=some (.int .u8)) (h1:P.cellsOf e=1) (h32:P.cellsOf t=32):∃d:Dig,cs=zK d:=by
 obtain ⟨hl,hi⟩:=zem h hu
 rw [h32] at hl
 refine ⟨⟨cs.map (fun v=>match v with | .int _ n=>UInt8.ofNat n.toNat | _=>0),by simp [hl]⟩, ?_⟩
 refine List.ext_getElem (by simp [zK,hl]) (fun i h2 h3=> ?_)
 obtain ⟨n,hn,hw⟩:=zcT (hi i (by omega)) he
 rw [h1,Nat.mul_one] at hn
 have hg:cs[i]= .int .u8 n:=by
  have:=congrArg (fun z=>z[0]?) hn
  simp [List.getElem?_take,List.getElem?_drop,h2] at this
  exact this
 have hb:=bounds_u8 hw
 simp only [zK,u8s,List.getElem_map,hg]
 rw [UInt8.toNat_ofNat',Nat.mod_eq_of_lt (by omega)]
 congr 1;omega
theorem zcA {t:TypeId} {k:IntKind} {cs:List Value} (h:Rd enc P W base sp held t cs) (ht:P.underlying t=some (.int k)) (h0:∀n,(Lit.int k n).wf=true→0≤n∧n<2^k.bits):∃n:Nat,cs= [.int k (n:Int)]∧n<2^k.bits:=by
 obtain ⟨n,h1,h2⟩:=zcT h ht
 obtain ⟨h3,h4⟩:=h0 n h2
 obtain ⟨m,rfl⟩:=Int.eq_ofNat_of_zero_le h3
 exact ⟨m,h1,by exact_mod_cast h4⟩
theorem zaE {α:Type} (cs:List α) (a b:Nat):(cs.drop a).take b++cs.drop (a+b)=cs.drop a:=by
 rw [←List.drop_drop,List.take_append_drop]
theorem w8 (n:Int) (h:(Lit.int .u8 n).wf=true):0≤n∧n<2^IntKind.u8.bits:=by have:=bounds_u8 h;exact ⟨by omega,by show n<2^8;omega⟩
theorem w32 (n:Int) (h:(Lit.int .u32 n).wf=true):0≤n∧n<2^IntKind.u32.bits:=by have:=bounds_u32 h;exact ⟨by omega,by show n<2^32;omega⟩
theorem w64 (n:Int) (h:(Lit.int .u64 n).wf=true):0≤n∧n<2^IntKind.u64.bits:=by have:=bounds_u64 h;exact ⟨by omega,by show n<2^64;omega⟩
theorem zuI {t t32 t64:TypeId} {cs:List Value} (h:Rd enc P W base sp held t cs) (hF:zay P t= [(true,t32,0),(true,t64,1)]) (h1:P.underlying t32=some (.int .u32)) (h2:P.underlying t64=some (.int .u64))
  (c1:P.cellsOf t32=1) (c2:P.cellsOf t64=1) (c:P.cellsOf t=2):∃x:Non,cs=zbb x:=by
 obtain ⟨hl,hf⟩:=zb7 h hF
 obtain ⟨a,ha,ha2⟩:=zcA (hf (true,t32,0) (by simp)) h1 w32
 obtain ⟨b,hb,hb2⟩:=zcA (hf (true,t64,1) (by simp)) h2 w64
 simp only [c1,c2] at ha hb
 refine ⟨⟨a,b,ha2,hb2⟩, ?_⟩
 have e1:=zaE cs 0 1
 have e2:=zaE cs 1 1
 rw [ha] at e1;rw [hb,List.drop_eq_nil_of_le (by omega)] at e2
 rw [List.drop_zero] at e1
 rw [←e1,←e2];rfl
theorem zqx {t t8 tn td e t32 t64:TypeId} {cs:List Value} (h:Rd enc P W base sp held t cs) (hF:zay P t= [(true,t8,0),(true,tn,1),(true,td,3)]) (h8:P.underlying t8=some (.int .u8)) (c8:P.cellsOf t8=1)
  (hFn:zay P tn= [(true,t32,0),(true,t64,1)]) (h1:P.underlying t32=some (.int .u32)) (h2:P.underlying t64=some (.int .u64)) (c1:P.cellsOf t32=1) (c2:P.cellsOf t64=1) (cn:P.cellsOf tn=2)
  (hu:P.underlying td=some (.array 32 e)) (he:P.underlying e=some (.int .u8)) (ce:P.cellsOf e=1) (cd:P.cellsOf td=32) (c:P.cellsOf t=35):∃x:Rec,cs=zL x:=by
 obtain ⟨hl,hf⟩:=zb7 h hF
 obtain ⟨a,ha,ha2⟩:=zcA (hf (true,t8,0) (by simp)) h8 w8
 obtain ⟨x,hx⟩:=zuI (hf (true,tn,1) (by simp)) hFn h1 h2 c1 c2 cn
 obtain ⟨d,hd⟩:=zmo (hf (true,td,3) (by simp)) hu he ce cd
 simp only [c8,cn,cd] at ha hx hd
 refine ⟨⟨a,x,d,ha2⟩, ?_⟩
 have e1:=zaE cs 0 1
 have e2:=zaE cs 1 2
 have e3:=zaE cs 3 32
 rw [ha] at e1;rw [hx] at e2;rw [hd,List.drop_eq_nil_of_le (by omega)] at e3
 rw [List.drop_zero] at e1
 rw [←e1,←e2,←e3];simp [zL,zbb]
theorem zpC {t t8 td e:TypeId} {cs:List Value} (h:Rd enc P W base sp held t cs) (hF:zay P t= [(true,t8,0),(true,td,1)]) (h8:P.underlying t8=some (.int .u8)) (c8:P.cellsOf t8=1)
  (hu:P.underlying td=some (.array 32 e)) (he:P.underlying e=some (.int .u8)) (ce:P.cellsOf e=1) (cd:P.cellsOf td=32) (c:P.cellsOf t=33):∃x:Ent,cs=zW x:=by
 obtain ⟨hl,hf⟩:=zb7 h hF
 obtain ⟨a,ha,ha2⟩:=zcA (hf (true,t8,0) (by simp)) h8 w8
 obtain ⟨d,hd⟩:=zmo (hf (true,td,1) (by simp)) hu he ce cd
 simp only [c8,cd] at ha hd
 refine ⟨⟨a,d,ha2⟩, ?_⟩
 have e1:=zaE cs 0 1
 have e3:=zaE cs 1 32
 rw [ha] at e1;rw [hd,List.drop_eq_nil_of_le (by omega)] at e3
 rw [List.drop_zero] at e1
 rw [←e1,←e3];simp [zW]
theorem w16 (n:Int) (h:(Lit.int .u16 n).wf=true):0≤n∧n<2^IntKind.u16.bits:=by
 simp [Lit.wf,IntKind.min,IntKind.max,IntKind.signed,IntKind.bits] at h
 exact ⟨by omega,by show n<2^16;omega⟩
end
end Go.Cs
namespace Go.Cs
open Go Go.ChangeShapes Go.WideShapes Go.ChangeAt Go.RowKit
theorem ziK {α:Type} {f:α→List Value} {sz:Nat} (hf:∀x,(f x).length=sz) (d:α):∀(l:List α) (k:Nat),0<sz→(l.flatMap f)[k]? =if k<l.length*sz then (f (l.getD (k/sz) d))[k%sz]? else none
 | [],k,hz=>by simp
 | x::l,k,hz=>by
  rw [List.flatMap_cons]
  rcases Nat.lt_or_ge k sz with h | h
  ·rw [List.getElem?_append_left (by rw [hf];exact h),Nat.div_eq_of_lt h,Nat.mod_eq_of_lt h,if_pos]
   ·simp
   ·rw [List.length_cons,Nat.add_mul,Nat.one_mul];omega
  ·rw [List.getElem?_append_right (by rw [hf];exact h),hf,ziK hf d l (k-sz) hz]
   have e1:k/sz=(k-sz)/sz+1:=by rw [←Nat.add_div_right _ hz,Nat.sub_add_cancel h]
   have e2:k%sz=(k-sz)%sz:=by rw [←Nat.mod_eq_sub_mod h]
   rw [e1,e2,List.getD_cons_succ,List.length_cons,Nat.add_mul,Nat.one_mul]
   by_cases h2:k<l.length*sz+sz
   ·rw [if_pos (by omega),if_pos h2]
   ·rw [if_neg (by omega),if_neg h2]
section
variable {H:Type} {enc:TypeId×Value→H} {P:Program} {W:World} {base:Nat} {sp:Nat→Bool} {held:Bool}
theorem zfx {α:Type} {f:α→List Value} {t e:TypeId} {sz:Nat} {cs:List Value} (hx:∀us,Rd enc P W base sp held e us→∃x,us=f x) (hf:∀x,(f x).length=sz) (h:Rd enc P W base sp held t cs) (hu:P.underlying t=some (.slice e)) (he:P.cellsOf e=sz) (hz:0<sz):
  ∃a len cap l,cs= [.slice a len cap]∧Ms f sz 0 W.heap.size W a len cap l:=by
 obtain ⟨fuel,r,hr⟩:=h
 rcases Go.Deep.open_slice hu hr with ⟨rfl,_⟩|⟨a,len,cap,m,n,D,Pl,rfl,hb,hl,hm,hmm,_,hi⟩
 ·exact ⟨none,0,0, [],rfl,Ms.nil f _ _ _ hf⟩
 ·have hlm:len≤m:=by subst hmm;split<;>omega
  rw [he] at hi
  rcases Nat.eq_zero_or_pos len with h0 | h0
  ·subst h0
   exact ⟨some a,0,cap, [],rfl,⟨⟨hl,hm, .inl rfl⟩,rfl,hf⟩⟩
  ·have one:∀i,i<len→∃x,W.cells? base (a.add (i*sz)) sz=some (f x):=fun i hlt=>by
    obtain ⟨cs',h1,h2⟩:=hi i (by omega)
    obtain ⟨x,rfl⟩:=hx cs' ⟨n,_,h2⟩
    exact ⟨x,h1⟩
   obtain ⟨x0,hx0⟩:=one 0 h0
   haveI:Inhabited α:=⟨x0⟩
   obtain ⟨g,hg⟩:=Go.Deep.choose_lt one
   have hsp:a.spot=none∧a.block<W.heap.size:=by
    have h3:=(World.cells?_some hx0).2.2 0 hz
    rw [Nat.zero_mul] at h3
    have e0:(a.add 0).add 0=a:=by simp [Addr.add]
    rw [e0,List.getElem?_eq_getElem (by rw [hf];exact hz)] at h3
    refine ⟨?_,World.block_lt_of_cell? W a h3⟩
    cases hs:a.spot with
    | none=>rfl
    | some k=>
     exfalso
     have h4:=(World.cells?_some (hg 0 h0)).2.2
     simp only [World.cell?,hs] at h3
     split at h3<;>simp at h3
   obtain ⟨b,o,s⟩:=a
   simp only at hsp
   obtain ⟨rfl,hlt⟩:=hsp
   refine ⟨_,len,cap,(List.range len).map g,rfl,⟨hl,hm, .inr ⟨rfl,Nat.zero_le _,hlt,hlt,fun k v hk=> ?_⟩⟩,by simp,hf⟩
   rw [ziK hf x0 _ k hz] at hk
   simp only [List.length_map,List.length_range] at hk
   split at hk
   ·next hks=>
    have hq:k/sz<len:=Nat.div_lt_of_lt_mul (by rw [Nat.mul_comm];exact hks)
    have hg1:((List.range len).map g).getD (k/sz) x0=g (k/sz):=by simp [List.getD,hq]
    rw [hg1] at hk
    have h5:=(World.cells?_some (hg (k/sz) hq)).2.2 (k%sz) (Nat.mod_lt _ hz)
    rw [hk,Addr.add_lit,Addr.add_lit] at h5
    rw [←h5]
    have:=Nat.div_add_mod k sz
    rw [Nat.mul_comm] at this
    simp only [Nat.add_assoc,this]
   ·cases hk
theorem zoS {t e:TypeId} {cs:List Value} (h:Rd enc P W base sp held t cs) (hu:P.underlying t=some (.array 2 e)) (he:P.underlying e=some (.int .u8)) (ce:P.cellsOf e=1) (c:P.cellsOf t=2):∃x:UInt8×UInt8,cs=b2C x:=by
 obtain ⟨hl,hi⟩:=zem h hu
 obtain ⟨a,ha,ha2⟩:=zcA (hi 0 (by omega)) he w8
 obtain ⟨b,hb,hb2⟩:=zcA (hi 1 (by omega)) he w8
 simp only [ce,Nat.mul_one] at ha hb
 have ea:((UInt8.ofNat a).toNat:Nat)=a:=by rw [UInt8.toNat_ofNat',Nat.mod_eq_of_lt (show a<2^8 from ha2)]
 have eb:((UInt8.ofNat b).toNat:Nat)=b:=by rw [UInt8.toNat_ofNat',Nat.mod_eq_of_lt (show b<2^8 from hb2)]
 refine ⟨(UInt8.ofNat a,UInt8.ofNat b), ?_⟩
 have e1:=zaE cs 0 1
 have e2:=zaE cs 1 1
 rw [ha] at e1;rw [hb,List.drop_eq_nil_of_le (by omega)] at e2
 rw [List.drop_zero] at e1
 rw [←e1,←e2];simp [b2C,ea,eb]
end
end Go.Cs
namespace Go.Cs
open Go Go.ChangeShapes Go.WideShapes Go.ChangeAt Go.RowKit
section
variable {H:Type} {enc:TypeId×Value→H} {P:Program} {W:World} {base:Nat} {sp:Nat→Bool} {held:Bool}
theorem zkc {α:Type} {f:α→List Value} {t e:TypeId} {n sz:Nat} {cs:List Value} (hx:∀us,Rd enc P W base sp held e us→∃x,us=f x) (h:Rd enc P W base sp held t cs) (hu:P.underlying t=some (.array n e)) (he:P.cellsOf e=sz) (ht:P.cellsOf t=n*sz):
  ∃l:List α,l.length=n∧cs=l.flatMap f:=by
 obtain ⟨hl,hi⟩:=zem h hu
 have step:∀m,m≤n→∃l:List α,l.length=m∧cs.take (m*sz)=l.flatMap f:=by
  intro m
  induction m with
  | zero=>intro _;exact ⟨[],rfl,by simp⟩
  | succ m ih=>
   intro hm
   obtain ⟨l,h1,h2⟩:=ih (by omega)
   obtain ⟨x,h3⟩:=hx _ (hi m (by omega))
   rw [he] at h3
   exact ⟨l++ [x],by simp [h1],by rw [Nat.add_mul,Nat.one_mul,List.take_add,h2,h3];simp⟩
 obtain ⟨l,h1,h2⟩:=step n (Nat.le_refl _)
 exact ⟨l,h1,by rw [←h2,List.take_of_length_le (by omega)]⟩
theorem zgX {t e:TypeId} {k:IntKind} {fuel n:Nat} {cs:List Value} {p:List MemPlace} {ns:List Int} (h:DataW.trod enc P W base sp held fuel t cs=some (.agg (ns.map fun z=> .lit (.int k z)),p)) (hu:P.underlying t=some (.array n e)) (he:P.underlying e=some (.int k)) (ce:P.cellsOf e=1) (ct:P.cellsOf t=n):
  cs=ns.map fun z=> .int k z:=by
 obtain ⟨xs,m,rfl,hx,hl,hn,hi⟩:=DataW.trod_array hu h
 simp only [Prod.mk.injEq,DataW.agg.injEq] at hx
 have hlen:ns.length=n:=by rw [←hn,show xs.length=(xs.map fun x=>x.1).length from by simp,←hx.1,List.length_map]
 refine List.ext_getElem (by simp;omega) fun i h1 h2=> ?_
 have h3:i<xs.length:=by omega
 have h4:=hi i (by omega)
 rw [List.getElem?_eq_getElem h3,ce,Nat.mul_one] at h4
 obtain ⟨z,e1,e2,_⟩:=DataW.trod_int he h4
 have e3:cs[i]= .int k z:=by
  have:=congrArg (fun y=>y[0]?) e1
  simp [List.getElem?_take,List.getElem?_drop,h1] at this
  exact this
 have e4:=congrArg (fun y=>y[i]?) hx.1
 simp only [List.getElem?_map,List.getElem?_eq_getElem h3,e2,List.getElem?_eq_getElem (show i<ns.length by omega),Option.map_some,Option.some.injEq,DataW.lit.injEq,Lit.int.injEq,true_and] at e4
 rw [e3];simp [e4]
theorem zk2 {name:String} {g:Nat} {cs:Array Value} {vs:List Value} (hg:P.globalNamed name=some g) (hv:W.var? P name=some cs) (hcs:cs.toList=vs):Gl g vs W:=by
 have hc:=fun i=>World.var?_cell hg hv i
 refine ⟨fun i v hi=> ?_, ?_⟩
 ·rw [Nat.zero_add,hc i,←hi,←hcs];simp
 ·simp only [World.var?,hg,Option.bind_some] at hv
  rcases Nat.lt_or_ge g W.heap.size with h | h
  ·exact h
  ·rw [Array.getElem?_eq_none h] at hv;simp at hv
theorem zuu {N R E r t8 tn td e t32 t64 en:TypeId} {cs:List Value} (h:Rd enc P W base sp held N cs) (hN:zay P N= [(true,t8,0),(true,t32,1),(true,R,2),(true,E,142)])
  (hR:P.underlying R=some (.array 4 r)) (hE:P.underlying E=some (.array 4 en)) (h8:P.underlying t8=some (.int .u8)) (c8:P.cellsOf t8=1) (hF:zay P r= [(true,t8,0),(true,tn,1),(true,td,3)]) (hFe:zay P en= [(true,t8,0),(true,td,1)])
  (hFn:zay P tn= [(true,t32,0),(true,t64,1)]) (h1:P.underlying t32=some (.int .u32)) (h2:P.underlying t64=some (.int .u64)) (c1:P.cellsOf t32=1) (c2:P.cellsOf t64=1) (cn:P.cellsOf tn=2)
  (hu:P.underlying td=some (.array 32 e)) (he:P.underlying e=some (.int .u8)) (ce:P.cellsOf e=1) (cd:P.cellsOf td=32) (cr:P.cellsOf r=35) (cen:P.cellsOf en=33) (cR:P.cellsOf R=140) (cE:P.cellsOf E=132) (c:P.cellsOf N=274):∃x:Nod,cs=zH x:=by
 obtain ⟨hl,hf⟩:=zb7 h hN
 obtain ⟨a,ha,ha2⟩:=zcA (hf (true,t8,0) (by simp)) h8 w8
 obtain ⟨b,hb,hb2⟩:=zcA (hf (true,t32,1) (by simp)) h1 w32
 obtain ⟨rs,hr1,hr2⟩:=zkc (f:=zL) (fun us hh=>zqx hh hF h8 c8 hFn h1 h2 c1 c2 cn hu he ce cd cr) (hf (true,R,2) (by simp)) hR cr cR
 obtain ⟨es,he1,he2⟩:=zkc (f:=zW) (fun us hh=>zpC hh hFe h8 c8 hu he ce cd cen) (hf (true,E,142) (by simp)) hE cen cE
 simp only [c8,c1,cR,cE] at ha hb hr2 he2
 refine ⟨⟨a,b,⟨rs,hr1⟩,⟨es,he1⟩,ha2,hb2⟩, ?_⟩
 have e1:=zaE cs 0 1
 have e2:=zaE cs 1 1
 have e3:=zaE cs 2 140
 have e4:=zaE cs 142 132
 rw [ha] at e1;rw [hb] at e2;rw [hr2] at e3;rw [he2,List.drop_eq_nil_of_le (by omega)] at e4
 rw [List.drop_zero] at e1
 rw [←e1,←e2,←e3,←e4];simp [zH,r4C,e4C]
end
end Go.Cs
namespace Go.Cs
open Go Go.ChangeShapes Go.WideShapes Go.ChangeAt Go.RowKit
theorem Es.of_ones {α:Type} {f:α→Value} {lo hi len cap:Nat} {w:World} {a:Option Addr} {l:List α} (h:Ms (fun x=> [f x]) 1 lo hi w a len cap l):Es f lo hi w a len cap l:=by
 have e:∀l:List α,(l.flatMap fun x=> [f x])=l.map f:=fun l=>by
  induction l with
  | nil=>rfl
  | cons x l ih=>rw [List.flatMap_cons,List.map_cons,ih];rfl
 exact ⟨by have:=h.sla;rwa [e l] at this,h.len_eq⟩
section
variable {H:Type} {enc:TypeId×Value→H} {P:Program} {W:World} {base:Nat} {sp:Nat→Bool} {held:Bool}
end
end Go.Cs
namespace Go.Cs
open Go Go.ChangeShapes Go.WideShapes Go.ChangeAt Go.RowKit
theorem zdT {cs p q:List Value} {o a:Nat} (h:(cs.drop o).take a=p) (h2:cs.drop (o+a)=q):cs.drop o=p++q:=by
 rw [←h,←h2,←List.drop_drop,List.take_append_drop]
theorem zjY {cs:List Value} {o:Nat} (h:cs.length≤o):cs.drop o= []:=List.drop_eq_nil_of_le h
section
variable {H:Type} {enc:TypeId×Value→H} {P:Program} {W:World} {base:Nat} {sp:Nat→Bool} {held:Bool}
theorem zsM {t:TypeId} {cs:List Value} (h:Rd enc P W base sp held t cs) (hu:P.underlying t=some (.int .u8)):∃x:UInt8,cs= [u8v x]:=by
 obtain ⟨a,ha,ha2⟩:=zcA h hu w8
 exact ⟨UInt8.ofNat a,by rw [ha,u8v,UInt8.toNat_ofNat',Nat.mod_eq_of_lt (show a<2^8 from ha2)]⟩
theorem zv5 {t e:TypeId} {cs:List Value} (h:Rd enc P W base sp held t cs) (hu:P.underlying t=some (.slice e)) (he:P.underlying e=some (.int .u8)) (ce:P.cellsOf e=1):
  ∃a len cap l,cs= [.slice a len cap]∧Bs 0 W.heap.size W a len cap l:=by
 obtain ⟨a,len,cap,l,h1,h2⟩:=zfx (f:=fun x:UInt8=> [u8v x]) (sz:=1) (fun us hq=>zsM hq he) (fun _=>rfl) h hu ce (by decide)
 exact ⟨a,len,cap,l,h1,(Es.of_ones h2).bs⟩
end
end Go.Cs
namespace Go.Cs
open Go Go.ChangeShapes Go.WideShapes Go.ChangeAt Go.RowKit
section
variable {H:Type} {enc:TypeId×Value→H} {P:Program} {W:World} {base:Nat} {sp:Nat→Bool} {held:Bool}
theorem zny {t:TypeId} {cs:List Value} (h:Rd enc P W base sp held t cs) (ht:P.underlying t=some .bool):∃b:Bool,cs= [.bool b]:=by
 obtain ⟨fuel,r,hf⟩:=h
 obtain ⟨b,h1,_⟩:=DataW.trod_bool ht hf
 exact ⟨b,h1⟩
theorem zwx {U tI tB tC N R E r t8 tn td e t32 t64 en:TypeId} {cs:List Value} (h:Rd enc P W base sp held U cs) (hU:zay P U= [(true,N,0),(true,tI,274),(true,tB,275),(true,tC,276)])
  (hI:P.underlying tI=some (.int .i64)) (hB:P.underlying tB=some .bool) (hC:P.underlying tC=some (.array 4 tB)) (cI:P.cellsOf tI=1) (cB:P.cellsOf tB=1) (cC:P.cellsOf tC=4) (cU:P.cellsOf U=280)
  (hN:zay P N= [(true,t8,0),(true,t32,1),(true,R,2),(true,E,142)])
  (hR:P.underlying R=some (.array 4 r)) (hE:P.underlying E=some (.array 4 en)) (h8:P.underlying t8=some (.int .u8)) (c8:P.cellsOf t8=1) (hF:zay P r= [(true,t8,0),(true,tn,1),(true,td,3)]) (hFe:zay P en= [(true,t8,0),(true,td,1)])
  (hFn:zay P tn= [(true,t32,0),(true,t64,1)]) (h1:P.underlying t32=some (.int .u32)) (h2:P.underlying t64=some (.int .u64)) (c1:P.cellsOf t32=1) (c2:P.cellsOf t64=1) (cn:P.cellsOf tn=2)
  (hu:P.underlying td=some (.array 32 e)) (he:P.underlying e=some (.int .u8)) (ce:P.cellsOf e=1) (cd:P.cellsOf td=32) (cr:P.cellsOf r=35) (cen:P.cellsOf en=33) (cR:P.cellsOf R=140) (cE:P.cellsOf E=132) (c:P.cellsOf N=274):∃x:Un,cs=unC x:=by
 obtain ⟨hl,hf⟩:=zb7 h hU
 obtain ⟨nd,hnd⟩:=zuu (hf (true,N,0) (by simp)) hN hR hE h8 c8 hF hFe hFn h1 h2 c1 c2 cn hu he ce cd cr cen cR cE c
 obtain ⟨sl,hsl,_⟩:=zcT (hf (true,tI,274) (by simp)) hI
 obtain ⟨dt,hdt⟩:=zny (hf (true,tB,275) (by simp)) hB
 obtain ⟨ch,hc1,hc2⟩:=zkc (f:=fun b:Bool=> [.bool b]) (fun us hh=>zny hh hB) (hf (true,tC,276) (by simp)) hC cB cC
 simp only [c,cI,cB,cC] at hnd hsl hdt hc2
 refine ⟨⟨nd,sl,dt,ch,hc1⟩, ?_⟩
 have e1:=zaE cs 0 274
 have e2:=zaE cs 274 1
 have e3:=zaE cs 275 1
 have e4:=zaE cs 276 4
 rw [hnd] at e1;rw [hsl] at e2;rw [hdt] at e3;rw [hc2,List.drop_eq_nil_of_le (by omega)] at e4
 rw [List.drop_zero] at e1
 have hb:∀l:List Bool,(l.flatMap fun b=> [Value.bool b])=blC l:=fun l=>by
  induction l with
  | nil=>rfl
  | cons x l ih=>rw [List.flatMap_cons,ih];rfl
 rw [hb] at e4
 rw [←e1,←e2,←e3,←e4];simp [unC]
end
end Go.Cs
