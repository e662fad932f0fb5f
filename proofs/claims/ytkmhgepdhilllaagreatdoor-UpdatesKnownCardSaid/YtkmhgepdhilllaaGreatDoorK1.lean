/- Lemmas and walks: what each function does, by its own code. No condition beyond those of each statement. -/
import Derived.Test.YtkmhgepdhilllaaGreatDoorB2
import Derived.LaidEql
import Derived.Stop.Asserts
import Derived.RowKitTokens
import Derived.Laws.Tables
import Derived.Test.YtkmhgepdhilllaaGreatDoorProg
set_option linter.all false
set_option linter.unusedVariables false
namespace Go.Proofs.YtkmhgepdhilllaaGreatDoor
open Go Go.RowKit Go.Cs
set_option maxRecDepth 100000
theorem zjo (n:Nat) (v:Nat) (j:Nat) (w:World) (hp0:1≤n) (hp1:n≤4096) (hp2:v≤hgt n+1) (hp3:j≤1099511627776):
  Calls Tryz.prog 27 #[(vI n),(vI v),(vI j)] w (Ret fun r w'=>r=(vI (num n v+j))∧w=w'):=by
 refine zI (n:=21) (σ:= [(0,(vI n)),(1,(vI v)),(2,(vI j))]) Tryz.func27 rfl ?_
 have h5:=zat n
 refine ze (zd (zc 1 [(6,(vI 0))] (zf (zb (ze (zd (zc 2 [(7,(vI j)),(9,(vI j))] (zf (zb ?_)))))))))
 refine ze (ze (zd (zc 1 [(8,(vI 0))] (zf (zb (zy (zY (X:=Nat) (fun k=> [(7,(vI (num n k+j))),(8,(vI k))]) [10,11,12,13,14,15,16,17,18,19] (fun k w1=>w=w1∧k≤v) (fun k=>v-k) 0 (by rw [show num n 0=0 from rfl,Nat.zero_add];kernel_rfl) ⟨rfl,by omega⟩ ?_)))))))
 rintro k dw1 w1 ⟨rfl,hk⟩
 have hns:=zbJ (l:=k) hp1 (by omega)
 have hcn:=zbf n k
 have hnx:=zgf n k
 refine ze (ze (zd (zc 2 [(11,(vI v)),(10,(vI k))] (za (zK (some 12) (decide (((k:Nat):Int)<((v:Nat):Int))) (fun hc12=> ?_) (fun hc12=> ?_))))))
 ·replace hc12:k<v:=by have:=zaf hc12;omega
  refine zf (zb (zC (zu (zb (ze (zy (zd (zc 3 [(17,(vI k)),(16,(vI n)),(15,(vI (num n k+j)))] (za (zl (some 18) (zfq n k _ (by omega) (by omega) (by omega)) ?_))))))))))
  rintro _ _ ⟨rfl,rfl⟩
  refine za (zt (some 19) .i64 (IntKind.i64.wrap (((num n k+j:Nat):Int)+((cnt n k:Nat):Int))) (num n (k+1)+j) (zA (by omega) (by omega) (by omega)) ?_)
  refine zc 1 [(7,(vI (num n (k+1)+j)))] (zf (zp (zb (zd (zc 1 [(13,(vI k))] (za (zt (some 14) .i64 (IntKind.i64.wrap (((k:Nat):Int)+((1:Nat):Int))) (k+1) (zA (by omega) (by omega) (by omega)) ?_)))))))
  refine zc 1 [(8,(vI (k+1)))] (zf (zF (zR (k+1) ?_ ?_)))
  ·exact ⟨rfl,by omega⟩
  ·first | omega |(dsimp only;omega)
 ·replace hc12:¬(k<v):=by have:=zae hc12;omega
  refine zf (zb (zn (zW (zx (zx (zL (zb (ze (zd ?_)))))))))
  refine zc 2 [(6,(vI (num n k+j))),(20,(vI (num n k+j)))] (zf (zb (zq (zr (vI (num n k+j)) ?_))))
  obtain rfl:k=v:=by omega
  exact ⟨rfl,rfl⟩
theorem zpN (n:Nat) (w:World) (hp0:1≤n) (hp1:n≤4096):
  Calls Tryz.prog 28 #[(vI n)] w (Ret fun r w'=>r=(vI (tot n))∧w=w'):=by
 refine zI (n:=8) (σ:= [(0,(vI n))]) Tryz.func28 rfl ?_
 have h5:=zat n
 have htt:=zcC hp0 hp1
 have hts:=zaw hp1
 refine ze (zd (zc 1 [(2,(vI 0))] (zf (zb (ze (zd (zc 2 [(4,(vI n)),(3,(vI n))] (za (zl (some 5) (zgR n _ (by omega) (by omega)) ?_)))))))))
 rintro _ _ ⟨rfl,rfl⟩
 refine za (zl (some 6) (zjo n (hgt n) 0 _ (by omega) (by omega) (by omega) (by omega)) ?_)
 rintro _ _ ⟨rfl,rfl⟩
 refine za (zt (some 7) .i64 (IntKind.i64.wrap (((num n (hgt n)+0:Nat):Int)+((1:Nat):Int))) (tot n) (zA (by rw [htt];omega) (by omega) (by omega)) ?_)
 exact zc 1 [(2,(vI (tot n)))] (zf (zb (zq (zr (vI (tot n)) (⟨rfl,rfl⟩)))))
end Go.Proofs.YtkmhgepdhilllaaGreatDoor
namespace Go.Proofs.YtkmhgepdhilllaaGreatDoor
open Go Go.RowKit Go.Cs
set_option maxRecDepth 100000
end Go.Proofs.YtkmhgepdhilllaaGreatDoor
namespace Go.Proofs.YtkmhgepdhilllaaGreatDoor
open Go Go.RowKit Go.Cs
set_option maxRecDepth 100000
end Go.Proofs.YtkmhgepdhilllaaGreatDoor
namespace Go.Proofs.YtkmhgepdhilllaaGreatDoor
open Go Go.RowKit Go.Cs
set_option maxRecDepth 100000
theorem zmU (n:Nat) (w:World) (hp0:1≤n) (hp1:n≤4096):
  Calls Tryz.prog 59 #[(vI n)] w (Ret fun r w'=>∃a1 ca1 a2 ca2,r=(.tuple #[(vA [(vI n),(.slice a1 (hgt n+1) ca1),(.slice a2 (hgt n+1) ca2)]),(vI 0)])∧Es (nv .i64) w.heap.size w'.heap.size w' a1 (hgt n+1) ca1 (zaI n (hgt n+1))∧Es (nv .i64) w.heap.size w'.heap.size w' a2 (hgt n+1) ca2 (za0 n (hgt n+1))∧Ext w w'):=by
 refine zI (n:=50) (σ:= [(0,(vI n))]) Tryz.func59 rfl ?_
 have h5:=zat n
 refine ze (zd (za (zo (some 2) (Instr.alloc 128 true (.tuple #[])) (vP w.heap.size 0) ([(vI 0),(.slice none 0 0),(.slice none 0 0)]) 128 ?_)))
 intro w1 hBw1 hEw1
 have hzw1:=hEw1.size;have hlw1:=hBw1.lt
 refine zc 1 [(3,(vI 0))] (zf (zb (ze (zd (zc 1 [(12,(vI n))] (za (zl (some 13) (zjL n _ (by omega) (by omega)) ?_)))))))
 rintro _ w2 ⟨rfl,hEw2⟩
 have hzw2:=hEw2.size
 refine zc 5 [(5,(vI 0)),(4,(vI (hgt n))),(15,(vI 0)),(14,(vI (hgt n))),(11,(.tuple #[(vI (hgt n)),(vI 0)]))] (zf (zb (ze (ze (zd (zc 2 [(17,vF),(16,(vI 0))] (zf (zb (zn ?_)))))))))
 refine zu (zb (ze (zd (zc 2 [(21,(vA [(vI n),(.slice none 0 0),(.slice none 0 0)])),(20,(vI n))] (za (zo (some 6) (Instr.alloc 128 true (.tuple #[])) (vP w2.heap.size 0) ([(vI 0),(.slice none 0 0),(.slice none 0 0)]) 128 ?_))))))
 intro w3 hBw3 hEw3
 have hzw3:=hEw3.size;have hlw3:=hBw3.lt
 refine za (zv 128 w2.heap.size 0 128 (vA [(vI n),(.slice none 0 0),(.slice none 0 0)]) ([(vI 0),(.slice none 0 0),(.slice none 0 0)]) ([(vI n),(.slice none 0 0),(.slice none 0 0)]) hBw3 (by kernel_rfl) (by first | decide |(simp;done)|(simp;omega)) (by simp [Value.oneCell']) ?_)
 intro w4 hBw4 hCw4
 have hzw4:=hCw4.size
 rw [zm _ _ (by kernel_rfl)] at hBw4
 refine zf (zb (ze (zd (zc 1 [(7,(vI 0))] (zf (zb (ze (ze (zd ?_)))))))))
 refine zc 1 [(22,(vI (hgt n)))] (za (zt (some 23) .i64 (IntKind.i64.wrap (((hgt n:Nat):Int)+((1:Nat):Int))) (hgt n+1) (zA (by omega) (by omega) (by omega)) ?_))
 refine zc 1 [(24,(vI 0))] (zf (zb (zy ?_)))
 have hK1:=(((((hBw1.ext hEw2)).ext hEw3)).chg hCw4 (fun hs=>by have h:_=_:=hs;omega))
 have hX1:Ext w w4:=(Ext.own ((hEw1.trans hEw2).trans hEw3) hCw4 (by omega))
 refine zY (X:=Nat×Nat×Nat×Option Addr×Option Addr×Nat×Nat) (fun ⟨v,g1,g2,ao,aq,cp,cq⟩=> [(7,(vI (num n v))),(24,(vI v))]) [8,9,10,25,26,27,28,29,30,31,32,33,34,35,36,37,38,39,40,41,42,43,44,45,46,47,48] (fun ⟨v,g1,g2,ao,aq,cp,cq⟩ w5=>v≤hgt n+1∧(Cs.Own (nv .i64) g1 (g1+1) w5 ao v cp 3 (zaI n v))∧(Cs.Own (nv .i64) g2 (g2+1) w5 aq v cq 3 (za0 n v))∧Blk w5 w2.heap.size ([(vI n),(.slice ao v cp),(.slice aq v cq)]) 128∧Blk w5 w.heap.size ([(vI 0),(.slice none 0 0),(.slice none 0 0)]) 128∧(g1≠g2∧g1≠w2.heap.size∧g2≠w2.heap.size∧g1≠w.heap.size∧g2≠w.heap.size∧w.heap.size≤g1∧w.heap.size≤g2∧g1≤w5.heap.size∧g2≤w5.heap.size+1)∧Ext w w5) (fun ⟨v,g1,g2,ao,aq,cp,cq⟩=>hgt n+1-v) (0,w4.heap.size,w4.heap.size+1,none,none,0,0) (by kernel_rfl) ⟨by omega,Cs.Own.nil _ _ _ _ _,Cs.Own.nil _ _ _ _ _,hBw4,hK1,by omega,hX1⟩ ?_
 rintro ⟨v,g1,g2,ao,aq,cp,cq⟩ dw5 w5 ⟨hv,hO1,hO2,hB6,hB2,hg,hEl⟩
 have hzl:=hEl.size;have hl6:=hB6.lt;have hl2:=hB2.lt
 have hns:=zbJ (n:=n) (l:=v) hp1 (by omega)
 have hcn:=zbf n v
 have hnx:=zgf n v
 refine ze (zd (za (zK (some 25) (decide (((v:Nat):Int)<((hgt n+1:Nat):Int))) (fun hc25=> ?_) (fun hc25=> ?_))))
 ·replace hc25:v<hgt n+1:=by have:=zaf hc25;omega
  refine zf (zb (ze (zC (zu (zb (ze (zy (ze (zd ?_)))))))))
  refine zc 2 [(8,(vI v)),(26,(vI v))] (zf (zb (ze (zd (zc 2 [(29,(vI v)),(28,(vI n))] (za (zl (some 30) (zl9 n v _ (by omega) (by omega) (by omega)) ?_)))))))
  rintro _ w6 ⟨rfl,hEw6⟩
  have hzw6:=hEw6.size
  refine zc 5 [(10,(vI 0)),(9,(vI (cnt n v))),(32,(vI 0)),(31,(vI (cnt n v))),(27,(.tuple #[(vI (cnt n v)),(vI 0)]))] (zf (zb (ze (zd (zc 1 [(33,(vP w2.heap.size 1))] (za (zj (some 34) (Instr.loadAt 29 (vP w2.heap.size 1)) (.slice ao v cp) (zk ((hB6.ext hEw6).cell rfl)) ?_)))))))
  refine zc 1 [(35,(vI (cnt n v)))] (za (zo (some 36) (Instr.buildSlice 29 1 #[(0,(vI (cnt n v)))]) (.slice (pA w6.heap.size 0) 1 1) [(vI (cnt n v))] 3 ?_))
  intro w7 hBw7 hEw7
  have hzw7:=hEw7.size;have hlw7:=hBw7.lt
  have hSw7:Es (nv .i64) w6.heap.size (w6.heap.size+1) w7 (pA w6.heap.size 0) 1 1 ([cnt n v]):=Es.of_blk hBw7 rfl rfl (Nat.le_refl _) (by decide) (Nat.le_refl _) (Nat.lt_succ_self _)
  have hsm1:=fun (k:Nat) (hk:zdx aq k)=>((((hO2.ext hEw6)).ext hEw7)).ltk hk
  refine za (zfb (some 37) 29 29 3 8 (vI 0) (((hO1.ext hEw6)).ext hEw7) hSw7 (fun _=>rfl) ?_)
  intro b1 c1 w8 hOw8 hCw8 hqb1
  replace hqb1:=hqb1.imp_left ((((hO1.ext hEw6)).ext hEw7)).ltk
  have hlb1:b1<w8.heap.size:=(hOw8.row.lt b1 rfl).2
  have hzw8:=hCw8.size
  have hSw8:=hOw8.es
  refine zc 1 [(38,(vP w2.heap.size 1))] ?_
  have hK2:=(((((hB6.ext hEw6)).ext hEw7)).chg hCw8 (fun hs=>by have hn:=(((hO1.ext hEw6)).ext hEw7).ne hs;omega))
  refine za (zah 29 w2.heap.size 1 128 (.slice (pA b1 0) (v+1) c1) ([(vI n),(.slice ao v cp),(.slice aq v cq)]) hK2 (by first | decide |(simp;done)|(simp;omega)) ?_)
  have hK3:=(((((hB6.ext hEw6)).ext hEw7)).chg hCw8 (fun hs=>by have hn:=(((hO1.ext hEw6)).ext hEw7).ne hs;omega))
  intro w9 hBw9 hCw9
  have hzw9:=hCw9.size
  rw [show (([(vI n),(.slice ao v cp),(.slice aq v cq)]).set 1 (.slice (pA b1 0) (v+1) c1):List Value)= [(vI n),(.slice (pA b1 0) (v+1) c1),(.slice aq v cq)] from rfl] at hBw9
  refine zf (zb (ze (zd (zc 1 [(39,(vP w2.heap.size 2))] (za (zj (some 40) (Instr.loadAt 29 (vP w2.heap.size 2)) (.slice aq v cq) (zk (hBw9.cell rfl)) ?_))))))
  refine zc 1 [(41,(vI (num n v)))] (za (zo (some 42) (Instr.buildSlice 29 1 #[(0,(vI (num n v)))]) (.slice (pA w9.heap.size 0) 1 1) [(vI (num n v))] 3 ?_))
  intro w10 hBw10 hEw10
  have hzw10:=hEw10.size;have hlw10:=hBw10.lt
  have hSw10:Es (nv .i64) w9.heap.size (w9.heap.size+1) w10 (pA w9.heap.size 0) 1 1 ([num n v]):=Es.of_blk hBw10 rfl rfl (Nat.le_refl _) (by decide) (Nat.le_refl _) (Nat.lt_succ_self _)
  have hK4:=(((((((((hO2.ext hEw6)).ext hEw7)).chg hCw8 (fun k h1 h2 hs=>by have hn:=(((hO1.ext hEw6)).ext hEw7).ne hs;omega))).chg hCw9 (fun k h1 h2 hs=>by have h:k=_:=hs;omega))).ext hEw10)
  refine za (zfb (some 43) 29 29 3 8 (vI 0) hK4 hSw10 (fun _=>rfl) ?_)
  intro b2 c2 w11 hOw11 hCw11 hqb2
  replace hqb2:=hqb2.imp_left (hsm1 _)
  have hlb2:b2<w11.heap.size:=(hOw11.row.lt b2 rfl).2
  have hzw11:=hCw11.size
  have hSw11:=hOw11.es
  refine zc 1 [(44,(vP w2.heap.size 2))] (za (zah 29 w2.heap.size 2 128 (.slice (pA b2 0) (v+1) c2) ([(vI n),(.slice (pA b1 0) (v+1) c1),(.slice aq v cq)]) (((hBw9.ext hEw10)).chg hCw11 (fun hs=>by have hn:=(hsm1 _) hs;omega)) (by first | decide |(simp;done)|(simp;omega)) ?_))
  intro w12 hBw12 hCw12
  have hzw12:=hCw12.size
  rw [show (([(vI n),(.slice (pA b1 0) (v+1) c1),(.slice aq v cq)]).set 2 (.slice (pA b2 0) (v+1) c2):List Value)= [(vI n),(.slice (pA b1 0) (v+1) c1),(.slice (pA b2 0) (v+1) c2)] from rfl] at hBw12
  refine zf (zb (zd (zc 2 [(46,(vI (cnt n v))),(45,(vI (num n v)))] (za (zt (some 47) .i64 (IntKind.i64.wrap (((num n v:Nat):Int)+((cnt n v:Nat):Int))) (num n (v+1)) (zA (by omega) (by omega) (by omega)) ?_)))))
  refine zc 1 [(7,(vI (num n (v+1))))] (zf (zp (zb (zd (za (zt (some 48) .i64 (IntKind.i64.wrap (((v:Nat):Int)+((1:Nat):Int))) (v+1) (zA (by omega) (by omega) (by omega)) ?_))))))
  refine zc 1 [(24,(vI (v+1)))] (zf (zF ?_))
  have hK5:=((((((((hOw8).chg hCw9 (fun k h1 h2 hs=>by have h:k=_:=hs;omega))).ext hEw10)).chg hCw11 (fun k h1 h2 hs=>by have hn:=(hsm1 _) hs;omega))).chg hCw12 (fun k h1 h2 hs=>by have h:k=_:=hs;omega))
  have hK6:=(((((((((((((hB2.ext hEw6)).ext hEw7)).chg hCw8 (fun hs=>by have hn:=(((hO1.ext hEw6)).ext hEw7).ne hs;omega))).chg hCw9 (fun hs=>by have h:_=_:=hs;omega))).ext hEw10)).chg hCw11 (fun hs=>by have hn:=(hsm1 _) hs;omega))).chg hCw12 (fun hs=>by have h:_=_:=hs;omega))
  have hK7:=(((((((((hO2.ext hEw6)).ext hEw7)).chg hCw8 (fun k h1 h2 hs=>by have hn:=(((hO1.ext hEw6)).ext hEw7).ne hs;omega))).chg hCw9 (fun k h1 h2 hs=>by have h:k=_:=hs;omega))).ext hEw10)
  have hX2:Ext w w12:=(Ext.own (Ext.ownS ((Ext.own (Ext.ownS ((hEl.trans hEw6).trans hEw7) hCw8 (fun k hs hk=>by have hn:=(((hO1.ext hEw6)).ext hEw7).ne hs;omega)) hCw9 (by omega)).trans hEw10) hCw11 (fun k hs hk=>by have hn:=hK7.ne hs;omega)) hCw12 (by omega))
  refine zR (v+1,b1,b2,(pA b1 0),(pA b2 0),c1,c2) ?_ ?_
  ·exact ⟨by omega,by rw [zje];exact hK5,by rw [zjd];exact ((hOw11).chg hCw12 (fun k h1 h2 hs=>by have h:k=_:=hs;omega)),hBw12,hK6,by omega,hX2⟩
  ·first | omega |(dsimp only;omega)
 ·replace hc25:¬(v<hgt n+1):=by have:=zae hc25;omega
  refine zf (zb (ze (zn (zW (zx (zx (zL (zb (ze ?_)))))))))
  refine zd (za (zj (some 49) (Instr.loadAt 128 (vP w2.heap.size 0)) (vA [(vI n),(.slice ao v cp),(.slice aq v cq)]) (zw (vs:= [(vI n),(.slice ao v cp),(.slice aq v cq)]) (hB6.all)) ?_))
  refine za (zv 128 w.heap.size 0 128 (vA [(vI n),(.slice ao v cp),(.slice aq v cq)]) ([(vI 0),(.slice none 0 0),(.slice none 0 0)]) ([(vI n),(.slice ao v cp),(.slice aq v cq)]) hB2 (by kernel_rfl) (by first | decide |(simp;done)|(simp;omega)) (by simp [Value.oneCell']) ?_)
  intro w13 hBw13 hCw13
  have hzw13:=hCw13.size
  rw [zm _ _ (by kernel_rfl)] at hBw13
  refine zc 1 [(3,(vI 0))] (zf (zb (zq (zaX (show zZ Tryz.prog 50 _ _ (.cell 2 128) (vA [(vI n),(.slice ao v cp),(.slice aq v cq)]) from ⟨⟨w.heap.size,0,none⟩,(by kernel_rfl),zN (T:=128) (vs:= [(vI n),(.slice ao v cp),(.slice aq v cq)]) (hBw13).all (by kernel_rfl)⟩) (show zZ Tryz.prog 50 _ _ (.tmp 3) (vI 0) by (show _=_;kernel_rfl)) ?_))))
  obtain rfl:v=hgt n+1:=by omega
  exact ⟨_,_,_,_,rfl,(((hO1).chg hCw13 (fun k h1 h2 hs=>by have h:k=_:=hs;omega))).es.now.mono (by omega) (Nat.le_refl _),(((hO2).chg hCw13 (fun k h1 h2 hs=>by have h:k=_:=hs;omega))).es.now.mono (by omega) (Nat.le_refl _),(Ext.own hEl hCw13 (by omega))⟩
theorem zo9 (n:Int) (w:World) (hp0:¬(1≤n∧n≤4096)):
  Calls Tryz.prog 59 #[(.int .i64 n)] w (Ret fun r w'=>∃a1 a2,r=(.tuple #[(vA [(vI 0),(.slice a1 0 0),(.slice a2 0 0)]),(vI 1)])∧Es (nv .i64) w.heap.size w'.heap.size w' a1 0 0 ([])∧Es (nv .i64) w.heap.size w'.heap.size w' a2 0 0 ([])∧Ext w w'):=by
 refine zI (n:=50) (σ:= [(0,(.int .i64 n))]) Tryz.func59 rfl ?_
 refine ze (zd (za (zo (some 2) (Instr.alloc 128 true (.tuple #[])) (vP w.heap.size 0) ([(vI 0),(.slice none 0 0),(.slice none 0 0)]) 128 ?_)))
 intro w1 hBw1 hEw1
 have hzw1:=hEw1.size;have hlw1:=hBw1.lt
 refine zc 1 [(3,(vI 0))] (zf (zb (ze (zd (zc 1 [(12,(.int .i64 n))] (za (zl (some 13) (zhs n _ (by omega)) ?_)))))))
 rintro _ w2 ⟨rfl,hEw2⟩
 have hzw2:=hEw2.size
 refine zc 5 [(5,(vI 1)),(4,(vI 0)),(15,(vI 1)),(14,(vI 0)),(11,(.tuple #[(vI 0),(vI 1)]))] (zf (zb (ze (ze (zd (zc 2 [(17,vT),(16,(vI 1))] (zf (zb (zC ?_)))))))))
 refine ze (zd (zc 2 [(19,(vI 1)),(18,(vA [(vI 0),(.slice none 0 0),(.slice none 0 0)]))] (za (zv 128 w.heap.size 0 128 (vA [(vI 0),(.slice none 0 0),(.slice none 0 0)]) ([(vI 0),(.slice none 0 0),(.slice none 0 0)]) ([(vI 0),(.slice none 0 0),(.slice none 0 0)]) (hBw1.ext hEw2) (by kernel_rfl) (by first | decide |(simp;done)|(simp;omega)) (by simp [Value.oneCell']) ?_))))
 intro w3 hBw3 hCw3
 have hzw3:=hCw3.size
 rw [zm _ _ (by kernel_rfl)] at hBw3
 exact zc 1 [(3,(vI 1))] (zf (zb (zq (zD (zaX (show zZ Tryz.prog 50 _ _ (.cell 2 128) (vA [(vI 0),(.slice none 0 0),(.slice none 0 0)]) from ⟨⟨w.heap.size,0,none⟩,(by kernel_rfl),zN (T:=128) (vs:= [(vI 0),(.slice none 0 0),(.slice none 0 0)]) (hBw3).all (by kernel_rfl)⟩) (show zZ Tryz.prog 50 _ _ (.tmp 3) (vI 1) by (show _=_;kernel_rfl)) (⟨_,_,rfl,Es.nil _ _ _ _,Es.nil _ _ _ _,(Ext.own (hEw1.trans hEw2) hCw3 (by omega))⟩))))))
theorem zf8 (n:Nat) {lo_c hi_c:Nat} {a_c:Option Addr} {n_c c_c:Nat} {c:List Nat} {lo_f hi_f:Nat} {a_f:Option Addr} {n_f c_f:Nat} {f:List Nat} (w:World) (h_c:Es (nv .i64) lo_c hi_c w a_c n_c c_c c) (h_f:Es (nv .i64) lo_f hi_f w a_f n_f c_f f) (hp0:c=zaI n (hgt n+1)) (hp1:f=za0 n (hgt n+1)) (hp2:1≤n) (hp3:n≤4096):
  Calls Tryz.prog 61 #[(vA [(vI n),(.slice a_c n_c c_c),(.slice a_f n_f c_f)])] w (Ret fun r w'=>r=(vI (tot n))∧Ext w w'):=by
 refine zI (n:=12) (σ:= [(0,(vA [(vI n),(.slice a_c n_c c_c),(.slice a_f n_f c_f)]))]) Tryz.func61 rfl ?_
 replace h_c:=h_c.now;have hle_c:=h_c.le
 replace h_f:=h_f.now;have hle_f:=h_f.le
 have hlc:=h_c.len_eq;rw [hp0,zbL] at hlc
 have hlf:=h_f.len_eq;rw [hp1,zb6] at hlf
 have h5:=zat n
 have hts:=zaw hp3
 have htt:=zcC hp2 hp3
 have hgf:gt f (n_f-1)=num n (hgt n):=by rw [show n_f-1=hgt n from by omega,hp1];exact zci (by omega)
 refine ze (zd (za (zo (some 1) (Instr.box 128 (vA [(vI n),(.slice a_c n_c c_c),(.slice a_f n_f c_f)])) (vP w.heap.size 0) ([(vI n),(.slice a_c n_c c_c),(.slice a_f n_f c_f)]) 128 ?_)))
 intro w1 hBw1 hEw1
 have hzw1:=hEw1.size;have hlw1:=hBw1.lt
 refine zc 1 [(2,(vI 0))] (zf (zb (ze (zd (zc 1 [(3,(vP w.heap.size 2))] (za (zj (some 4) (Instr.loadAt 29 (vP w.heap.size 2)) (.slice a_f n_f c_f) (zk (hBw1.cell rfl)) ?_)))))))
 refine zc 1 [(5,(vP w.heap.size 2))] (za (zj (some 6) (Instr.loadAt 29 (vP w.heap.size 2)) (.slice a_f n_f c_f) (zk (hBw1.cell rfl)) ?_))
 refine zc 1 [(7,(vI n_f))] (za (zt (some 8) .i64 (IntKind.i64.wrap (((n_f:Nat):Int)-((1:Nat):Int))) (n_f-1) (zA (by omega) (by omega) (by omega)) ?_))
 obtain ⟨b1,o1,rfl⟩:=h_f.addr (by omega)
 refine za (zj (some 9) (Instr.indexAt 29 (.slice (pA b1 o1) n_f c_f) (vI (n_f-1))) (vP b1 (o1+(n_f-1)*1)) (zP (E:=3) (sz:=1) (by omega)) ?_)
 refine za (zj (some 10) (Instr.loadAt 3 (vP b1 (o1+(n_f-1)*1))) (vI (gt f (n_f-1))) (zk ((h_f.ext hEw1).celln (by omega))) ?_)
 refine za (zt (some 11) .i64 (IntKind.i64.wrap (((gt f (n_f-1):Nat):Int)+((1:Nat):Int))) (tot n) (zA (by omega) (by omega) (by omega)) ?_)
 exact zc 1 [(2,(vI (tot n)))] (zf (zb (zq (zr (vI (tot n)) (⟨rfl,hEw1⟩)))))
theorem zem (n:Nat) {lo_c hi_c:Nat} {a_c:Option Addr} {n_c c_c:Nat} {c:List Nat} {lo_f hi_f:Nat} {a_f:Option Addr} {n_f c_f:Nat} {f:List Nat} (v:Nat) (j:Nat) (w:World) (h_c:Es (nv .i64) lo_c hi_c w a_c n_c c_c c) (h_f:Es (nv .i64) lo_f hi_f w a_f n_f c_f f) (hp0:c=zaI n (hgt n+1)) (hp1:f=za0 n (hgt n+1)) (hp2:1≤n) (hp3:n≤4096) (hp4:v≤hgt n) (hp5:j<cnt n v):
  Calls Tryz.prog 64 #[(vA [(vI n),(.slice a_c n_c c_c),(.slice a_f n_f c_f)]),(vI v),(vI j)] w (Ret fun r w'=>r=(vI (num n v+j))∧Ext w w'):=by
 refine zI (n:=14) (σ:= [(0,(vA [(vI n),(.slice a_c n_c c_c),(.slice a_f n_f c_f)])),(1,(vI v)),(2,(vI j))]) Tryz.func64 rfl ?_
 replace h_c:=h_c.now;have hle_c:=h_c.le
 replace h_f:=h_f.now;have hle_f:=h_f.le
 have hlc:=h_c.len_eq;rw [hp0,zbL] at hlc
 have hlf:=h_f.len_eq;rw [hp1,zb6] at hlf
 have h5:=zat n
 have hts:=zaw hp3
 have htt:=zcC hp2 hp3
 have hgf:gt f v=num n v:=by rw [hp1];exact zci (by omega)
 have hpl:=zaC (n:=n) (l:=v) (j:=j) hp4 hp5
 refine ze (zd (za (zo (some 3) (Instr.box 128 (vA [(vI n),(.slice a_c n_c c_c),(.slice a_f n_f c_f)])) (vP w.heap.size 0) ([(vI n),(.slice a_c n_c c_c),(.slice a_f n_f c_f)]) 128 ?_)))
 intro w1 hBw1 hEw1
 have hzw1:=hEw1.size;have hlw1:=hBw1.lt
 refine zc 1 [(6,(vI 0))] (zf (zb (ze (zd (zc 1 [(7,(vP w.heap.size 2))] (za (zj (some 8) (Instr.loadAt 29 (vP w.heap.size 2)) (.slice a_f n_f c_f) (zk (hBw1.cell rfl)) ?_)))))))
 refine zc 1 [(9,(vI v))] ?_
 obtain ⟨b1,o1,rfl⟩:=h_f.addr (by omega)
 refine za (zj (some 10) (Instr.indexAt 29 (.slice (pA b1 o1) n_f c_f) (vI v)) (vP b1 (o1+v*1)) (zP (E:=3) (sz:=1) (by omega)) ?_)
 refine za (zj (some 11) (Instr.loadAt 3 (vP b1 (o1+v*1))) (vI (gt f v)) (zk ((h_f.ext hEw1).celln (by omega))) ?_)
 refine zc 1 [(12,(vI j))] (za (zt (some 13) .i64 (IntKind.i64.wrap (((gt f v:Nat):Int)+((j:Nat):Int))) (num n v+j) (zA (by omega) (by omega) (by omega)) ?_))
 exact zc 1 [(6,(vI (num n v+j)))] (zf (zb (zq (zr (vI (num n v+j)) (⟨rfl,hEw1⟩)))))
end Go.Proofs.YtkmhgepdhilllaaGreatDoor
namespace Go.Proofs.YtkmhgepdhilllaaGreatDoor
open Go Go.RowKit Go.Cs
set_option maxRecDepth 100000
theorem zst (j:Nat) (b2:Nat) {lo_t hi_t:Nat} {a_t:Option Addr} {n_t c_t:Nat} {t:List Nod} (b3 n:Nat) {lo_c hi_c:Nat} {a_c:Option Addr} {n_c c_c:Nat} {c:List Nat} {a_f:Option Addr} {n_f c_f:Nat} (b4:Nat) (w:World) (hX2:Blk w b2 [.slice a_t n_t c_t] 42) (h_t:Ms zH 274 lo_t hi_t w a_t n_t c_t t) (hX3:Blk w b3 [vI n, .slice a_c n_c c_c, .slice a_f n_f c_f] 128) (h_c:Es (nv .i64) lo_c hi_c w a_c n_c c_c c) (hX4:Blk w b4 [(.func (.func 141) #[] #[(vP b2 0),(vP b3 0),(vP b4 0)])] 91) (hp0:c=zaI n (hgt n+1)) (hp1:n_t=tot n) (hp2:1≤n) (hp3:n≤4096) (hp4:j<cnt n 0):
  Calls Tryz.prog 141 #[(vI 0),(vI j),(vP b2 0),(vP b3 0),(vP b4 0)] w (Ret fun r w'=>r=(.bool (emP n t 0 j))∧Ext w w'):=by
 refine zI (n:=39) (σ:= [(0,(vI 0)),(1,(vI j)),(2,(vP b2 0)),(3,(vP b3 0)),(4,(vP b4 0))]) Tryz.func141 rfl ?_
 have hlc:=h_c.len_eq;rw [hp0,zbL] at hlc
 have hlt:=h_t.len_eq
 have h5:=zat n
 have hts:=zaw hp3
 have hle:=h_t.le
 have hb2:=hX2.lt;have hb3:=hX3.lt;have hb4:=hX4.lt
 have hpl:=zaC (n:=n) (l:=0) (j:=j) (by omega) hp4
 have hnum:num n 0=0:=rfl
 have hnd:ndA n t 0 j=t.getD j Nod.zero:=by unfold ndA;rw [hnum,Nat.zero_add]
 refine ze (zd (zc 1 [(7,vF)] (zf (zb (ze (ze (zd (zc 1 [(9,(vI 0))] (za (zai (some 10) (((0:Nat):Int)==((0:Nat):Int)) true (zas (by omega)) ?_))))))))))
 refine zf (zb (zC (ze (zd (za (zj (some 11) (Instr.loadAt 42 (vP b2 0)) (.slice a_t n_t c_t) (zk (hX2.cell rfl)) ?_))))))
 refine zc 1 [(12,(vI j))] ?_
 obtain ⟨b1,o1,rfl⟩:=h_t.addr (by omega) (by decide)
 refine za (zj (some 13) (Instr.indexAt 42 (.slice (pA b1 o1) n_t c_t) (vI j)) (vP b1 (o1+j*274)) (zP (E:=74) (sz:=274) (by omega)) ?_)
 refine za (zj (some 14) (Instr.loadAt 74 (vP b1 (o1+j*274))) (vA (zH (t.getD j Nod.zero))) (zw (vs:=zH (t.getD j Nod.zero)) (h_t.at Nod.zero (by omega)) (by rw [zV];kernel_rfl)) ?_)
 refine za (zl (some 15) (zkB (t.getD j Nod.zero) _) ?_)
 rintro _ w1 ⟨rfl,hEw1⟩
 have hzw1:=hEw1.size
 refine za (zK (some 16) ((((usd (t.getD j Nod.zero) 4:Nat):Int)==((0:Nat):Int))) (fun hc16=> ?_) (fun hc16=> ?_))
 ·replace hc16:usd (t.getD j Nod.zero) 4=0:=by have:=zbp hc16;omega
  exact zc 1 [(7,vT)] (zf (zb (zq (zD (zr vT (⟨congrArg (fun z:Bool=>Value.bool z) (by rw [emP,hnd];exact (beq_iff_eq.2 hc16).symm),hEw1⟩))))))
 ·replace hc16:¬(usd (t.getD j Nod.zero) 4=0):=by have:=zbo hc16;omega
  exact zc 1 [(7,vF)] (zf (zb (zq (zD (zr vF (⟨congrArg (fun z:Bool=>Value.bool z) (by rw [emP,hnd];exact (beq_eq_false_iff_ne.2 hc16).symm),hEw1⟩))))))
theorem ztj (v:Nat) (j:Nat) (b2:Nat) {lo_t hi_t:Nat} {a_t:Option Addr} {n_t c_t:Nat} {t:List Nod} (b3 n:Nat) {lo_c hi_c:Nat} {a_c:Option Addr} {n_c c_c:Nat} {c:List Nat} {a_f:Option Addr} {n_f c_f:Nat} (b4:Nat) (w:World) (hX2:Blk w b2 [.slice a_t n_t c_t] 42) (h_t:Ms zH 274 lo_t hi_t w a_t n_t c_t t) (hX3:Blk w b3 [vI n, .slice a_c n_c c_c, .slice a_f n_f c_f] 128) (h_c:Es (nv .i64) lo_c hi_c w a_c n_c c_c c) (hX4:Blk w b4 [(.func (.func 141) #[] #[(vP b2 0),(vP b3 0),(vP b4 0)])] 91) (hp0:c=zaI n (hgt n+1)) (hp1:n_t=tot n) (hp2:1≤n) (hp3:n≤4096) (hp4:v≤hgt n) (hp5:j<cnt n v) (hp6:v≠0) (hih:∀(j:Nat) (lo_t hi_t lo_c hi_c:Nat) (w:World),Blk w b2 [.slice a_t n_t c_t] 42→Ms zH 274 lo_t hi_t w a_t n_t c_t t→Blk w b3 [vI n, .slice a_c n_c c_c, .slice a_f n_f c_f] 128→Es (nv .i64) lo_c hi_c w a_c n_c c_c c→Blk w b4 [(.func (.func 141) #[] #[(vP b2 0),(vP b3 0),(vP b4 0)])] 91→j<cnt n (v-1)→Calls Tryz.prog 141 #[vI (v-1),vI j,vP b2 0,vP b3 0,vP b4 0] w (Ret fun r w'=>r= .bool (emP n t (v-1) j)∧Ext w w')):
  Calls Tryz.prog 141 #[(vI v),(vI j),(vP b2 0),(vP b3 0),(vP b4 0)] w (Ret fun r w'=>r=(.bool (emP n t v j))∧Ext w w'):=by
 refine zI (n:=39) (σ:= [(0,(vI v)),(1,(vI j)),(2,(vP b2 0)),(3,(vP b3 0)),(4,(vP b4 0))]) Tryz.func141 rfl ?_
 have hlc:=h_c.len_eq;rw [hp0,zbL] at hlc
 have hlt:=h_t.len_eq
 have h5:=zat n
 have hts:=zaw hp3
 have hle:=h_t.le
 have hb2:=hX2.lt;have hb3:=hX3.lt;have hb4:=hX4.lt
 have hcn:=zbf n v
 have hup:=zcn (n:=n) (l:=v) (by omega)
 have hcm:=zbf n (v-1)
 have hgc:gt c (v-1)=cnt n (v-1):=by rw [hp0];exact zeN (by omega)
 refine ze (zd (zc 1 [(7,vF)] (zf (zb (ze (ze (zd (zc 1 [(9,(vI v))] (za (zai (some 10) (((v:Nat):Int)==((0:Nat):Int)) false (zcc (by omega)) ?_))))))))))
 refine zf (zb (zn (zu (zb (ze (ze (zd (zc 1 [(17,(vI j))] (za (zt (some 18) .i64 (IntKind.i64.wrap (((4:Nat):Int)*((j:Nat):Int))) (4*j) (zA (by omega) (by omega) (by omega)) ?_))))))))))
 refine zc 1 [(8,(vI (4*j)))] (zf (zb (zy (zY (X:=Nat) (fun x=> [(8,(vI (4*j+x)))]) [7,19,20,21,22,23,24,25,26,27,28,29,30,31,32,33,34,35,36,37,38] (fun x w1=>x≤prt n v j∧(∀y,y<x→emP n t (v-1) (4*j+y)=true)∧Ext w w1) (fun x=>4-x) 0 (by kernel_rfl) ⟨Nat.zero_le _,fun y h=>absurd h (Nat.not_lt_zero _),(Ext.refl _)⟩ ?_))))
 rintro x dw1 w1 ⟨hx,hal,hEl⟩
 have hzl:=hEl.size
 have hp4:=zdl n v j
 have hlw:=fun h4=>za7 (n:=n) (l:=v) (j:=j) (w:=x) h4
 refine ze (ze (zd (zc 2 [(20,(vI j)),(19,(vI (4*j+x)))] (za (zt (some 21) .i64 (IntKind.i64.wrap (((j:Nat):Int)+((1:Nat):Int))) (j+1) (zA (by omega) (by omega) (by omega)) ?_)))))
 refine za (zt (some 22) .i64 (IntKind.i64.wrap (((4:Nat):Int)*((j+1:Nat):Int))) (4*(j+1)) (zA (by omega) (by omega) (by omega)) ?_)
 refine zc 1 [(23,(vP b3 1))] (za (zj (some 24) (Instr.loadAt 29 (vP b3 1)) (.slice a_c n_c c_c) (zk ((hX3.ext hEl).cell rfl)) ?_))
 refine zc 1 [(25,(vI v))] (za (zt (some 26) .i64 (IntKind.i64.wrap (((v:Nat):Int)-((1:Nat):Int))) (v-1) (zA (by omega) (by omega) (by omega)) ?_))
 obtain ⟨b1,o1,rfl⟩:=h_c.addr (by omega)
 refine za (zj (some 27) (Instr.indexAt 29 (.slice (pA b1 o1) n_c c_c) (vI (v-1))) (vP b1 (o1+(v-1)*1)) (zP (E:=3) (sz:=1) (by omega)) ?_)
 refine za (zj (some 28) (Instr.loadAt 3 (vP b1 (o1+(v-1)*1))) (vI (gt c (v-1))) (zk ((h_c.ext hEl).celln (by omega))) ?_)
 refine za (zh8 (some 29) (.int .i64 (if ((gt c (v-1):Nat):Int)<((4*(j+1):Nat):Int) then ((gt c (v-1):Nat):Int) else ((4*(j+1):Nat):Int))) (vI (min (4*(j+1)) (gt c (v-1)))) (congrArg _ (zjG _ _)) ?_)
 refine za (zK (some 30) (decide (((4*j+x:Nat):Int)<((min (4*(j+1)) (gt c (v-1)):Nat):Int))) (fun hc30=> ?_) (fun hc30=> ?_))
 ·replace hc30:4*j+x<min (4*(j+1)) (gt c (v-1)):=by have:=zaf hc30;omega
  have hx4:x<4:=by omega
  have hxp:x<prt n v j:=(hlw hx4).2 (by omega)
  refine zf (zb (zC (zu (zb (ze (zy (ze (zd (za (zj (some 33) (Instr.loadAt 91 (vP b4 0)) (.func (.func 141) #[] #[(vP b2 0),(vP b3 0),(vP b4 0)]) (zk ((hX4.ext hEl).cell rfl)) ?_))))))))))
  refine zc 1 [(34,(vI v))] (za (zt (some 35) .i64 (IntKind.i64.wrap (((v:Nat):Int)-((1:Nat):Int))) (v-1) (zA (by omega) (by omega) (by omega)) ?_))
  refine zc 1 [(36,(vI (4*j+x)))] ?_
  rcases (show emP n t (v-1) (4*j+x)=true∨emP n t (v-1) (4*j+x)=false by cases emP n t (v-1) (4*j+x)<;>simp) with he | he
  ·refine za (zl (some 37) (hih (4*j+x) _ _ _ _ _ (hX2.ext hEl) (h_t.ext hEl) (hX3.ext hEl) (h_c.ext hEl) (hX4.ext hEl) (by omega)) ?_)
   rintro _ w2 ⟨rfl,hEw2⟩
   have hzw2:=hEw2.size
   rw [show emP n t (v-1) (4*j+x)=true from he]
   refine zc 1 [(38,vF)] (zf (zb (zn (zu (zp (zb (zd (zc 1 [(31,(vI (4*j+x)))] (za (zt (some 32) .i64 (IntKind.i64.wrap (((4*j+x:Nat):Int)+((1:Nat):Int))) (4*j+x+1) (zA (by omega) (by omega) (by omega)) ?_))))))))))
   refine zc 1 [(8,(vI (4*j+x+1)))] (zf (zF (zR (x+1) ?_ ?_)))
   ·exact ⟨by omega,fun y hy=>by rcases Nat.lt_succ_iff_lt_or_eq.1 hy with h1 | rfl;exact hal y h1;exact he,(hEl.trans hEw2)⟩
   ·first | omega |(dsimp only;omega)
  ·refine za (zl (some 37) (hih (4*j+x) _ _ _ _ _ (hX2.ext hEl) (h_t.ext hEl) (hX3.ext hEl) (h_c.ext hEl) (hX4.ext hEl) (by omega)) ?_)
   rintro _ w3 ⟨rfl,hEw3⟩
   have hzw3:=hEw3.size
   rw [show emP n t (v-1) (4*j+x)=false from he]
   refine zc 1 [(38,vT)] (zf (zb (zC (ze (zd (zc 1 [(7,vF)] (zf (zb (zq ?_)))))))))
   refine zG (zD (zD (zG (zD (zr vF ?_)))))
   obtain ⟨u,rfl⟩:∃u,v=u+1:=⟨v-1,by omega⟩
   exact ⟨congrArg (fun z:Bool=>Value.bool z) ((zrx (l:=u) hxp he).symm),(hEl.trans hEw3)⟩
 ·replace hc30:¬(4*j+x<min (4*(j+1)) (gt c (v-1))):=by have:=zae hc30;omega
  have hxe:x=prt n v j:=by rcases Nat.lt_or_ge x (prt n v j) with hh | hh;exact absurd ((hlw (by omega)).1 hh) (by omega);omega
  refine zf (zb (zn (zW (zx (zx (zL (zb (ze (zd ?_)))))))))
  refine zc 1 [(7,vT)] (zf (zb (zq (zr vT ?_))))
  obtain ⟨u,rfl⟩:∃u,v=u+1:=⟨v-1,by omega⟩
  exact ⟨congrArg (fun z:Bool=>Value.bool z) (((zkb (l:=u)).2 (fun y hy=>hal y (by omega))).symm),hEl⟩
theorem zn1 {b2 b3 b4:Nat} {a_t:Option Addr} {n_t c_t:Nat} {t:List Nod} {n:Nat} {a_c:Option Addr} {n_c c_c:Nat} {c:List Nat} {a_f:Option Addr} {n_f c_f:Nat} (h1:1≤n) (h2:n≤4096) (h3:n_t=tot n) (h4:c=zaI n (hgt n+1)):∀(v j lo_t hi_t lo_c hi_c:Nat) (w:World),Blk w b2 [.slice a_t n_t c_t] 42→Ms zH 274 lo_t hi_t w a_t n_t c_t t→Blk w b3 [vI n, .slice a_c n_c c_c, .slice a_f n_f c_f] 128→Es (nv .i64) lo_c hi_c w a_c n_c c_c c→Blk w b4 [(.func (.func 141) #[] #[(vP b2 0),(vP b3 0),(vP b4 0)])] 91→v≤hgt n→j<cnt n v→
  Calls Tryz.prog 141 #[vI v,vI j,vP b2 0,vP b3 0,vP b4 0] w (Ret fun r w'=>r= .bool (emP n t v j)∧Ext w w')
 | 0,j,_,_,_,_,w,x2,xt,x3,xc,x4,_,hj=>zst j b2 b3 n b4 w x2 xt x3 xc x4 h4 h3 h1 h2 hj
 | v+1,j,_,_,_,_,w,x2,xt,x3,xc,x4,hv,hj=>ztj (v+1) j b2 b3 n b4 w x2 xt x3 xc x4 h4 h3 h1 h2 hv hj (Nat.succ_ne_zero v) (fun j' lo1 hi1 lo2 hi2 w' y2 yt y3 yc y4 hj'=>zn1 h1 h2 h3 h4 v j' lo1 hi1 lo2 hi2 w' y2 yt y3 yc y4 (by omega) hj')
theorem zd6 (v:Nat) (j:Nat) (b2:Nat) {lo_t hi_t:Nat} {a_t:Option Addr} {n_t c_t:Nat} {t:List Nod} (b3 n:Nat) {lo_c hi_c:Nat} {a_c:Option Addr} {n_c c_c:Nat} {c:List Nat} {a_f:Option Addr} {n_f c_f:Nat} (b4:Nat) (w:World) (hX2:Blk w b2 [.slice a_t n_t c_t] 42) (h_t:Ms zH 274 lo_t hi_t w a_t n_t c_t t) (hX3:Blk w b3 [vI n, .slice a_c n_c c_c, .slice a_f n_f c_f] 128) (h_c:Es (nv .i64) lo_c hi_c w a_c n_c c_c c) (hX4:Blk w b4 [(.func (.func 141) #[] #[(vP b2 0),(vP b3 0),(vP b4 0)])] 91) (hp0:c=zaI n (hgt n+1)) (hp1:n_t=tot n) (hp2:1≤n) (hp3:n≤4096) (hp4:v≤hgt n) (hp5:j<cnt n v):
  Calls Tryz.prog 141 #[(vI v),(vI j),(vP b2 0),(vP b3 0),(vP b4 0)] w (Ret fun r w'=>r=(.bool (emP n t v j))∧Ext w w'):=by
 exact zn1 hp2 hp3 hp1 hp0 v j _ _ _ _ w hX2 h_t hX3 h_c hX4 hp4 hp5
end Go.Proofs.YtkmhgepdhilllaaGreatDoor
namespace Go.Proofs.YtkmhgepdhilllaaGreatDoor
open Go Go.RowKit Go.Cs
set_option maxRecDepth 100000
theorem zr3 (n:Nat) {lo_c hi_c:Nat} {a_c:Option Addr} {n_c c_c:Nat} {c:List Nat} {lo_f hi_f:Nat} {a_f:Option Addr} {n_f c_f:Nat} {f:List Nat} {lo_t hi_t:Nat} {a_t:Option Addr} {n_t c_t:Nat} {t:List Nod} (w:World) (h_c:Es (nv .i64) lo_c hi_c w a_c n_c c_c c) (h_f:Es (nv .i64) lo_f hi_f w a_f n_f c_f f) (h_t:Ms zH 274 lo_t hi_t w a_t n_t c_t t):
  Calls Tryz.prog 123 #[(vA [(vI n),(.slice a_c n_c c_c),(.slice a_f n_f c_f)]),(.slice a_t n_t c_t)] w (Ret fun r w'=>∃(a0:Nat) (a0y:Nat) (a0z:Nat),r=(.func (.func 141) #[] #[(vP a0 0),(vP a0y 0),(vP a0z 0)])∧(w.heap.size≤a0∧w.heap.size≤a0y∧w.heap.size≤a0z)∧Blk w' a0 [.slice a_t n_t c_t] 42∧Blk w' a0y [vI n, .slice a_c n_c c_c, .slice a_f n_f c_f] 128∧Blk w' a0z [(.func (.func 141) #[] #[(vP a0 0),(vP a0y 0),(vP a0z 0)])] 91∧Ext w w'):=by
 refine zI (n:=8) (σ:= [(0,(vA [(vI n),(.slice a_c n_c c_c),(.slice a_f n_f c_f)])),(1,(.slice a_t n_t c_t))]) Tryz.func123 rfl ?_
 replace h_c:=h_c.now;have hle_c:=h_c.le
 replace h_f:=h_f.now;have hle_f:=h_f.le
 replace h_t:=h_t.now;have hle_t:=h_t.le
 refine ze (zd (za (zo (some 2) (Instr.box 128 (vA [(vI n),(.slice a_c n_c c_c),(.slice a_f n_f c_f)])) (vP w.heap.size 0) ([(vI n),(.slice a_c n_c c_c),(.slice a_f n_f c_f)]) 128 ?_)))
 intro w1 hBw1 hEw1
 have hzw1:=hEw1.size;have hlw1:=hBw1.lt
 refine za (zo (some 3) (Instr.box 42 (.slice a_t n_t c_t)) (vP w1.heap.size 0) ([(.slice a_t n_t c_t)]) 42 ?_)
 intro w2 hBw2 hEw2
 have hzw2:=hEw2.size;have hlw2:=hBw2.lt
 refine zc 1 [(4, .nilFunc)] (zf (zb (ze (zd (za (zo (some 5) (Instr.alloc 91 true (.tuple #[])) (vP w2.heap.size 0) ([.nilFunc]) 91 ?_))))))
 intro w3 hBw3 hEw3
 have hzw3:=hEw3.size;have hlw3:=hBw3.lt
 refine zf (zb (ze (zd (zc 1 [(6,(.func (.func 141) #[] #[(vP w1.heap.size 0),(vP w.heap.size 0),(vP w2.heap.size 0)]))] (za (zah 91 w2.heap.size 0 91 (.func (.func 141) #[] #[(vP w1.heap.size 0),(vP w.heap.size 0),(vP w2.heap.size 0)]) ([.nilFunc]) hBw3 (by first | decide |(simp;done)|(simp;omega)) ?_))))))
 intro w4 hBw4 hCw4
 have hzw4:=hCw4.size
 replace hBw4:=hBw4.set1
 refine zf (zb (ze (zd (za (zj (some 7) (Instr.loadAt 91 (vP w2.heap.size 0)) (.func (.func 141) #[] #[(vP w1.heap.size 0),(vP w.heap.size 0),(vP w2.heap.size 0)]) (zk (hBw4.cell rfl)) ?_)))))
 refine zc 1 [(4,(.func (.func 141) #[] #[(vP w1.heap.size 0),(vP w.heap.size 0),(vP w2.heap.size 0)]))] (zf (zb (zq (zr (.func (.func 141) #[] #[(vP w1.heap.size 0),(vP w.heap.size 0),(vP w2.heap.size 0)]) ?_))))
 have hK1:=(((((hBw1.ext hEw2)).ext hEw3)).chg hCw4 (fun hs=>by have h:_=_:=hs;omega))
 have hX1:Ext w w4:=(Ext.own ((hEw1.trans hEw2).trans hEw3) hCw4 (by omega))
 exact ⟨w1.heap.size,w.heap.size,w2.heap.size,rfl,by omega,(((hBw2.ext hEw3)).chg hCw4 (fun hs=>by have h:_=_:=hs;omega)),hK1,hBw4,hX1⟩
end Go.Proofs.YtkmhgepdhilllaaGreatDoor
namespace Go.Cs
open Go Go.RowKit Go.Extern.Stop Go.Stop Go.Extern
theorem zi8 (z:Sem Value) (f:TypeId→Addr→Nat→Nat→Sem Value) (v:Value):
  ReflectliteValue.method z f #[v]=(do match←ReflectliteValue.parts v with | none=>z | some (t,a,fl)=>f t a fl (fl%32)):=rfl
theorem zsX (v x:Value):ReflectliteValue.set #[v,x]=(do
  let (some (dst,a,fl),some (src,b,_)):=(←ReflectliteValue.parts v,←ReflectliteValue.parts x)
   | unsupported (.noEntry "extern/(internal/reflectlite.Value).Set.zeroValue")
  if fl/ReflectliteValue.flagAddr%2==0 then unsupported (.noEntry "extern/(internal/reflectlite.Value).Set.unaddressable")
  let val←loadVar src b
  if←Rtype.directlyAssignable dst src then storeVar dst a val
  else if←Rtype.implements dst src then
   if (←Rtype.kind src)==20 then
    match val with
    | .nilIface=>unsupported (.noEntry "extern/reflectlite: a nil value of one interface type handed on as a value of another")
    | _=>storeVar dst a val
   else storeVar dst a (.iface src val)
  else panicString ("reflectlite.Set: value of type " ++(←Rtype.spelt src)++ " is not assignable to type " ++(←Rtype.spelt dst))
  pure (.tuple #[])):=rfl
theorem zh5 {P:Program} {T b e:Nat} {w:World} {cs vs:List Value} (hB:Blk w b cs e) (hsz:(P.info? T).map (·.size)=some vs.length) (hl:cs.length=vs.length) (h1:∀u∈vs,u.oneCell'=true):
  ∃w',(storeVar T ⟨b,0,none⟩ (.agg vs.toArray)).run P w= .ok () w'∧Blk w' b vs e∧Chg (· =b) w w':=by
 obtain ⟨w',h2,h3,h4⟩:=zcg (P:=P) vs w b 0 0 cs e hB (by omega) h1
 refine ⟨w', ?_, ?_,h4⟩
 ·have h5:=zbj (w:=w) hsz
  simp [storeVar,Value.cells,h5,h2]
 ·have:zac cs 0 vs=vs:=zm _ _ hl.symm
  rw [←this];simpa using h3
end Go.Cs
namespace Go.Proofs.YtkmhgepdhilllaaGreatDoor
open Go Go.RowKit Go.Cs
set_option maxRecDepth 100000
open Go.Extern.Stop Go.Stop Go.Extern
theorem zpc (t:Value) (w:World):Calls Tryz.prog 122 #[.nilIface,t] w fun e w'=>e= .returned (.bool false)∧w'=w:=by
 go_enter Tryz.func122,Tryz.ntmps122
 go_wp2
 go_ret
 exact ⟨rfl,rfl⟩
theorem zju (t:Addr) (w:World):(ReflectliteValue.unpack (.iface 200 (.pointer (some t)))).run Tryz.prog w= .ok (.agg #[.pointer (some ⟨4,200,none⟩), .pointer (some ⟨w.heap.size,0,none⟩), .int .u64 150]) (w.alloc (.cells #[.pointer (some t)] 200)):=by kernel_rfl
theorem zm0 (a:Addr) (w:World):(ReflectliteValue.methodAny (ReflectliteValue.valueError "reflectlite.Value.Type" 0) (fun t _ _ _=>ReflectliteType.toType t) #[.agg #[.pointer (some ⟨4,200,none⟩), .pointer (some a), .int .u64 150]]).run Tryz.prog w= .ok (.iface 227 (.agg #[.pointer (some ⟨4,200,none⟩)])) w:=by kernel_rfl
theorem zm7 (h:Value) (w:World):(Go.method 372 227 (.agg #[h]) "Kind").run Tryz.prog w= .ok (167,h) w:=by kernel_rfl
theorem zmH (w:World):((ReflectliteType.abiMethod fun t=>(fun a:Nat=>Value.int IntKind.u8 (a:Int))<$>Rtype.kind t) #[.pointer (some ⟨4,200,none⟩)]).run Tryz.prog w= .ok (.int .u8 22) w:=by kernel_rfl
theorem zmQ (w:World):((ReflectliteType.abiMethod fun t=>(fun a:Nat=>Value.int IntKind.u8 (a:Int))<$>Rtype.kind t) #[.pointer (some ⟨4,198,none⟩)]).run Tryz.prog w= .ok (.int .u8 25) w:=by kernel_rfl
theorem zhw (a:Addr) (w:World):(ReflectliteValue.parts (.agg #[.pointer (some ⟨4,200,none⟩), .pointer (some a), .int .u64 150])).run Tryz.prog w= .ok (some (200,a,150)) w:=by kernel_rfl
theorem zlv (a p:Addr) (W:World) (ha:W.cell? a=some (.pointer (some p))):
  (ReflectliteValue.method (ReflectliteValue.valueError "reflectlite.Value.IsNil" 0) ReflectliteValue.isNil #[.agg #[.pointer (some ⟨4,200,none⟩), .pointer (some a), .int .u64 150]]).run Tryz.prog W= .ok (.bool false) W:=by
 rw [zi8]
 simp only [Sem.run_bind,zhw,Result.andThen]
 simp [ReflectliteValue.isNil,loadVar,isAgg,underlying,Tryz.underlying200,ha,Result.andThen]
theorem znd (h:Value) (w:World):(Go.method 372 227 (.agg #[h]) "Elem").run Tryz.prog w= .ok (178, .agg #[h]) w:=by kernel_rfl
theorem zmF (h:Value) (w:World):(Go.method 372 227 (.agg #[h]) "Implements").run Tryz.prog w= .ok (179, .agg #[h]) w:=by kernel_rfl
theorem zon (h:Value) (w:World):(Go.method 372 227 (.agg #[h]) "AssignableTo").run Tryz.prog w= .ok (176, .agg #[h]) w:=by kernel_rfl
theorem zmq (w:World):(ReflectliteType.method ReflectliteType.elem #[.agg #[.pointer (some ⟨4,200,none⟩)]]).run Tryz.prog w= .ok (.iface 227 (.agg #[.pointer (some ⟨4,198,none⟩)])) w:=by kernel_rfl
theorem zmp (w:World):(ReflectliteType.relation "Implements" ReflectliteType.implements_ #[.agg #[.pointer (some ⟨4,198,none⟩)], .iface 227 (.agg #[.pointer (some ⟨4,160,none⟩)])]).run Tryz.prog w= .ok (.bool true) w:=by kernel_rfl
theorem zkZ (v:Value) (w:World):(ReflectliteType.typeOf #[.iface 198 v]).run Tryz.prog w= .ok (.iface 227 (.agg #[.pointer (some ⟨4,198,none⟩)])) w:=by kernel_rfl
theorem znu (w:World):(ReflectliteType.relation "AssignableTo" ReflectliteType.assignableTo #[.agg #[.pointer (some ⟨4,198,none⟩)], .iface 227 (.agg #[.pointer (some ⟨4,198,none⟩)])]).run Tryz.prog w= .ok (.bool true) w:=by kernel_rfl
theorem zjv (x y:Value) (w:World):(ReflectliteValue.unpack (.iface 198 (.agg #[x,y]))).run Tryz.prog w= .ok (.agg #[.pointer (some ⟨4,198,none⟩), .pointer (some ⟨w.heap.size,0,none⟩), .int .u64 153]) (w.alloc (.cells #[x,y] 198)):=by kernel_rfl
theorem zlp (w:World):(Rtype.elem? 200).run Tryz.prog w= .ok (some 198) w:=by kernel_rfl
theorem zpS (p:Addr) (w:World):(ReflectliteValue.mk 198 p ReflectliteValue.flagAddr).run Tryz.prog w= .ok (.agg #[.pointer (some ⟨4,198,none⟩), .pointer (some p), .int .u64 409]) w:=by kernel_rfl
theorem zmI (a p:Addr) (W:World) (ha:W.cell? a=some (.pointer (some p))):
  (ReflectliteValue.method (ReflectliteValue.valueError "reflectlite.Value.Elem" 0) ReflectliteValue.elem #[.agg #[.pointer (some ⟨4,200,none⟩), .pointer (some a), .int .u64 150]]).run Tryz.prog W= .ok (.agg #[.pointer (some ⟨4,198,none⟩), .pointer (some p), .int .u64 409]) W:=by
 rw [zi8]
 simp only [Sem.run_bind,zhw,Result.andThen]
 simp [ReflectliteValue.elem,loadVar,isAgg,underlying,Tryz.underlying200,ha,Result.andThen,zlp,zpS]
theorem zlq (a:Addr) (w:World):(ReflectliteValue.parts (.agg #[.pointer (some ⟨4,198,none⟩), .pointer (some a), .int .u64 409])).run Tryz.prog w= .ok (some (198,a,409)) w:=by kernel_rfl
theorem zly (a:Addr) (w:World):(ReflectliteValue.parts (.agg #[.pointer (some ⟨4,198,none⟩), .pointer (some a), .int .u64 153])).run Tryz.prog w= .ok (some (198,a,153)) w:=by kernel_rfl
theorem zlo (w:World):(Rtype.directlyAssignable 198 198).run Tryz.prog w= .ok true w:=by kernel_rfl
theorem zpL {b s:Nat} {x y u v:Value} {W:World} (hs:Blk W s [x,y] 198) (hb:Blk W b [u,v] 198) (h1:x.oneCell'=true) (h2:y.oneCell'=true):
  ∃w',(ReflectliteValue.set #[.agg #[.pointer (some ⟨4,198,none⟩), .pointer (some ⟨b,0,none⟩), .int .u64 409], .agg #[.pointer (some ⟨4,198,none⟩), .pointer (some ⟨s,0,none⟩), .int .u64 153]]).run Tryz.prog W= .ok (.tuple #[]) w'∧Blk w' b [x,y] 198∧Chg (· =b) W w':=by
 obtain ⟨w',h3,h4,h5⟩:=zh5 (P:=Tryz.prog) (T:=198) (vs:= [x,y]) hb (by kernel_rfl) rfl (by
  intro u hu;simp only [List.mem_cons,List.mem_nil_iff,or_false] at hu;rcases hu with rfl | rfl;exact h1;exact h2)
 refine ⟨w', ?_,h4,h5⟩
 have hl:=zN (P:=Tryz.prog) (T:=198) (hs.at 0 [x,y] rfl) (by kernel_rfl) (by kernel_rfl)
 rw [zsX]
 simp only [Sem.run_bind,zlq,zly,Result.andThen]
 simp [ReflectliteValue.flagAddr,hl,Result.andThen,zlo,h3]
set_option maxHeartbeats 4000000 in
theorem zpo {b:Nat} {x y u v:Value} {w:World} (hg:Gl 2 [.iface 227 (.agg #[.pointer (some ⟨4,160,none⟩)])] w) (hb:Blk w b [u,v] 198) (h1:x.oneCell'=true) (h2:y.oneCell'=true):
  Calls Tryz.prog 122 #[.iface 198 (.agg #[x,y]), .iface 200 (.pointer (some ⟨b,0,none⟩))] w fun ev w'=>ev= .returned (.bool true)∧Blk w' b [x,y] 198∧Chg (· =b) w w':=by
 have h6:= @run_callFunc_extern Tryz.prog 137 _ (fun args=>ReflectliteValue.unpack (args.getD 0 (.tuple #[]))) Tryz.func137 (by kernel_rfl) (by kernel_rfl) (by kernel_rfl) (by kernel_rfl)
 have h7:= @run_callFunc_extern Tryz.prog 138 _ (ReflectliteValue.methodAny (ReflectliteValue.valueError "reflectlite.Value.Type" 0) (fun t _ _ _=>ReflectliteType.toType t)) Tryz.func138 (by kernel_rfl) (by kernel_rfl) (by kernel_rfl) (by kernel_rfl)
 have h8:= @run_callFunc_extern Tryz.prog 139 _ (ReflectliteValue.method (ReflectliteValue.valueError "reflectlite.Value.IsNil" 0) ReflectliteValue.isNil) Tryz.func139 (by kernel_rfl) (by kernel_rfl) (by kernel_rfl) (by kernel_rfl)
 have h27:= @run_callFunc_extern Tryz.prog 167 _ (ReflectliteType.abiMethod fun t=>do pure (.int .u8 (←Rtype.kind t))) Tryz.func167 (by kernel_rfl) (by kernel_rfl) (by kernel_rfl) (by kernel_rfl)
 have h37:= @run_callFunc_extern Tryz.prog 178 _ (ReflectliteType.method ReflectliteType.elem) Tryz.func178 (by kernel_rfl) (by kernel_rfl) (by kernel_rfl) (by kernel_rfl)
 have h38:= @run_callFunc_extern Tryz.prog 179 _ (ReflectliteType.relation "Implements" ReflectliteType.implements_) Tryz.func179 (by kernel_rfl) (by kernel_rfl) (by kernel_rfl) (by kernel_rfl)
 have h10:= @run_callFunc_extern Tryz.prog 146 _ ReflectliteType.typeOf Tryz.func146 (by kernel_rfl) (by kernel_rfl) (by kernel_rfl) (by kernel_rfl)
 have h35:= @run_callFunc_extern Tryz.prog 176 _ (ReflectliteType.relation "AssignableTo" ReflectliteType.assignableTo) Tryz.func176 (by kernel_rfl) (by kernel_rfl) (by kernel_rfl) (by kernel_rfl)
 have h11:= @run_callFunc_extern Tryz.prog 147 _ (ReflectliteValue.method (ReflectliteValue.valueError "reflectlite.Value.Elem" 0) ReflectliteValue.elem) Tryz.func147 (by kernel_rfl) (by kernel_rfl) (by kernel_rfl) (by kernel_rfl)
 have h12:= @run_callFunc_extern Tryz.prog 148 _ ReflectliteValue.set Tryz.func148 (by kernel_rfl) (by kernel_rfl) (by kernel_rfl) (by kernel_rfl)
 have tO:=zkZ
 have mA:=zon
 have aF:=znu
 have vF:=zjv
 have f6:=zju
 have f7:=zm0
 have mK:=zm7
 have mE:=znd
 have mI:=zmF
 have kP:=zmH
 have kF:=zmQ
 have eP:=zmq
 have iF:=zmp
 have hbl:=hb.lt
 have hgl:=hg.lt
 have n8:=zlv ⟨w.heap.size,0,none⟩ ⟨b,0,none⟩ ((w.alloc (.cells #[.pointer (some ⟨b,0,none⟩)] 200)).alloc (.cells #[.pointer (some ⟨4,200,none⟩), .pointer (some ⟨w.heap.size,0,none⟩), .int .u64 150] 215)) (by simp)
 have hg0:w.cell? ⟨2,0,none⟩=some (.iface 227 (.agg #[.pointer (some ⟨4,160,none⟩)])):=hg.all 0 _ rfl
 have hg2:((w.alloc (.cells #[.pointer (some ⟨b,0,none⟩)] 200)).alloc (.cells #[.pointer (some ⟨4,200,none⟩), .pointer (some ⟨w.heap.size,0,none⟩), .int .u64 150] 215)).cell? ⟨2,0,none⟩=some (.iface 227 (.agg #[.pointer (some ⟨4,160,none⟩)])):=by
  rw [World.cell?_alloc_lt _ _ ⟨2,0,none⟩ (by simp;omega),World.cell?_alloc_lt _ _ ⟨2,0,none⟩ hgl];exact hg0
 have el:=zmI ⟨w.heap.size,0,none⟩ ⟨b,0,none⟩ (((w.alloc (.cells #[.pointer (some ⟨b,0,none⟩)] 200)).alloc (.cells #[.pointer (some ⟨4,200,none⟩), .pointer (some ⟨w.heap.size,0,none⟩), .int .u64 150] 215)).alloc (.cells #[.pointer (some ⟨4,200,none⟩), .pointer (some ⟨w.heap.size,0,none⟩), .int .u64 150] 215)) (by rw [World.cell?_alloc_lt _ _ ⟨w.heap.size,0,none⟩ (by simp;omega)];simp)
 have e1:=Ext.alloc w (.cells #[.pointer (some ⟨b,0,none⟩)] 200)
 have e2:=e1.trans (Ext.alloc _ (.cells #[.pointer (some ⟨4,200,none⟩), .pointer (some ⟨w.heap.size,0,none⟩), .int .u64 150] 215))
 have e3:=e2.trans (Ext.alloc _ (.cells #[.pointer (some ⟨4,200,none⟩), .pointer (some ⟨w.heap.size,0,none⟩), .int .u64 150] 215))
 have e4:=e3.trans (Ext.alloc _ (.cells #[x,y] 198))
 obtain ⟨wS,st,hBS,hCS⟩:=zpL (s:=w.heap.size+1+1+1) (by have hz:=Blk.new (((w.alloc (.cells #[.pointer (some ⟨b,0,none⟩)] 200)).alloc (.cells #[.pointer (some ⟨4,200,none⟩), .pointer (some ⟨w.heap.size,0,none⟩), .int .u64 150] 215)).alloc (.cells #[.pointer (some ⟨4,200,none⟩), .pointer (some ⟨w.heap.size,0,none⟩), .int .u64 150] 215)) [x,y] 198;simpa using hz) (hb.ext e4) h1 h2
 go_enter Tryz.func122,Tryz.ntmps122
 go_wp2
 refine wp_loop_rounds 1 ?_
 rw [rounds_succ]
 go_wp2
 go_ret
 exact ⟨rfl,hBS,(Ext.chg e4).trans hCS⟩
end Go.Proofs.YtkmhgepdhilllaaGreatDoor
namespace Go.Proofs.YtkmhgepdhilllaaGreatDoor
open Go Go.RowKit Go.Cs
set_option maxRecDepth 100000
theorem znH {b:Nat} {x y u v:Value} {w:World} (hg:Gl 2 [.iface 227 (.agg #[.pointer (some ⟨4,160,none⟩)])] w) (hb:Blk w b [u,v] 198) (h1:x.oneCell'=true) (h2:y.oneCell'=true):
  Calls Tryz.prog 122 #[.iface 198 (.agg #[x,y]), .iface 200 (.pointer (some ⟨b,0,none⟩))] w (Ret fun r w'=>r= .bool true∧Blk w' b [x,y] 198∧Chg (· =b) w w'):=
 (zpo hg hb h1 h2).mono fun e w' h=>⟨_,h.1,rfl,h.2⟩
theorem znU (t:Value) (w:World):Calls Tryz.prog 122 #[.nilIface,t] w (Ret fun r w'=>r= .bool false∧w'=w):=
 (zpc t w).mono fun e w' h=>⟨_,h.1,rfl,h.2⟩
theorem zrz (w:World):
  Calls Tryz.prog 92 #[.nilIface] w (Ret fun r w'=>r=(vI 0)∧Ext w w'):=by
 refine zI (n:=9) (σ:= [(0, .nilIface)]) Tryz.func92 rfl ?_
 refine ze (zd (zc 1 [(2,(vI 0))] (zf (zb (ze (zd (za (zo (some 3) (Instr.alloc 198 true (.tuple #[])) (vP w.heap.size 0) ([(vI 0),(vI 0)]) 198 ?_))))))))
 intro w1 hBw1 hEw1
 have hzw1:=hEw1.size;have hlw1:=hBw1.lt
 refine zf (zb (ze (ze (zd (zc 2 [(5,(.iface 200 (vP w.heap.size 0))),(4, .nilIface)] (za (zl (some 6) (znU (.iface 200 (vP w.heap.size 0)) _) ?_)))))))
 rintro _ _ ⟨rfl,rfl⟩
 refine zf (zb (zn (zu (zb (ze (zd (zc 1 [(2,(vI 0))] (zf (zb ?_)))))))))
 exact zq (zr (vI 0) (⟨rfl,hEw1⟩))
theorem zr4 (k e:Nat) (w:World) (hg3:Gl 2 [.iface 227 (.agg #[.pointer (some ⟨4,160,none⟩)])] w):
  Calls Tryz.prog 92 #[(.iface 198 (vA [vI k,vI e]))] w (Ret fun r w'=>r=(vI e)∧Ext w w'):=by
 refine zI (n:=9) (σ:= [(0,(.iface 198 (vA [vI k,vI e])))]) Tryz.func92 rfl ?_
 have hgl3:=hg3.lt
 refine ze (zd (zc 1 [(2,(vI 0))] (zf (zb (ze (zd (za (zo (some 3) (Instr.alloc 198 true (.tuple #[])) (vP w.heap.size 0) ([(vI 0),(vI 0)]) 198 ?_))))))))
 intro w1 hBw1 hEw1
 have hzw1:=hEw1.size;have hlw1:=hBw1.lt
 refine zf (zb (ze (ze (zd (zc 2 [(5,(.iface 200 (vP w.heap.size 0))),(4,(.iface 198 (vA [vI k,vI e])))] (za (zl (some 6) (znH (x:=vI k) (y:=vI e) (hg3.ext hEw1) hBw1 rfl rfl) ?_)))))))
 rintro _ w2 ⟨rfl,hBw2,hCw2⟩
 have hzw2:=hCw2.size
 refine zf (zb (zC (ze (zd (zc 1 [(7,(vP w.heap.size 1))] (za (zj (some 8) (Instr.loadAt 39 (vP w.heap.size 1)) (vI e) (zk (hBw2.cell rfl)) ?_)))))))
 exact zc 1 [(2,(vI e))] (zf (zb (zq (zD (zr (vI e) (⟨rfl,(Ext.own hEw1 hCw2 (by omega))⟩))))))
theorem zsm (k e:Nat) (w:World) (hg3:Gl 2 [.iface 227 (.agg #[.pointer (some ⟨4,160,none⟩)])] w):
  Calls Tryz.prog 92 #[(zmB 198 k e)] w (Ret fun r w'=>r=(vI e)∧Ext w w'):=by
 by_cases h:e=0
 ·subst h;exact zrz w
 ·rw [zb7 h];exact zr4 k e w hg3
end Go.Proofs.YtkmhgepdhilllaaGreatDoor
namespace Go.Proofs.YtkmhgepdhilllaaGreatDoor
open Go Go.RowKit Go.Cs
set_option maxRecDepth 100000
set_option maxHeartbeats 4000000 in
theorem zrT (n:Nat) {lo_c hi_c:Nat} {a_c:Option Addr} {n_c c_c:Nat} {c:List Nat} {lo_f hi_f:Nat} {a_f:Option Addr} {n_f c_f:Nat} {f:List Nat} {lo_t hi_t:Nat} {a_t:Option Addr} {n_t c_t:Nat} {t:List Nod} (w:World) (h_c:Es (nv .i64) lo_c hi_c w a_c n_c c_c c) (h_f:Es (nv .i64) lo_f hi_f w a_f n_f c_f f) (h_t:Ms zH 274 lo_t hi_t w a_t n_t c_t t) (hp0:c=zaI n (hgt n+1)) (hp1:f=za0 n (hgt n+1)) (hp2:1≤n) (hp3:n≤4096) (hp4:n_t=tot n) (hg0:Gl 0 [vI 45,vI 33] w) (hg1:Gl 1 (w8C za6) w) (hg2:Gl 3 (zar kA) w):
  Calls Tryz.prog 93 #[(vA [(vI n),(.slice a_c n_c c_c),(.slice a_f n_f c_f)]),(vA [(vI n),(.slice a_t n_t c_t)])] w (Ret fun r w'=>∃(a0:Nat),r=(zmB 198 a0 (zct n t))∧Ext w w'):=by
 refine zI (n:=123) (σ:= [(0,(vA [(vI n),(.slice a_c n_c c_c),(.slice a_f n_f c_f)])),(1,(vA [(vI n),(.slice a_t n_t c_t)]))]) Tryz.func93 rfl ?_
 replace h_c:=h_c.now;have hle_c:=h_c.le
 replace h_f:=h_f.now;have hle_f:=h_f.le
 replace h_t:=h_t.now;have hle_t:=h_t.le
 have hgl0:=hg0.lt
 have hgl1:=hg1.lt
 have hgl2:=hg2.lt
 have hlc:=h_c.len_eq;rw [hp0,zbL] at hlc
 have hlf:=h_f.len_eq;rw [hp1,zb6] at hlf
 have h5:=zat n
 have hts:=zaw hp3
 have htt:=zcC hp2 hp3
 have hlt:=h_t.len_eq
 have hle:=h_t.le
 have hln:1≤n_c:=by omega
 refine ze (zd (za (zo (some 2) (Instr.box 128 (vA [(vI n),(.slice a_c n_c c_c),(.slice a_f n_f c_f)])) (vP w.heap.size 0) ([(vI n),(.slice a_c n_c c_c),(.slice a_f n_f c_f)]) 128 ?_)))
 intro w1 hBw1 hEw1
 have hzw1:=hEw1.size;have hlw1:=hBw1.lt
 refine za (zo (some 3) (Instr.box 44 (vA [(vI n),(.slice a_t n_t c_t)])) (vP w1.heap.size 0) ([(vI n),(.slice a_t n_t c_t)]) 44 ?_)
 intro w2 hBw2 hEw2
 have hzw2:=hEw2.size;have hlw2:=hBw2.lt
 refine zc 1 [(4, .nilIface)] (zf (zb (ze (zd (za (zj (some 15) (Instr.loadAt 128 (vP w.heap.size 0)) (vA [(vI n),(.slice a_c n_c c_c),(.slice a_f n_f c_f)]) (zw (vs:= [(vI n),(.slice a_c n_c c_c),(.slice a_f n_f c_f)]) ((hBw1.ext hEw2).all)) ?_))))))
 refine zc 1 [(16,(vP w1.heap.size 1))] (za (zj (some 17) (Instr.loadAt 42 (vP w1.heap.size 1)) (.slice a_t n_t c_t) (zk (hBw2.cell rfl)) ?_))
 refine za (zl (some 18) (zr3 n _ (((h_c.ext hEw1)).ext hEw2) (((h_f.ext hEw1)).ext hEw2) (((h_t.ext hEw1)).ext hEw2)) ?_)
 rintro _ w3 ⟨a1,a1y,a1z,rfl,hFz1_0,hFz1_1,hFz1_2,hFz1_3,hEw3⟩
 have hzw3:=hEw3.size
 have hla1:=hFz1_1.lt;have hla1y:=hFz1_2.lt;have hla1z:=hFz1_3.lt
 refine zc 1 [(5,(.func (.func 141) #[] #[(vP a1 0),(vP a1y 0),(vP a1z 0)]))] (zf (zb (ze (ze (zd (zc 1 [(19,(vP w.heap.size 1))] (za (zj (some 20) (Instr.loadAt 29 (vP w.heap.size 1)) (.slice a_c n_c c_c) (zk ((((hBw1.ext hEw2)).ext hEw3).cell rfl)) ?_))))))))
 refine zc 2 [(22,(vI 0)),(21,(vI n_c))] (zf (zb (zy (zY (X:=Nat) (fun v=> [(22,(vI v))]) [4,6,7,8,9,10,11,12,13,14,23,24,25,26,27,28,29,30,31,32,33,34,35,36,37,38,39,40,41,42,43,44,45,46,47,48,49,50,51,52,53,54,55,56,57,58,59,60,61,62,63,64,65,66,67,68,69,70,71,72,73,74,75,76,77,78,79,80,81,82,83,84,85,86,87,88,89,90,91,92,93,94,95,96,97,98,99,100,101,102,103,104,105,106,107,108,109,110,111,112,113,114,115,116,117,118,119,120,121,122] (fun v w4=>v≤hgt n+1∧okT n t v 0∧Ext w3 w4) (fun v=>hgt n+1-v) 0 (by kernel_rfl) ⟨by omega,zpw _ _,Ext.refl _⟩ ?_))))
 rintro v dw4 w4 ⟨hv,hok,hE1⟩
 have hz1:=hE1.size
 have hcn:=zbf n v
 have hns:=zbJ (n:=n) (l:=v) hp3 (by omega)
 have hgc:v<hgt n+1→gt c v=cnt n v:=fun hh=>by rw [hp0];exact zeN hh
 refine ze (zd (za (zK (some 23) (decide (((v:Nat):Int)<((n_c:Nat):Int))) (fun hc23=> ?_) (fun hc23=> ?_))))
 ·replace hc23:v<n_c:=by have:=zaf hc23;omega
  replace hgc:=hgc (by omega)
  refine zf (zb (ze (zC (zu (zb (ze (zy (ze (zd ?_)))))))))
  refine zc 1 [(24,(vI v))] ?_
  obtain ⟨b1,o1,rfl⟩:=h_c.addr (by omega)
  refine za (zj (some 25) (Instr.indexAt 29 (.slice (pA b1 o1) n_c c_c) (vI v)) (vP b1 (o1+v*1)) (zP (E:=3) (sz:=1) (by omega)) ?_)
  have hK1:=(((((((h_c.ext hEw1)).ext hEw2)).ext hEw3)).ext hE1)
  refine za (zj (some 26) (Instr.loadAt 3 (vP b1 (o1+v*1))) (vI (gt c v)) (zk (hK1.celln (by omega))) ?_)
  refine zc 2 [(7,(vI (gt c v))),(6,(vI v))] (zf (zb (ze (zd (zc 2 [(28,(vI 0)),(27,(vI (gt c v)))] (zf (zb (zy (zY (X:=Nat) (fun j=> [(28,(vI j))]) [4,8,9,10,11,12,13,14,29,30,31,32,33,34,35,36,37,38,39,40,41,42,43,44,45,46,47,48,49,50,51,52,53,54,55,56,57,58,59,60,61,62,63,64,65,66,67,68,69,70,71,72,73,74,75,76,77,78,79,80,81,82,83,84,85,86,87,88,89,90,91,92,93,94,95,96,97,98,99,100,101,102,103,104,105,106,107,108,109,110,111,112,113,114,115,116,117,118,119,120,121] (fun j w5=>j≤cnt n v∧okT n t v j∧Ext w4 w5) (fun j=>cnt n v-j) 0 (by kernel_rfl) ⟨by omega,hok,Ext.refl _⟩ ?_)))))))))
  rintro j dw5 w5 ⟨hj,hok2,hE2⟩
  have hz2:=hE2.size
  refine ze (zd (za (zK (some 29) (decide (((j:Nat):Int)<((gt c v:Nat):Int))) (fun hc29=> ?_) (fun hc29=> ?_))))
  ·replace hc29:j<gt c v:=by have:=zaf hc29;omega
   have hjc:j<cnt n v:=by omega
   have hpl:=zaC (n:=n) (l:=v) (j:=j) (by omega) hjc
   have hxl:=(t.getD (num n v+j) Nod.zero).hlv;have hxi:=(t.getD (num n v+j) Nod.zero).hix
   have hpp:=zdl n v j
   refine zf (zb (ze (zC (zu (zb (ze (zy (ze (zd ?_)))))))))
   refine zc 2 [(8,(vI j)),(30,(vI j))] (zf (zb (ze (zd ?_))))
   have hK2:=(((((((hBw1.ext hEw2)).ext hEw3)).ext hE1)).ext hE2)
   refine za (zj (some 31) (Instr.loadAt 128 (vP w.heap.size 0)) (vA [(vI n),(.slice (pA b1 o1) n_c c_c),(.slice a_f n_f c_f)]) (zw (vs:= [(vI n),(.slice (pA b1 o1) n_c c_c),(.slice a_f n_f c_f)]) (hK2.all)) ?_)
   refine zc 2 [(33,(vI j)),(32,(vI v))] ?_
   have hK3:=(((((((((h_f.ext hEw1)).ext hEw2)).ext hEw3)).ext hE1)).ext hE2)
   refine za (zl (some 34) (zem n v j _ (hK1.ext hE2) hK3 (by first | rfl | assumption) (by first | rfl | assumption) (by omega) (by omega) (by omega) (by omega)) ?_)
   rintro _ w6 ⟨rfl,hEw6⟩
   have hzw6:=hEw6.size
   refine zc 1 [(9,(vI (num n v+j)))] (zf (zb (ze (zd (zc 1 [(35,(vP w1.heap.size 1))] ?_)))))
   have hK4:=(((((((hBw2.ext hEw3)).ext hE1)).ext hE2)).ext hEw6)
   refine za (zj (some 36) (Instr.loadAt 42 (vP w1.heap.size 1)) (.slice a_t n_t c_t) (zk (hK4.cell rfl)) ?_)
   refine zc 1 [(37,(vI (num n v+j)))] ?_
   obtain ⟨b2,o2,rfl⟩:=h_t.addr (by omega) (by decide)
   refine za (zj (some 38) (Instr.indexAt 42 (.slice (pA b2 o2) n_t c_t) (vI (num n v+j))) (vP b2 (o2+(num n v+j)*274)) (zP (E:=74) (sz:=274) (by omega)) ?_)
   have hK5:=(((((((((((h_t.ext hEw1)).ext hEw2)).ext hEw3)).ext hE1)).ext hE2)).ext hEw6)
   refine za (zj (some 39) (Instr.loadAt 74 (vP b2 (o2+(num n v+j)*274))) (vA (zH (t.getD (num n v+j) Nod.zero))) (zw (vs:=zH (t.getD (num n v+j) Nod.zero)) (hK5.at Nod.zero (by omega)) (by rw [zV];kernel_rfl)) ?_)
   refine za (zo (some 10) (Instr.alloc 74 true (.tuple #[])) (vP w6.heap.size 0) (zH Nod.zero) 74 ?_)
   intro w7 hBw7 hEw7
   have hzw7:=hEw7.size;have hlw7:=hBw7.lt
   refine za (zv 74 w6.heap.size 0 74 (vA (zH (t.getD (num n v+j) Nod.zero))) (zH Nod.zero) (zH (t.getD (num n v+j) Nod.zero)) hBw7 (by rw [zV];kernel_rfl) (by first |(simp;done)|(simp;omega)) (zbZ _) ?_)
   intro w8 hBw8 hCw8
   have hzw8:=hCw8.size
   rw [zm _ _ (by simp)] at hBw8
   refine zf (zb (ze (ze (zd (zc 1 [(40,(vP w6.heap.size 0))] (za (zj (some 41) (Instr.loadAt 5 (vP w6.heap.size 0)) (vB ((t.getD (num n v+j) Nod.zero).lv)) (zk (hBw8.cell rfl)) ?_)))))))
   refine za (zt (some 42) .i64 (IntKind.i64.wrap (((t.getD (num n v+j) Nod.zero).lv:Nat):Int)) ((t.getD (num n v+j) Nod.zero).lv) (zA rfl (by omega) (by omega)) ?_)
   refine zc 1 [(43,(vI v))] (za (zK (some 44) (((((t.getD (num n v+j) Nod.zero).lv:Nat):Int) !=((v:Nat):Int))) (fun hc44=> ?_) (fun hc44=> ?_)))
   ·replace hc44:¬((t.getD (num n v+j) Nod.zero).lv=v):=by have:=zbE hc44;omega
    refine zc 14 [(58,vT),(57,undef),(56,undef),(55,undef),(54,undef),(53,undef),(52,vT),(51,vT),(50,undef),(49,undef),(48,undef),(47,undef),(46,undef),(45,vT)] (zf (zb (zC (ze (zd (zc 4 [(4,(.iface 198 (vA [(vI (num n v+j)),(vI 17)]))),(61,(.iface 198 (vA [(vI (num n v+j)),(vI 17)]))),(60,(vA [(vI (num n v+j)),(vI 17)])),(59,(vI (num n v+j)))] (zf (zb (zq ?_)))))))))
    refine zD (zG (zD (zD (zG (zG (zD (zD (zG (zD ?_)))))))))
    refine zr (.iface 198 (vA [(vI (num n v+j)),(vI 17)])) ?_
    have hX1:Ext w w8:=(Ext.own ((((((hEw1.trans hEw2).trans hEw3).trans hE1).trans hE2).trans hEw6).trans hEw7) hCw8 (by omega))
    exact ⟨_,by rw [zcl hok2 (by omega) hjc (ziX (fun hh=>by have h1:(t.getD (num n v+j) Nod.zero).lv=v:=hh.1;have h2:(t.getD (num n v+j) Nod.zero).ix=j:=hh.2.1;have h3:zbT n (t.getD (num n v+j) Nod.zero)=0:=hh.2.2;omega)) (by decide),zb7 (by decide)],hX1⟩
   ·replace hc44:(t.getD (num n v+j) Nod.zero).lv=v:=by have:=zbG hc44;omega
    refine zc 2 [(46,(vP w6.heap.size 1)),(45,vF)] (za (zj (some 47) (Instr.loadAt 53 (vP w6.heap.size 1)) (vW ((t.getD (num n v+j) Nod.zero).ix)) (zk (hBw8.cell rfl)) ?_))
    refine za (zt (some 48) .i64 (IntKind.i64.wrap (((t.getD (num n v+j) Nod.zero).ix:Nat):Int)) ((t.getD (num n v+j) Nod.zero).ix) (zA rfl (by omega) (by omega)) ?_)
    refine zc 1 [(49,(vI j))] (za (zK (some 50) (((((t.getD (num n v+j) Nod.zero).ix:Nat):Int) !=((j:Nat):Int))) (fun hc50=> ?_) (fun hc50=> ?_)))
    ·replace hc50:¬((t.getD (num n v+j) Nod.zero).ix=j):=by have:=zbE hc50;omega
     refine zc 8 [(58,vT),(57,undef),(56,undef),(55,undef),(54,undef),(53,undef),(52,vT),(51,vT)] (zf (zb (zC (ze (zd (zc 4 [(4,(.iface 198 (vA [(vI (num n v+j)),(vI 17)]))),(61,(.iface 198 (vA [(vI (num n v+j)),(vI 17)]))),(60,(vA [(vI (num n v+j)),(vI 17)])),(59,(vI (num n v+j)))] (zf (zb (zq ?_)))))))))
     refine zD (zG (zD (zD (zG (zG (zD (zD (zG (zD ?_)))))))))
     refine zr (.iface 198 (vA [(vI (num n v+j)),(vI 17)])) ?_
     have hX2:Ext w w8:=(Ext.own ((((((hEw1.trans hEw2).trans hEw3).trans hE1).trans hE2).trans hEw6).trans hEw7) hCw8 (by omega))
     exact ⟨_,by rw [zcl hok2 (by omega) hjc (ziX (fun hh=>by have h1:(t.getD (num n v+j) Nod.zero).lv=v:=hh.1;have h2:(t.getD (num n v+j) Nod.zero).ix=j:=hh.2.1;have h3:zbT n (t.getD (num n v+j) Nod.zero)=0:=hh.2.2;omega)) (by decide),zb7 (by decide)],hX2⟩
    ·replace hc50:(t.getD (num n v+j) Nod.zero).ix=j:=by have:=zbG hc50;omega
     refine zc 3 [(53,(vP w1.heap.size 0)),(52,vF),(51,vF)] (za (zj (some 54) (Instr.loadAt 3 (vP w1.heap.size 0)) (vI n) (zk ((((hK4.ext hEw7)).chg hCw8 (fun hs=>by have h:_=_:=hs;omega)).cell rfl)) ?_))
     refine za (zj (some 55) (Instr.loadAt 74 (vP w6.heap.size 0)) (vA (zH (t.getD (num n v+j) Nod.zero))) (zw (vs:=zH (t.getD (num n v+j) Nod.zero)) (hBw8.all) (by rw [zV];kernel_rfl)) ?_)
     refine za (zl (some 56) (zlD n (t.getD (num n v+j) Nod.zero) _ (by omega) (by omega)) ?_)
     rintro _ w9 ⟨rfl,hEw9⟩
     have hzw9:=hEw9.size
     refine za (zK (some 57) ((((zbT n (t.getD (num n v+j) Nod.zero):Nat):Int) !=((0:Nat):Int))) (fun hc57=> ?_) (fun hc57=> ?_))
     ·replace hc57:¬(zbT n (t.getD (num n v+j) Nod.zero)=0):=by have:=zbE hc57;omega
      refine zc 1 [(58,vT)] (zf (zb (zC (ze (zd (zc 4 [(4,(.iface 198 (vA [(vI (num n v+j)),(vI 17)]))),(61,(.iface 198 (vA [(vI (num n v+j)),(vI 17)]))),(60,(vA [(vI (num n v+j)),(vI 17)])),(59,(vI (num n v+j)))] (zf (zb (zq ?_)))))))))
      refine zD (zG (zD (zD (zG (zG (zD (zD (zG (zD ?_)))))))))
      refine zr (.iface 198 (vA [(vI (num n v+j)),(vI 17)])) ?_
      have hX3:Ext w w9:=((Ext.own ((((((hEw1.trans hEw2).trans hEw3).trans hE1).trans hE2).trans hEw6).trans hEw7) hCw8 (by omega)).trans hEw9)
      exact ⟨_,by rw [zcl hok2 (by omega) hjc (ziX (fun hh=>by have h1:(t.getD (num n v+j) Nod.zero).lv=v:=hh.1;have h2:(t.getD (num n v+j) Nod.zero).ix=j:=hh.2.1;have h3:zbT n (t.getD (num n v+j) Nod.zero)=0:=hh.2.2;omega)) (by decide),zb7 (by decide)],hX3⟩
     ·replace hc57:zbT n (t.getD (num n v+j) Nod.zero)=0:=by have:=zbG hc57;omega
      refine zc 1 [(58,vF)] (zf (zb (zn (zu (zb (ze (ze (zd (zc 1 [(62,(vI v))] ?_)))))))))
      have hnm:¬zbV n (ndA n t v j) v j:=zkJ (show (t.getD (num n v+j) Nod.zero).lv=v by omega) (show (t.getD (num n v+j) Nod.zero).ix=j by omega) (show zbT n (t.getD (num n v+j) Nod.zero)=0 by omega)
      refine za (zK (some 63) ((((v:Nat):Int)==((0:Nat):Int))) (fun hc63=> ?_) (fun hc63=> ?_))
      ·replace hc63:v=0:=by have:=zbp hc63;omega
       have hdone:zcx n t v j=0:=by subst hc63;exact ztl hnm
       refine zf (zb (zC (zW (zx (zL (zb (zd (za (zt (some 121) .i64 (IntKind.i64.wrap (((j:Nat):Int)+((1:Nat):Int))) (j+1) (zA (by omega) (by omega) (by omega)) ?_)))))))))
       refine zc 1 [(28,(vI (j+1)))] (zf (zF ?_))
       have hX4:Ext w4 w9:=((Ext.own ((hE2.trans hEw6).trans hEw7) hCw8 (by omega)).trans hEw9)
       refine zR (j+1) ?_ ?_
       ·exact ⟨by omega,zjP hok2 hdone,hX4⟩
       ·first | omega |(dsimp only;omega)
      ·replace hc63:¬(v=0):=by have:=zbo hc63;omega
       have hup:=zcn (n:=n) (l:=v) (by omega)
       have hcm:=zbf n (v-1)
       have hgm:gt c (v-1)=cnt n (v-1):=by rw [hp0];exact zeN (by omega)
       refine zf (zb (zn (zu (zb (ze (zd (zc 1 [(64,(vI j))] (za (zt (some 65) .i64 (IntKind.i64.wrap (((4:Nat):Int)*((j:Nat):Int))) (4*j) (zA (by omega) (by omega) (by omega)) ?_)))))))))
       refine zc 1 [(11,(vI (4*j)))] (zf (zb (zy (zY (X:=Nat) (fun x=> [(11,(vI (4*j+x)))]) [4,12,13,14,66,67,68,69,70,71,72,73,74,75,76,77,78,79,80,81,82,83,84,85,86,87,88,89,90,91,92,93,94,95,96,97,98,99,100,101,102,103,104,105,106,107,108,109,110,111,112,113,114,115,116,117,118,119,120] (fun x w10=>x≤prt n v j∧zbD (zds n t v j) x=0∧Ext w9 w10) (fun x=>4-x) 0 (by kernel_rfl) ⟨Nat.zero_le _,rfl,Ext.refl _⟩ ?_))))
       rintro x dw10 w10 ⟨hxp,hen,hE3⟩
       have hz3:=hE3.size
       have hlw:=fun h4=>za7 (n:=n) (l:=v) (j:=j) (w:=x) h4
       refine ze (ze (zd (zc 2 [(67,(vI j)),(66,(vI (4*j+x)))] (za (zt (some 68) .i64 (IntKind.i64.wrap (((j:Nat):Int)+((1:Nat):Int))) (j+1) (zA (by omega) (by omega) (by omega)) ?_)))))
       refine za (zt (some 69) .i64 (IntKind.i64.wrap (((4:Nat):Int)*((j+1:Nat):Int))) (4*(j+1)) (zA (by omega) (by omega) (by omega)) ?_)
       refine zc 1 [(70,(vP w.heap.size 1))] ?_
       have hK6:=(((((((((hK2.ext hEw6)).ext hEw7)).chg hCw8 (fun hs=>by have h:_=_:=hs;omega))).ext hEw9)).ext hE3)
       refine za (zj (some 71) (Instr.loadAt 29 (vP w.heap.size 1)) (.slice (pA b1 o1) n_c c_c) (zk (hK6.cell rfl)) ?_)
       refine zc 1 [(72,(vI v))] (za (zt (some 73) .i64 (IntKind.i64.wrap (((v:Nat):Int)-((1:Nat):Int))) (v-1) (zA (by omega) (by omega) (by omega)) ?_))
       refine za (zj (some 74) (Instr.indexAt 29 (.slice (pA b1 o1) n_c c_c) (vI (v-1))) (vP b1 (o1+(v-1)*1)) (zP (E:=3) (sz:=1) (by omega)) ?_)
       have hK7:=(((((((((((hK1.ext hE2)).ext hEw6)).ext hEw7)).chg hCw8 (fun k h1 h2 hs=>by have h:k=_:=hs;omega))).ext hEw9)).ext hE3)
       refine za (zj (some 75) (Instr.loadAt 3 (vP b1 (o1+(v-1)*1))) (vI (gt c (v-1))) (zk (hK7.celln (by omega))) ?_)
       refine za (zh8 (some 76) (.int .i64 (if ((gt c (v-1):Nat):Int)<((4*(j+1):Nat):Int) then ((gt c (v-1):Nat):Int) else ((4*(j+1):Nat):Int))) (vI (min (4*(j+1)) (gt c (v-1)))) (congrArg _ (zjG _ _)) ?_)
       refine za (zK (some 77) (decide (((4*j+x:Nat):Int)<((min (4*(j+1)) (gt c (v-1)):Nat):Int))) (fun hc77=> ?_) (fun hc77=> ?_))
       ·replace hc77:4*j+x<min (4*(j+1)) (gt c (v-1)):=by have:=zaf hc77;omega
        have hx4:x<4:=by omega
        have hxw:x<prt n v j:=(hlw hx4).2 (by omega)
        have hcl:4*j+x<cnt n (v-1):=by omega
        have hplc:=zaC (n:=n) (l:=v-1) (j:=4*j+x) (by omega) hcl
        have hnsm:=zbJ (n:=n) (l:=v-1) hp3 (by omega)
        have hem:=zkG (n:=n) (ts:=t) (zpW hok2 (by omega)) (l:=v-1) (j:=4*j+x) hcl
        have hchk:zay (t.getD (num n (v-1)+(4*j+x)) Nod.zero)=0:=(zcQ (zd7 (zoV hok2 hcl (.inl (by omega)))).2.2).1
        refine zf (zb (zC (zu (zb (ze (zy (ze (zd (zc 1 [(80,(vI (4*j+x)))] ?_)))))))))
        refine za (zt (some 81) .i64 (((4*j+x:Nat):Int).tmod ((4:Nat):Int)) x ((zcF _ _).trans (by omega)) ?_)
        refine zc 1 [(82,(vP w6.heap.size 142))] (za (zj (some 83) (Instr.indexAt 72 (vP w6.heap.size 142) (vI x)) (vP w6.heap.size (142+x*33)) (zag (E:=71) (sz:=33) (m:=4) (by omega)) ?_))
        refine za (zj (some 84) (Instr.loadAt 71 (vP w6.heap.size (142+x*33))) (vA (zad ((t.getD (num n v+j) Nod.zero).es.get x))) (zw (vs:=zad ((t.getD (num n v+j) Nod.zero).es.get x)) ((((hBw8.ext hEw9)).ext hE3).at (142+x*33) (zad ((t.getD (num n v+j) Nod.zero).es.get x)) (nod_e (by omega))) (by rw [zaF];kernel_rfl)) ?_)
        refine za (zo (some 12) (Instr.alloc 71 true (.tuple #[])) (vP w10.heap.size 0) (zad Ent.zero) 71 ?_)
        intro w11 hBw11 hEw11
        have hzw11:=hEw11.size;have hlw11:=hBw11.lt
        refine za (zv 71 w10.heap.size 0 71 (vA (zad ((t.getD (num n v+j) Nod.zero).es.get x))) (zad Ent.zero) (zad ((t.getD (num n v+j) Nod.zero).es.get x)) hBw11 (by rw [zaF];kernel_rfl) (by first |(simp;done)|(simp;omega)) (zcy _) ?_)
        intro w12 hBw12 hCw12
        have hzw12:=hCw12.size
        rw [zm _ _ (by simp)] at hBw12
        refine zf (zb (ze (zT (Ext w12.drew) 16 [(87,8,0),(88,77371252455336267181195264,1),(89,4,0),(90,64,0),(91,618970019642690137449562112,8),(92,2048,0),(93,4023305127677485893422153728,52),(94,5106502662052193633958887424,66),(95,9903520314283042199192993792,128),(96,19807040628566084398385987584,320),(86,39614081257132168796771975168,512),(97,38685626227668133590597632,1024),(98,38685626227668133590597632,1024),(14,0,0),(0,79228162514264337593543958528,12287),(15,158456325028528675187087900672,32767)] (fun hT334=> ?_))))
        have hEw13:Ext w12 w12.drew:=Ext.drew w12
        generalize w12.drew=w13 at hEw13⊢
        have hzw13:=hEw13.size
        refine zh hT334 [(0,86,(vP w1.heap.size 1))] 1 1 ?_
        have hK8:=(((((((((((((hK4.ext hEw7)).chg hCw8 (fun hs=>by have h:_=_:=hs;omega))).ext hEw9)).ext hE3)).ext hEw11)).chg hCw12 (fun hs=>by have h:_=_:=hs;omega))).ext hEw13)
        refine zg hT334 1 3 (some 87) (.slice (pA b2 o2) n_t c_t) (zi (Instr.loadAt 42 (vP w1.heap.size 1)) (fun w' hC=>zk ((hK8.ext hC).cell rfl))) ?_
        have hK9:=(((((hK6.ext hEw11)).chg hCw12 (fun hs=>by have h:_=_:=hs;omega))).ext hEw13)
        refine zg hT334 2 7 (some 88) (vA [(vI n),(.slice (pA b1 o1) n_c c_c),(.slice a_f n_f c_f)]) (zi (Instr.loadAt 128 (vP w.heap.size 0)) (fun w' hC=>zw (vs:= [(vI n),(.slice (pA b1 o1) n_c c_c),(.slice a_f n_f c_f)]) ((hK9.ext hC).all))) (zh hT334 [(3,89,(vI v))] 1 15 (zg hT334 4 31 (some 90) (vI (v-1)) (zaa .i64 (IntKind.i64.wrap (((v:Nat):Int)-((1:Nat):Int))) (zA (by omega) (by omega) (by omega))) (zh hT334 [(5,91,(vI (4*j+x)))] 1 63 (za9 6 13 127 8255 ?_ ?_))))
        ·have hK10:=(((((hK7.ext hEw11)).chg hCw12 (fun k h1 h2 hs=>by have h:k=_:=hs;omega))).ext hEw13)
         have hK11:=(((((((((((((((hK3.ext hEw6)).ext hEw7)).chg hCw8 (fun k h1 h2 hs=>by have h:k=_:=hs;omega))).ext hEw9)).ext hE3)).ext hEw11)).chg hCw12 (fun k h1 h2 hs=>by have h:k=_:=hs;omega))).ext hEw13)
         refine zl (some 92) (zem n (v-1) (4*j+x) _ hK10 hK11 (by first | rfl | assumption) (by first | rfl | assumption) (by omega) (by omega) (by omega) (by omega)) ?_
         rintro _ w14 ⟨rfl,hEw14⟩
         have hzw14:=hEw14.size
         refine ⟨.inr hEw14, ?_⟩
         refine zg (hw:=hEw14) hT334 7 255 (some 93) (vP b2 (o2+(num n (v-1)+(4*j+x))*274)) (zi (Instr.indexAt 42 (.slice (pA b2 o2) n_t c_t) (vI (num n (v-1)+(4*j+x)))) (fun w' hC=>zP (E:=74) (sz:=274) (by omega))) ?_
         have hK12:=(((((((((((((hK5.ext hEw7)).chg hCw8 (fun k h1 h2 hs=>by have h:k=_:=hs;omega))).ext hEw9)).ext hE3)).ext hEw11)).chg hCw12 (fun k h1 h2 hs=>by have h:k=_:=hs;omega))).ext hEw13)
         refine zg (hw:=hEw14) hT334 8 511 (some 94) (vA (zH (t.getD (num n (v-1)+(4*j+x)) Nod.zero))) (zi (Instr.loadAt 74 (vP b2 (o2+(num n (v-1)+(4*j+x))*274))) (fun w' hC=>zw (vs:=zH (t.getD (num n (v-1)+(4*j+x)) Nod.zero)) ((hK12.ext hC).at Nod.zero (by omega)) (by rw [zV];kernel_rfl))) (za9 9 13 1023 8703 ?_ ?_)
         ·have hK13:=(((((((((((((((((((((((((((hg0.ext hEw1)).ext hEw2)).ext hEw3)).ext hE1)).ext hE2)).ext hEw6)).ext hEw7)).chg hCw8 (fun hs=>by have h:_=_:=hs;omega))).ext hEw9)).ext hE3)).ext hEw11)).chg hCw12 (fun hs=>by have h:_=_:=hs;omega))).ext hEw13)).ext hEw14)
          have hK14:=(((((((((((((((((((((((((((hg1.ext hEw1)).ext hEw2)).ext hEw3)).ext hE1)).ext hE2)).ext hEw6)).ext hEw7)).chg hCw8 (fun hs=>by have h:_=_:=hs;omega))).ext hEw9)).ext hE3)).ext hEw11)).chg hCw12 (fun hs=>by have h:_=_:=hs;omega))).ext hEw13)).ext hEw14)
          have hK15:=(((((((((((((((((((((((((((hg2.ext hEw1)).ext hEw2)).ext hEw3)).ext hE1)).ext hE2)).ext hEw6)).ext hEw7)).chg hCw8 (fun hs=>by have h:_=_:=hs;omega))).ext hEw9)).ext hE3)).ext hEw11)).chg hCw12 (fun hs=>by have h:_=_:=hs;omega))).ext hEw13)).ext hEw14)
          refine zl (some 95) (zeU (t.getD (num n (v-1)+(4*j+x)) Nod.zero) _ (by assumption) hK13 hK14 hK15) ?_
          rintro _ w15 ⟨rfl,hEw15⟩
          have hzw15:=hEw15.size
          have hX5:Ext w13 w15:=(hEw14.trans hEw15)
          refine ⟨.inr hX5, ?_⟩
          refine zh (hw:=hX5) hT334 [(10,85,(.tuple #[(vA (zO (zU (zS (t.getD (num n (v-1)+(4*j+x)) Nod.zero))))),(vI 0)])),(11,96,(vA (zO (zU (zS (t.getD (num n (v-1)+(4*j+x)) Nod.zero)))))),(12,97,(vI 0))] 3 8191 (zz 13 16383 (zo (some 13) (Instr.alloc 59 true (.tuple #[])) (vP w15.heap.size 0) (zO Dig.zero) 59 ?_))
          intro w16 hBw16 hEw16
          have hzw16:=hEw16.size;have hlw16:=hBw16.lt
          have hX6:Ext w13 w16:=((hEw14.trans hEw15).trans hEw16)
          refine ⟨.inr hX6, ?_⟩
          refine zz 14 32767 (zv 59 w15.heap.size 0 59 (vA (zO (zU (zS (t.getD (num n (v-1)+(4*j+x)) Nod.zero))))) (zO Dig.zero) (zO (zU (zS (t.getD (num n (v-1)+(4*j+x)) Nod.zero)))) hBw16 (by rw [zal];kernel_rfl) (by first |(simp;done)|(simp;omega)) (zbH _) ?_)
          intro w17 hBw17 hCw17
          have hzw17:=hCw17.size
          rw [zm _ _ (by simp)] at hBw17
          have hX7:Ext w13 w17:=(Ext.own ((hEw14.trans hEw15).trans hEw16) hCw17 (by omega))
          refine ⟨.inr hX7, ?_⟩
          refine zh (hw:=hX7) hT334 [(15,14,(vI 0))] 1 65535 (zJ (zb (ze (zT (Ext w17.drew) 20 [(99,4096,0),(100,316912650057057350374175801344,1),(101,633825300114114700748351602688,2),(102,32,0),(103,64,0),(104,5070602400912917605986812821504,16),(105,2048,0),(106,32958915605933964438914283339776,104),(107,41832469807531570249391205777408,132),(108,81129638414606681695789005144064,384),(109,162259276829213363391578010292224,512),(110,486777830487640090174734030864384,1536),(111,811296384146066816957890051440640,2560),(112,1460333491462920270524202092593152,4608),(113,2596148429267413814265248164614144,8192),(114,7788445287802241442795744493830144,24576),(115,2596148429267413814265248164618240,8192),(116,33749929580476379585448226139930624,106496),(117,44296782574375248205900796808658944,139776),(118,83239009013386455419879519277809664,262656)] (fun hT381=> ?_)))))
          have hEw18:Ext w17 w17.drew:=Ext.drew w17
          generalize w17.drew=w18 at hEw18⊢
          have hzw18:=hEw18.size
          refine zh hT381 [(0,98,(vP w10.heap.size 0))] 1 1 ?_
          have hK16:=(((((hBw12.ext hEw13)).ext hX7)).ext hEw18)
          refine zg hT381 1 3 (some 99) (vB (((t.getD (num n v+j) Nod.zero).es.get x).st)) (zi (Instr.loadAt 5 (vP w10.heap.size 0)) (fun w' hC=>zk ((hK16.ext hC).cell rfl))) ?_
          rcases Classical.em (((t.getD (num n v+j) Nod.zero).es.get x).st=0) with hf100 | hf100
          ·refine zg hT381 2 7 (some 100) vT (zaD (((((t.getD (num n v+j) Nod.zero).es.get x).st:Nat):Int)==((0:Nat):Int)) (zas (by omega))) (zh hT381 [(3,101,(.func (.func 141) #[] #[(vP a1 0),(vP a1y 0),(vP a1z 0)])),(4,102,(vI v))] 2 31 (zg hT381 5 63 (some 103) (vI (v-1)) (zaa .i64 (IntKind.i64.wrap (((v:Nat):Int)-((1:Nat):Int))) (zA (by omega) (by omega) (by omega))) (zh hT381 [(6,104,(vI (4*j+x)))] 1 127 ?_)))
           rcases (show emP n t (v-1) (4*j+x)=true∨emP n t (v-1) (4*j+x)=false by cases emP n t (v-1) (4*j+x)<;>simp) with he | he
           ·have hK17:=(((((((((((((((((((((((hFz1_1.ext hE1)).ext hE2)).ext hEw6)).ext hEw7)).chg hCw8 (fun hs=>by have h:_=_:=hs;omega))).ext hEw9)).ext hE3)).ext hEw11)).chg hCw12 (fun hs=>by have h:_=_:=hs;omega))).ext hEw13)).ext hX7)).ext hEw18)
            have hK18:=(((((((((((((((((((((((hFz1_2.ext hE1)).ext hE2)).ext hEw6)).ext hEw7)).chg hCw8 (fun hs=>by have h:_=_:=hs;omega))).ext hEw9)).ext hE3)).ext hEw11)).chg hCw12 (fun hs=>by have h:_=_:=hs;omega))).ext hEw13)).ext hX7)).ext hEw18)
            have hK19:=(((((((((((((((((((((((hFz1_3.ext hE1)).ext hE2)).ext hEw6)).ext hEw7)).chg hCw8 (fun hs=>by have h:_=_:=hs;omega))).ext hEw9)).ext hE3)).ext hEw11)).chg hCw12 (fun hs=>by have h:_=_:=hs;omega))).ext hEw13)).ext hX7)).ext hEw18)
            refine zz 7 255 (zl (some 105) (zd6 (v-1) (4*j+x) a1 a1y n a1z _ hK17 (((hK12.ext hX7)).ext hEw18) hK18 (((hK10.ext hX7)).ext hEw18) hK19 (by first | rfl | assumption) (by omega) (by omega) (by omega) (by omega) (by omega)) ?_)
            rintro _ w19 ⟨rfl,hEw19⟩
            have hzw19:=hEw19.size
            rw [show emP n t (v-1) (4*j+x)=true from he]
            refine ⟨.inr hEw19, ?_⟩
            refine zh (hw:=hEw19) hT381 [(8,106,vF),(9,107,vF),(10,108,(vP w10.heap.size 0))] 3 2047 (zg (hw:=hEw19) hT381 11 4095 (some 109) (vB (((t.getD (num n v+j) Nod.zero).es.get x).st)) (zi (Instr.loadAt 5 (vP w10.heap.size 0)) (fun w' hC=>zk ((hK16.ext hC).cell rfl))) (zg (hw:=hEw19) hT381 12 8191 (some 110) vF (zaD (((((t.getD (num n v+j) Nod.zero).es.get x).st:Nat):Int) !=((0:Nat):Int)) (zaA (by omega))) (zh (hw:=hEw19) hT381 [(13,111,vF),(14,112,undef),(15,113,undef),(16,114,undef),(17,115,undef),(18,116,vF),(19,117,vF)] 7 1048575 (zJ (zb (zn (zu (zp (zb ?_)))))))))
            refine zd (zc 1 [(78,(vI (4*j+x)))] (za (zt (some 79) .i64 (IntKind.i64.wrap (((4*j+x:Nat):Int)+((1:Nat):Int))) (4*j+x+1) (zA (by omega) (by omega) (by omega)) ?_)))
            refine zc 1 [(11,(vI (4*j+x+1)))] (zf (zF ?_))
            have hX8:Ext w9 w19:=(((((Ext.own (hE3.trans hEw11) hCw12 (by omega)).trans hEw13).trans hX7).trans hEw18).trans hEw19)
            refine zR (x+1) ?_ ?_
            ·exact ⟨by omega,zce hen (zfi (show (zaE (zbq n t) (v-1) (4*j+x)=true↔((t.getD (num n v+j) Nod.zero).es.get x).st=0) by rw [←hem];first |(simp only [he,iff_true,true_iff];omega)|(simp only [he,Bool.false_eq_true,iff_false,false_iff];omega)) (show ((t.getD (num n v+j) Nod.zero).es.get x).st=0∨_ from by first |(left;omega)|(right;exact beq_iff_eq.1 hf115))),hX8⟩
            ·first | omega |(dsimp only;omega)
           ·have hK20:=(((((((((((((((((((((((hFz1_1.ext hE1)).ext hE2)).ext hEw6)).ext hEw7)).chg hCw8 (fun hs=>by have h:_=_:=hs;omega))).ext hEw9)).ext hE3)).ext hEw11)).chg hCw12 (fun hs=>by have h:_=_:=hs;omega))).ext hEw13)).ext hX7)).ext hEw18)
            have hK21:=(((((((((((((((((((((((hFz1_2.ext hE1)).ext hE2)).ext hEw6)).ext hEw7)).chg hCw8 (fun hs=>by have h:_=_:=hs;omega))).ext hEw9)).ext hE3)).ext hEw11)).chg hCw12 (fun hs=>by have h:_=_:=hs;omega))).ext hEw13)).ext hX7)).ext hEw18)
            have hK22:=(((((((((((((((((((((((hFz1_3.ext hE1)).ext hE2)).ext hEw6)).ext hEw7)).chg hCw8 (fun hs=>by have h:_=_:=hs;omega))).ext hEw9)).ext hE3)).ext hEw11)).chg hCw12 (fun hs=>by have h:_=_:=hs;omega))).ext hEw13)).ext hX7)).ext hEw18)
            refine zz 7 255 (zl (some 105) (zd6 (v-1) (4*j+x) a1 a1y n a1z _ hK20 (((hK12.ext hX7)).ext hEw18) hK21 (((hK10.ext hX7)).ext hEw18) hK22 (by first | rfl | assumption) (by omega) (by omega) (by omega) (by omega) (by omega)) ?_)
            rintro _ w20 ⟨rfl,hEw20⟩
            have hzw20:=hEw20.size
            rw [show emP n t (v-1) (4*j+x)=false from he]
            refine ⟨.inr hEw20, ?_⟩
            refine zh (hw:=hEw20) hT381 [(8,106,vT),(9,107,vT),(10,108,undef),(11,109,undef),(12,110,undef),(13,111,undef),(14,112,undef),(15,113,undef),(16,114,undef),(17,115,undef),(18,116,undef),(19,117,vT)] 12 1048575 (zJ (zb (zC (ze (zd (zc 4 [(4,(.iface 198 (vA [(vI (num n v+j)),(vI 9)]))),(120,(.iface 198 (vA [(vI (num n v+j)),(vI 9)]))),(119,(vA [(vI (num n v+j)),(vI 9)])),(118,(vI (num n v+j)))] (zf (zb (zq ?_)))))))))
            refine zG (zD (zD (zG (zG (zD (zD (zG (zG (zD ?_)))))))))
            refine zD (zG (zD (zr (.iface 198 (vA [(vI (num n v+j)),(vI 9)])) ?_)))
            have hX9:Ext w w20:=(((((Ext.own ((((Ext.own ((((((hEw1.trans hEw2).trans hEw3).trans hE1).trans hE2).trans hEw6).trans hEw7) hCw8 (by omega)).trans hEw9).trans hE3).trans hEw11) hCw12 (by omega)).trans hEw13).trans hX7).trans hEw18).trans hEw20)
            exact ⟨_,by rw [zcl hok2 (by omega) hjc (zde hnm (by omega) hen hxw (zel (fun hh=>by have h1:(zaE (zbq n t) (v-1) (4*j+x)=true↔((t.getD (num n v+j) Nod.zero).es.get x).st=0):=hh;rw [←hem,he] at h1;simp only [Bool.false_eq_true,false_iff,true_iff] at h1;exact absurd hf100 (by omega)))) (by decide),zb7 (by decide)],hX9⟩
          ·refine zg hT381 2 7 (some 100) vF (zaD (((((t.getD (num n v+j) Nod.zero).es.get x).st:Nat):Int)==((0:Nat):Int)) (zcc (by omega))) (zh hT381 [(3,101,(.func (.func 141) #[] #[(vP a1 0),(vP a1y 0),(vP a1z 0)])),(4,102,(vI v))] 2 31 (zg hT381 5 63 (some 103) (vI (v-1)) (zaa .i64 (IntKind.i64.wrap (((v:Nat):Int)-((1:Nat):Int))) (zA (by omega) (by omega) (by omega))) (zh hT381 [(6,104,(vI (4*j+x)))] 1 127 ?_)))
           rcases (show emP n t (v-1) (4*j+x)=true∨emP n t (v-1) (4*j+x)=false by cases emP n t (v-1) (4*j+x)<;>simp) with he | he
           ·have hK23:=(((((((((((((((((((((((hFz1_1.ext hE1)).ext hE2)).ext hEw6)).ext hEw7)).chg hCw8 (fun hs=>by have h:_=_:=hs;omega))).ext hEw9)).ext hE3)).ext hEw11)).chg hCw12 (fun hs=>by have h:_=_:=hs;omega))).ext hEw13)).ext hX7)).ext hEw18)
            have hK24:=(((((((((((((((((((((((hFz1_2.ext hE1)).ext hE2)).ext hEw6)).ext hEw7)).chg hCw8 (fun hs=>by have h:_=_:=hs;omega))).ext hEw9)).ext hE3)).ext hEw11)).chg hCw12 (fun hs=>by have h:_=_:=hs;omega))).ext hEw13)).ext hX7)).ext hEw18)
            have hK25:=(((((((((((((((((((((((hFz1_3.ext hE1)).ext hE2)).ext hEw6)).ext hEw7)).chg hCw8 (fun hs=>by have h:_=_:=hs;omega))).ext hEw9)).ext hE3)).ext hEw11)).chg hCw12 (fun hs=>by have h:_=_:=hs;omega))).ext hEw13)).ext hX7)).ext hEw18)
            refine zz 7 255 (zl (some 105) (zd6 (v-1) (4*j+x) a1 a1y n a1z _ hK23 (((hK12.ext hX7)).ext hEw18) hK24 (((hK10.ext hX7)).ext hEw18) hK25 (by first | rfl | assumption) (by omega) (by omega) (by omega) (by omega) (by omega)) ?_)
            rintro _ w21 ⟨rfl,hEw21⟩
            have hzw21:=hEw21.size
            rw [show emP n t (v-1) (4*j+x)=true from he]
            refine ⟨.inr hEw21, ?_⟩
            refine zh (hw:=hEw21) hT381 [(8,106,vT),(9,107,vT),(10,108,undef),(11,109,undef),(12,110,undef),(13,111,undef),(14,112,undef),(15,113,undef),(16,114,undef),(17,115,undef),(18,116,undef),(19,117,vT)] 12 1048575 (zJ (zb (zC (ze (zd (zc 4 [(4,(.iface 198 (vA [(vI (num n v+j)),(vI 9)]))),(120,(.iface 198 (vA [(vI (num n v+j)),(vI 9)]))),(119,(vA [(vI (num n v+j)),(vI 9)])),(118,(vI (num n v+j)))] (zf (zb (zq ?_)))))))))
            refine zG (zD (zD (zG (zG (zD (zD (zG (zG (zD ?_)))))))))
            refine zD (zG (zD (zr (.iface 198 (vA [(vI (num n v+j)),(vI 9)])) ?_)))
            have hX10:Ext w w21:=(((((Ext.own ((((Ext.own ((((((hEw1.trans hEw2).trans hEw3).trans hE1).trans hE2).trans hEw6).trans hEw7) hCw8 (by omega)).trans hEw9).trans hE3).trans hEw11) hCw12 (by omega)).trans hEw13).trans hX7).trans hEw18).trans hEw21)
            exact ⟨_,by rw [zcl hok2 (by omega) hjc (zde hnm (by omega) hen hxw (zel (fun hh=>by have h1:(zaE (zbq n t) (v-1) (4*j+x)=true↔((t.getD (num n v+j) Nod.zero).es.get x).st=0):=hh;rw [←hem,he] at h1;simp only [Bool.false_eq_true,false_iff,true_iff] at h1;exact absurd hf100 (by omega)))) (by decide),zb7 (by decide)],hX10⟩
           ·have hK26:=(((((((((((((((((((((((hFz1_1.ext hE1)).ext hE2)).ext hEw6)).ext hEw7)).chg hCw8 (fun hs=>by have h:_=_:=hs;omega))).ext hEw9)).ext hE3)).ext hEw11)).chg hCw12 (fun hs=>by have h:_=_:=hs;omega))).ext hEw13)).ext hX7)).ext hEw18)
            have hK27:=(((((((((((((((((((((((hFz1_2.ext hE1)).ext hE2)).ext hEw6)).ext hEw7)).chg hCw8 (fun hs=>by have h:_=_:=hs;omega))).ext hEw9)).ext hE3)).ext hEw11)).chg hCw12 (fun hs=>by have h:_=_:=hs;omega))).ext hEw13)).ext hX7)).ext hEw18)
            have hK28:=(((((((((((((((((((((((hFz1_3.ext hE1)).ext hE2)).ext hEw6)).ext hEw7)).chg hCw8 (fun hs=>by have h:_=_:=hs;omega))).ext hEw9)).ext hE3)).ext hEw11)).chg hCw12 (fun hs=>by have h:_=_:=hs;omega))).ext hEw13)).ext hX7)).ext hEw18)
            refine zz 7 255 (zl (some 105) (zd6 (v-1) (4*j+x) a1 a1y n a1z _ hK26 (((hK12.ext hX7)).ext hEw18) hK27 (((hK10.ext hX7)).ext hEw18) hK28 (by first | rfl | assumption) (by omega) (by omega) (by omega) (by omega) (by omega)) ?_)
            rintro _ w22 ⟨rfl,hEw22⟩
            have hzw22:=hEw22.size
            rw [show emP n t (v-1) (4*j+x)=false from he]
            refine ⟨.inr hEw22, ?_⟩
            refine zh (hw:=hEw22) hT381 [(8,106,vF),(9,107,vF),(10,108,(vP w10.heap.size 0))] 3 2047 (zg (hw:=hEw22) hT381 11 4095 (some 109) (vB (((t.getD (num n v+j) Nod.zero).es.get x).st)) (zi (Instr.loadAt 5 (vP w10.heap.size 0)) (fun w' hC=>zk ((hK16.ext hC).cell rfl))) (zg (hw:=hEw22) hT381 12 8191 (some 110) vT (zaD (((((t.getD (num n v+j) Nod.zero).es.get x).st:Nat):Int) !=((0:Nat):Int)) (zcp (by omega))) (zh (hw:=hEw22) hT381 [(13,111,vT),(14,112,(vP w10.heap.size 1))] 2 32767 (zg (hw:=hEw22) hT381 15 65535 (some 113) (vA (zO ((t.getD (num n v+j) Nod.zero).es.get x).dg)) (zi (Instr.loadAt 59 (vP w10.heap.size 1)) (fun w' hC=>zw (vs:=zO ((t.getD (num n v+j) Nod.zero).es.get x).dg) ((hK16.ext hC).at 1 (zO ((t.getD (num n v+j) Nod.zero).es.get x).dg) (zfy _)) (by rw [zal];kernel_rfl))) (zg (hw:=hEw22) hT381 16 131071 (some 114) (vA (zO (zU (zS (t.getD (num n (v-1)+(4*j+x)) Nod.zero))))) (zi (Instr.loadAt 59 (vP w15.heap.size 0)) (fun w' hC=>zw (vs:=zO (zU (zS (t.getD (num n (v-1)+(4*j+x)) Nod.zero)))) (((hBw17.ext hEw18).ext hC).all) (by rw [zal];kernel_rfl))) ?_)))))
            rcases Bool.eq_false_or_eq_true (((t.getD (num n v+j) Nod.zero).es.get x).dg.l==(zU (zS (t.getD (num n (v-1)+(4*j+x)) Nod.zero))).l) with hf115 | hf115
            ·refine zg (hw:=hEw22) hT381 17 262143 (some 115) vF (zi (bo .neq 59 (.tmp 113) (.tmp 114) (vA (zO ((t.getD (num n v+j) Nod.zero).es.get x).dg)) (vA (zO (zU (zS (t.getD (num n (v-1)+(4*j+x)) Nod.zero)))))) (fun w' hC=>zak (r:=true) (T:=59) ((zcq (dd:=9998) (t:=59) (e:=5) (((t.getD (num n v+j) Nod.zero).es.get x).dg) (zU (zS (t.getD (num n (v-1)+(4*j+x)) Nod.zero)))).trans (congrArg (fun b=>Result.ok b _) (show ((((t.getD (num n v+j) Nod.zero).es.get x).dg).l==(zU (zS (t.getD (num n (v-1)+(4*j+x)) Nod.zero))).l)=true from hf115))))) (zh (hw:=hEw22) hT381 [(18,116,vF),(19,117,vF)] 2 1048575 (zJ (zb (zn (zu (zp (zb (zd (zc 1 [(78,(vI (4*j+x)))] ?_)))))))))
             refine za (zt (some 79) .i64 (IntKind.i64.wrap (((4*j+x:Nat):Int)+((1:Nat):Int))) (4*j+x+1) (zA (by omega) (by omega) (by omega)) ?_)
             refine zc 1 [(11,(vI (4*j+x+1)))] (zf (zF ?_))
             have hX11:Ext w9 w22:=(((((Ext.own (hE3.trans hEw11) hCw12 (by omega)).trans hEw13).trans hX7).trans hEw18).trans hEw22)
             refine zR (x+1) ?_ ?_
             ·exact ⟨by omega,zce hen (zfi (show (zaE (zbq n t) (v-1) (4*j+x)=true↔((t.getD (num n v+j) Nod.zero).es.get x).st=0) by rw [←hem];first |(simp only [he,iff_true,true_iff];omega)|(simp only [he,Bool.false_eq_true,iff_false,false_iff];omega)) (show ((t.getD (num n v+j) Nod.zero).es.get x).st=0∨_ from by first |(left;omega)|(right;exact beq_iff_eq.1 hf115))),hX11⟩
             ·first | omega |(dsimp only;omega)
            ·refine zg (hw:=hEw22) hT381 17 262143 (some 115) vT (zi (bo .neq 59 (.tmp 113) (.tmp 114) (vA (zO ((t.getD (num n v+j) Nod.zero).es.get x).dg)) (vA (zO (zU (zS (t.getD (num n (v-1)+(4*j+x)) Nod.zero)))))) (fun w' hC=>zak (r:=false) (T:=59) ((zcq (dd:=9998) (t:=59) (e:=5) (((t.getD (num n v+j) Nod.zero).es.get x).dg) (zU (zS (t.getD (num n (v-1)+(4*j+x)) Nod.zero)))).trans (congrArg (fun b=>Result.ok b _) (show ((((t.getD (num n v+j) Nod.zero).es.get x).dg).l==(zU (zS (t.getD (num n (v-1)+(4*j+x)) Nod.zero))).l)=false from hf115))))) (zh (hw:=hEw22) hT381 [(18,116,vT),(19,117,vT)] 2 1048575 (zJ (zb (zC (ze (zd (zc 4 [(4,(.iface 198 (vA [(vI (num n v+j)),(vI 9)]))),(120,(.iface 198 (vA [(vI (num n v+j)),(vI 9)]))),(119,(vA [(vI (num n v+j)),(vI 9)])),(118,(vI (num n v+j)))] (zf (zb ?_)))))))))
             refine zq (zG (zD (zD (zG (zG (zD (zD (zG (zG ?_)))))))))
             refine zD (zD (zG (zD (zr (.iface 198 (vA [(vI (num n v+j)),(vI 9)])) ?_))))
             have hX12:Ext w w22:=(((((Ext.own ((((Ext.own ((((((hEw1.trans hEw2).trans hEw3).trans hE1).trans hE2).trans hEw6).trans hEw7) hCw8 (by omega)).trans hEw9).trans hE3).trans hEw11) hCw12 (by omega)).trans hEw13).trans hX7).trans hEw18).trans hEw22)
             exact ⟨_,by rw [zcl hok2 (by omega) hjc (zde hnm (by omega) hen hxw (zgC (show ¬((t.getD (num n v+j) Nod.zero).es.get x).st=0 from hf100) (by rw [←beq_iff_eq];intro hh;rw [show (((ndA n t v j).es.get x).dg.l==(zU (zS (ndA n t (v-1) (4*j+x)))).l)=false from hf115] at hh;cases hh))) (by decide),zb7 (by decide)],hX12⟩
         ·refine zo (some 13) (Instr.alloc 59 true (.tuple #[])) (vP w14.heap.size 0) (zO Dig.zero) 59 ?_
          intro w23 hBw23 hEw23
          have hzw23:=hEw23.size;have hlw23:=hBw23.lt
          have hX13:Ext w13 w23:=(hEw14.trans hEw23)
          refine ⟨.inr hX13, ?_⟩
          have hK29:=(((((((((((((((((((((((((((((hg0.ext hEw1)).ext hEw2)).ext hEw3)).ext hE1)).ext hE2)).ext hEw6)).ext hEw7)).chg hCw8 (fun hs=>by have h:_=_:=hs;omega))).ext hEw9)).ext hE3)).ext hEw11)).chg hCw12 (fun hs=>by have h:_=_:=hs;omega))).ext hEw13)).ext hEw14)).ext hEw23)
          have hK30:=(((((((((((((((((((((((((((((hg1.ext hEw1)).ext hEw2)).ext hEw3)).ext hE1)).ext hE2)).ext hEw6)).ext hEw7)).chg hCw8 (fun hs=>by have h:_=_:=hs;omega))).ext hEw9)).ext hE3)).ext hEw11)).chg hCw12 (fun hs=>by have h:_=_:=hs;omega))).ext hEw13)).ext hEw14)).ext hEw23)
          have hK31:=(((((((((((((((((((((((((((((hg2.ext hEw1)).ext hEw2)).ext hEw3)).ext hE1)).ext hE2)).ext hEw6)).ext hEw7)).chg hCw8 (fun hs=>by have h:_=_:=hs;omega))).ext hEw9)).ext hE3)).ext hEw11)).chg hCw12 (fun hs=>by have h:_=_:=hs;omega))).ext hEw13)).ext hEw14)).ext hEw23)
          refine zz 9 9215 (zl (some 95) (zeU (t.getD (num n (v-1)+(4*j+x)) Nod.zero) _ (by assumption) hK29 hK30 hK31) ?_)
          rintro _ w24 ⟨rfl,hEw24⟩
          have hzw24:=hEw24.size
          have hX14:Ext w13 w24:=((hEw14.trans hEw23).trans hEw24)
          refine ⟨.inr hX14, ?_⟩
          refine zh (hw:=hX14) hT334 [(10,85,(.tuple #[(vA (zO (zU (zS (t.getD (num n (v-1)+(4*j+x)) Nod.zero))))),(vI 0)])),(11,96,(vA (zO (zU (zS (t.getD (num n (v-1)+(4*j+x)) Nod.zero)))))),(12,97,(vI 0))] 3 16383 (zz 14 32767 (zv 59 w14.heap.size 0 59 (vA (zO (zU (zS (t.getD (num n (v-1)+(4*j+x)) Nod.zero))))) (zO Dig.zero) (zO (zU (zS (t.getD (num n (v-1)+(4*j+x)) Nod.zero)))) (hBw23.ext hEw24) (by rw [zal];kernel_rfl) (by first |(simp;done)|(simp;omega)) (zbH _) ?_))
          intro w25 hBw25 hCw25
          have hzw25:=hCw25.size
          rw [zm _ _ (by simp)] at hBw25
          have hX15:Ext w13 w25:=(Ext.own ((hEw14.trans hEw23).trans hEw24) hCw25 (by omega))
          refine ⟨.inr hX15, ?_⟩
          refine zh (hw:=hX15) hT334 [(15,14,(vI 0))] 1 65535 (zJ (zb (ze (zT (Ext w25.drew) 20 [(99,4096,0),(100,316912650057057350374175801344,1),(101,633825300114114700748351602688,2),(102,32,0),(103,64,0),(104,5070602400912917605986812821504,16),(105,2048,0),(106,32958915605933964438914283339776,104),(107,41832469807531570249391205777408,132),(108,81129638414606681695789005144064,384),(109,162259276829213363391578010292224,512),(110,486777830487640090174734030864384,1536),(111,811296384146066816957890051440640,2560),(112,1460333491462920270524202092593152,4608),(113,2596148429267413814265248164614144,8192),(114,7788445287802241442795744493830144,24576),(115,2596148429267413814265248164618240,8192),(116,33749929580476379585448226139930624,106496),(117,44296782574375248205900796808658944,139776),(118,83239009013386455419879519277809664,262656)] (fun hT579=> ?_)))))
          have hEw26:Ext w25 w25.drew:=Ext.drew w25
          generalize w25.drew=w26 at hEw26⊢
          have hzw26:=hEw26.size
          refine zh hT579 [(0,98,(vP w10.heap.size 0))] 1 1 ?_
          have hK32:=(((((hBw12.ext hEw13)).ext hX15)).ext hEw26)
          refine zg hT579 1 3 (some 99) (vB (((t.getD (num n v+j) Nod.zero).es.get x).st)) (zi (Instr.loadAt 5 (vP w10.heap.size 0)) (fun w' hC=>zk ((hK32.ext hC).cell rfl))) ?_
          rcases Classical.em (((t.getD (num n v+j) Nod.zero).es.get x).st=0) with hf100 | hf100
          ·refine zg hT579 2 7 (some 100) vT (zaD (((((t.getD (num n v+j) Nod.zero).es.get x).st:Nat):Int)==((0:Nat):Int)) (zas (by omega))) (zh hT579 [(3,101,(.func (.func 141) #[] #[(vP a1 0),(vP a1y 0),(vP a1z 0)])),(4,102,(vI v))] 2 31 (zg hT579 5 63 (some 103) (vI (v-1)) (zaa .i64 (IntKind.i64.wrap (((v:Nat):Int)-((1:Nat):Int))) (zA (by omega) (by omega) (by omega))) (zh hT579 [(6,104,(vI (4*j+x)))] 1 127 ?_)))
           rcases (show emP n t (v-1) (4*j+x)=true∨emP n t (v-1) (4*j+x)=false by cases emP n t (v-1) (4*j+x)<;>simp) with he | he
           ·have hK33:=(((((((((((((((((((((((hFz1_1.ext hE1)).ext hE2)).ext hEw6)).ext hEw7)).chg hCw8 (fun hs=>by have h:_=_:=hs;omega))).ext hEw9)).ext hE3)).ext hEw11)).chg hCw12 (fun hs=>by have h:_=_:=hs;omega))).ext hEw13)).ext hX15)).ext hEw26)
            have hK34:=(((((((((((((((((((((((hFz1_2.ext hE1)).ext hE2)).ext hEw6)).ext hEw7)).chg hCw8 (fun hs=>by have h:_=_:=hs;omega))).ext hEw9)).ext hE3)).ext hEw11)).chg hCw12 (fun hs=>by have h:_=_:=hs;omega))).ext hEw13)).ext hX15)).ext hEw26)
            have hK35:=(((((((((((((((((((((((hFz1_3.ext hE1)).ext hE2)).ext hEw6)).ext hEw7)).chg hCw8 (fun hs=>by have h:_=_:=hs;omega))).ext hEw9)).ext hE3)).ext hEw11)).chg hCw12 (fun hs=>by have h:_=_:=hs;omega))).ext hEw13)).ext hX15)).ext hEw26)
            refine zz 7 255 (zl (some 105) (zd6 (v-1) (4*j+x) a1 a1y n a1z _ hK33 (((hK12.ext hX15)).ext hEw26) hK34 (((hK10.ext hX15)).ext hEw26) hK35 (by first | rfl | assumption) (by omega) (by omega) (by omega) (by omega) (by omega)) ?_)
            rintro _ w27 ⟨rfl,hEw27⟩
            have hzw27:=hEw27.size
            rw [show emP n t (v-1) (4*j+x)=true from he]
            refine ⟨.inr hEw27, ?_⟩
            refine zh (hw:=hEw27) hT579 [(8,106,vF),(9,107,vF),(10,108,(vP w10.heap.size 0))] 3 2047 (zg (hw:=hEw27) hT579 11 4095 (some 109) (vB (((t.getD (num n v+j) Nod.zero).es.get x).st)) (zi (Instr.loadAt 5 (vP w10.heap.size 0)) (fun w' hC=>zk ((hK32.ext hC).cell rfl))) (zg (hw:=hEw27) hT579 12 8191 (some 110) vF (zaD (((((t.getD (num n v+j) Nod.zero).es.get x).st:Nat):Int) !=((0:Nat):Int)) (zaA (by omega))) (zh (hw:=hEw27) hT579 [(13,111,vF),(14,112,undef),(15,113,undef),(16,114,undef),(17,115,undef),(18,116,vF),(19,117,vF)] 7 1048575 (zJ (zb (zn (zu (zp (zb ?_)))))))))
            refine zd (zc 1 [(78,(vI (4*j+x)))] (za (zt (some 79) .i64 (IntKind.i64.wrap (((4*j+x:Nat):Int)+((1:Nat):Int))) (4*j+x+1) (zA (by omega) (by omega) (by omega)) ?_)))
            refine zc 1 [(11,(vI (4*j+x+1)))] (zf (zF ?_))
            have hX16:Ext w9 w27:=(((((Ext.own (hE3.trans hEw11) hCw12 (by omega)).trans hEw13).trans hX15).trans hEw26).trans hEw27)
            refine zR (x+1) ?_ ?_
            ·exact ⟨by omega,zce hen (zfi (show (zaE (zbq n t) (v-1) (4*j+x)=true↔((t.getD (num n v+j) Nod.zero).es.get x).st=0) by rw [←hem];first |(simp only [he,iff_true,true_iff];omega)|(simp only [he,Bool.false_eq_true,iff_false,false_iff];omega)) (show ((t.getD (num n v+j) Nod.zero).es.get x).st=0∨_ from by first |(left;omega)|(right;exact beq_iff_eq.1 hf115))),hX16⟩
            ·first | omega |(dsimp only;omega)
           ·have hK36:=(((((((((((((((((((((((hFz1_1.ext hE1)).ext hE2)).ext hEw6)).ext hEw7)).chg hCw8 (fun hs=>by have h:_=_:=hs;omega))).ext hEw9)).ext hE3)).ext hEw11)).chg hCw12 (fun hs=>by have h:_=_:=hs;omega))).ext hEw13)).ext hX15)).ext hEw26)
            have hK37:=(((((((((((((((((((((((hFz1_2.ext hE1)).ext hE2)).ext hEw6)).ext hEw7)).chg hCw8 (fun hs=>by have h:_=_:=hs;omega))).ext hEw9)).ext hE3)).ext hEw11)).chg hCw12 (fun hs=>by have h:_=_:=hs;omega))).ext hEw13)).ext hX15)).ext hEw26)
            have hK38:=(((((((((((((((((((((((hFz1_3.ext hE1)).ext hE2)).ext hEw6)).ext hEw7)).chg hCw8 (fun hs=>by have h:_=_:=hs;omega))).ext hEw9)).ext hE3)).ext hEw11)).chg hCw12 (fun hs=>by have h:_=_:=hs;omega))).ext hEw13)).ext hX15)).ext hEw26)
            refine zz 7 255 (zl (some 105) (zd6 (v-1) (4*j+x) a1 a1y n a1z _ hK36 (((hK12.ext hX15)).ext hEw26) hK37 (((hK10.ext hX15)).ext hEw26) hK38 (by first | rfl | assumption) (by omega) (by omega) (by omega) (by omega) (by omega)) ?_)
            rintro _ w28 ⟨rfl,hEw28⟩
            have hzw28:=hEw28.size
            rw [show emP n t (v-1) (4*j+x)=false from he]
            refine ⟨.inr hEw28, ?_⟩
            refine zh (hw:=hEw28) hT579 [(8,106,vT),(9,107,vT),(10,108,undef),(11,109,undef),(12,110,undef),(13,111,undef),(14,112,undef),(15,113,undef),(16,114,undef),(17,115,undef),(18,116,undef),(19,117,vT)] 12 1048575 (zJ (zb (zC (ze (zd (zc 4 [(4,(.iface 198 (vA [(vI (num n v+j)),(vI 9)]))),(120,(.iface 198 (vA [(vI (num n v+j)),(vI 9)]))),(119,(vA [(vI (num n v+j)),(vI 9)])),(118,(vI (num n v+j)))] (zf (zb (zq ?_)))))))))
            refine zG (zD (zD (zG (zG (zD (zD (zG (zG (zD ?_)))))))))
            refine zD (zG (zD (zr (.iface 198 (vA [(vI (num n v+j)),(vI 9)])) ?_)))
            have hX17:Ext w w28:=(((((Ext.own ((((Ext.own ((((((hEw1.trans hEw2).trans hEw3).trans hE1).trans hE2).trans hEw6).trans hEw7) hCw8 (by omega)).trans hEw9).trans hE3).trans hEw11) hCw12 (by omega)).trans hEw13).trans hX15).trans hEw26).trans hEw28)
            exact ⟨_,by rw [zcl hok2 (by omega) hjc (zde hnm (by omega) hen hxw (zel (fun hh=>by have h1:(zaE (zbq n t) (v-1) (4*j+x)=true↔((t.getD (num n v+j) Nod.zero).es.get x).st=0):=hh;rw [←hem,he] at h1;simp only [Bool.false_eq_true,false_iff,true_iff] at h1;exact absurd hf100 (by omega)))) (by decide),zb7 (by decide)],hX17⟩
          ·refine zg hT579 2 7 (some 100) vF (zaD (((((t.getD (num n v+j) Nod.zero).es.get x).st:Nat):Int)==((0:Nat):Int)) (zcc (by omega))) (zh hT579 [(3,101,(.func (.func 141) #[] #[(vP a1 0),(vP a1y 0),(vP a1z 0)])),(4,102,(vI v))] 2 31 (zg hT579 5 63 (some 103) (vI (v-1)) (zaa .i64 (IntKind.i64.wrap (((v:Nat):Int)-((1:Nat):Int))) (zA (by omega) (by omega) (by omega))) (zh hT579 [(6,104,(vI (4*j+x)))] 1 127 ?_)))
           rcases (show emP n t (v-1) (4*j+x)=true∨emP n t (v-1) (4*j+x)=false by cases emP n t (v-1) (4*j+x)<;>simp) with he | he
           ·have hK39:=(((((((((((((((((((((((hFz1_1.ext hE1)).ext hE2)).ext hEw6)).ext hEw7)).chg hCw8 (fun hs=>by have h:_=_:=hs;omega))).ext hEw9)).ext hE3)).ext hEw11)).chg hCw12 (fun hs=>by have h:_=_:=hs;omega))).ext hEw13)).ext hX15)).ext hEw26)
            have hK40:=(((((((((((((((((((((((hFz1_2.ext hE1)).ext hE2)).ext hEw6)).ext hEw7)).chg hCw8 (fun hs=>by have h:_=_:=hs;omega))).ext hEw9)).ext hE3)).ext hEw11)).chg hCw12 (fun hs=>by have h:_=_:=hs;omega))).ext hEw13)).ext hX15)).ext hEw26)
            have hK41:=(((((((((((((((((((((((hFz1_3.ext hE1)).ext hE2)).ext hEw6)).ext hEw7)).chg hCw8 (fun hs=>by have h:_=_:=hs;omega))).ext hEw9)).ext hE3)).ext hEw11)).chg hCw12 (fun hs=>by have h:_=_:=hs;omega))).ext hEw13)).ext hX15)).ext hEw26)
            refine zz 7 255 (zl (some 105) (zd6 (v-1) (4*j+x) a1 a1y n a1z _ hK39 (((hK12.ext hX15)).ext hEw26) hK40 (((hK10.ext hX15)).ext hEw26) hK41 (by first | rfl | assumption) (by omega) (by omega) (by omega) (by omega) (by omega)) ?_)
            rintro _ w29 ⟨rfl,hEw29⟩
            have hzw29:=hEw29.size
            rw [show emP n t (v-1) (4*j+x)=true from he]
            refine ⟨.inr hEw29, ?_⟩
            refine zh (hw:=hEw29) hT579 [(8,106,vT),(9,107,vT),(10,108,undef),(11,109,undef),(12,110,undef),(13,111,undef),(14,112,undef),(15,113,undef),(16,114,undef),(17,115,undef),(18,116,undef),(19,117,vT)] 12 1048575 (zJ (zb (zC (ze (zd (zc 4 [(4,(.iface 198 (vA [(vI (num n v+j)),(vI 9)]))),(120,(.iface 198 (vA [(vI (num n v+j)),(vI 9)]))),(119,(vA [(vI (num n v+j)),(vI 9)])),(118,(vI (num n v+j)))] (zf (zb (zq ?_)))))))))
            refine zG (zD (zD (zG (zG (zD (zD (zG (zG (zD ?_)))))))))
            refine zD (zG (zD (zr (.iface 198 (vA [(vI (num n v+j)),(vI 9)])) ?_)))
            have hX18:Ext w w29:=(((((Ext.own ((((Ext.own ((((((hEw1.trans hEw2).trans hEw3).trans hE1).trans hE2).trans hEw6).trans hEw7) hCw8 (by omega)).trans hEw9).trans hE3).trans hEw11) hCw12 (by omega)).trans hEw13).trans hX15).trans hEw26).trans hEw29)
            exact ⟨_,by rw [zcl hok2 (by omega) hjc (zde hnm (by omega) hen hxw (zel (fun hh=>by have h1:(zaE (zbq n t) (v-1) (4*j+x)=true↔((t.getD (num n v+j) Nod.zero).es.get x).st=0):=hh;rw [←hem,he] at h1;simp only [Bool.false_eq_true,false_iff,true_iff] at h1;exact absurd hf100 (by omega)))) (by decide),zb7 (by decide)],hX18⟩
           ·have hK42:=(((((((((((((((((((((((hFz1_1.ext hE1)).ext hE2)).ext hEw6)).ext hEw7)).chg hCw8 (fun hs=>by have h:_=_:=hs;omega))).ext hEw9)).ext hE3)).ext hEw11)).chg hCw12 (fun hs=>by have h:_=_:=hs;omega))).ext hEw13)).ext hX15)).ext hEw26)
            have hK43:=(((((((((((((((((((((((hFz1_2.ext hE1)).ext hE2)).ext hEw6)).ext hEw7)).chg hCw8 (fun hs=>by have h:_=_:=hs;omega))).ext hEw9)).ext hE3)).ext hEw11)).chg hCw12 (fun hs=>by have h:_=_:=hs;omega))).ext hEw13)).ext hX15)).ext hEw26)
            have hK44:=(((((((((((((((((((((((hFz1_3.ext hE1)).ext hE2)).ext hEw6)).ext hEw7)).chg hCw8 (fun hs=>by have h:_=_:=hs;omega))).ext hEw9)).ext hE3)).ext hEw11)).chg hCw12 (fun hs=>by have h:_=_:=hs;omega))).ext hEw13)).ext hX15)).ext hEw26)
            refine zz 7 255 (zl (some 105) (zd6 (v-1) (4*j+x) a1 a1y n a1z _ hK42 (((hK12.ext hX15)).ext hEw26) hK43 (((hK10.ext hX15)).ext hEw26) hK44 (by first | rfl | assumption) (by omega) (by omega) (by omega) (by omega) (by omega)) ?_)
            rintro _ w30 ⟨rfl,hEw30⟩
            have hzw30:=hEw30.size
            rw [show emP n t (v-1) (4*j+x)=false from he]
            refine ⟨.inr hEw30, ?_⟩
            refine zh (hw:=hEw30) hT579 [(8,106,vF),(9,107,vF),(10,108,(vP w10.heap.size 0))] 3 2047 (zg (hw:=hEw30) hT579 11 4095 (some 109) (vB (((t.getD (num n v+j) Nod.zero).es.get x).st)) (zi (Instr.loadAt 5 (vP w10.heap.size 0)) (fun w' hC=>zk ((hK32.ext hC).cell rfl))) (zg (hw:=hEw30) hT579 12 8191 (some 110) vT (zaD (((((t.getD (num n v+j) Nod.zero).es.get x).st:Nat):Int) !=((0:Nat):Int)) (zcp (by omega))) (zh (hw:=hEw30) hT579 [(13,111,vT),(14,112,(vP w10.heap.size 1))] 2 32767 (zg (hw:=hEw30) hT579 15 65535 (some 113) (vA (zO ((t.getD (num n v+j) Nod.zero).es.get x).dg)) (zi (Instr.loadAt 59 (vP w10.heap.size 1)) (fun w' hC=>zw (vs:=zO ((t.getD (num n v+j) Nod.zero).es.get x).dg) ((hK32.ext hC).at 1 (zO ((t.getD (num n v+j) Nod.zero).es.get x).dg) (zfy _)) (by rw [zal];kernel_rfl))) (zg (hw:=hEw30) hT579 16 131071 (some 114) (vA (zO (zU (zS (t.getD (num n (v-1)+(4*j+x)) Nod.zero))))) (zi (Instr.loadAt 59 (vP w14.heap.size 0)) (fun w' hC=>zw (vs:=zO (zU (zS (t.getD (num n (v-1)+(4*j+x)) Nod.zero)))) (((hBw25.ext hEw26).ext hC).all) (by rw [zal];kernel_rfl))) ?_)))))
            rcases Bool.eq_false_or_eq_true (((t.getD (num n v+j) Nod.zero).es.get x).dg.l==(zU (zS (t.getD (num n (v-1)+(4*j+x)) Nod.zero))).l) with hf115 | hf115
            ·refine zg (hw:=hEw30) hT579 17 262143 (some 115) vF (zi (bo .neq 59 (.tmp 113) (.tmp 114) (vA (zO ((t.getD (num n v+j) Nod.zero).es.get x).dg)) (vA (zO (zU (zS (t.getD (num n (v-1)+(4*j+x)) Nod.zero)))))) (fun w' hC=>zak (r:=true) (T:=59) ((zcq (dd:=9998) (t:=59) (e:=5) (((t.getD (num n v+j) Nod.zero).es.get x).dg) (zU (zS (t.getD (num n (v-1)+(4*j+x)) Nod.zero)))).trans (congrArg (fun b=>Result.ok b _) (show ((((t.getD (num n v+j) Nod.zero).es.get x).dg).l==(zU (zS (t.getD (num n (v-1)+(4*j+x)) Nod.zero))).l)=true from hf115))))) (zh (hw:=hEw30) hT579 [(18,116,vF),(19,117,vF)] 2 1048575 (zJ (zb (zn (zu (zp (zb (zd (zc 1 [(78,(vI (4*j+x)))] ?_)))))))))
             refine za (zt (some 79) .i64 (IntKind.i64.wrap (((4*j+x:Nat):Int)+((1:Nat):Int))) (4*j+x+1) (zA (by omega) (by omega) (by omega)) ?_)
             refine zc 1 [(11,(vI (4*j+x+1)))] (zf (zF ?_))
             have hX19:Ext w9 w30:=(((((Ext.own (hE3.trans hEw11) hCw12 (by omega)).trans hEw13).trans hX15).trans hEw26).trans hEw30)
             refine zR (x+1) ?_ ?_
             ·exact ⟨by omega,zce hen (zfi (show (zaE (zbq n t) (v-1) (4*j+x)=true↔((t.getD (num n v+j) Nod.zero).es.get x).st=0) by rw [←hem];first |(simp only [he,iff_true,true_iff];omega)|(simp only [he,Bool.false_eq_true,iff_false,false_iff];omega)) (show ((t.getD (num n v+j) Nod.zero).es.get x).st=0∨_ from by first |(left;omega)|(right;exact beq_iff_eq.1 hf115))),hX19⟩
             ·first | omega |(dsimp only;omega)
            ·refine zg (hw:=hEw30) hT579 17 262143 (some 115) vT (zi (bo .neq 59 (.tmp 113) (.tmp 114) (vA (zO ((t.getD (num n v+j) Nod.zero).es.get x).dg)) (vA (zO (zU (zS (t.getD (num n (v-1)+(4*j+x)) Nod.zero)))))) (fun w' hC=>zak (r:=false) (T:=59) ((zcq (dd:=9998) (t:=59) (e:=5) (((t.getD (num n v+j) Nod.zero).es.get x).dg) (zU (zS (t.getD (num n (v-1)+(4*j+x)) Nod.zero)))).trans (congrArg (fun b=>Result.ok b _) (show ((((t.getD (num n v+j) Nod.zero).es.get x).dg).l==(zU (zS (t.getD (num n (v-1)+(4*j+x)) Nod.zero))).l)=false from hf115))))) (zh (hw:=hEw30) hT579 [(18,116,vT),(19,117,vT)] 2 1048575 (zJ (zb (zC (ze (zd (zc 4 [(4,(.iface 198 (vA [(vI (num n v+j)),(vI 9)]))),(120,(.iface 198 (vA [(vI (num n v+j)),(vI 9)]))),(119,(vA [(vI (num n v+j)),(vI 9)])),(118,(vI (num n v+j)))] (zf (zb ?_)))))))))
             refine zq (zG (zD (zD (zG (zG (zD (zD (zG (zG ?_)))))))))
             refine zD (zD (zG (zD (zr (.iface 198 (vA [(vI (num n v+j)),(vI 9)])) ?_))))
             have hX20:Ext w w30:=(((((Ext.own ((((Ext.own ((((((hEw1.trans hEw2).trans hEw3).trans hE1).trans hE2).trans hEw6).trans hEw7) hCw8 (by omega)).trans hEw9).trans hE3).trans hEw11) hCw12 (by omega)).trans hEw13).trans hX15).trans hEw26).trans hEw30)
             exact ⟨_,by rw [zcl hok2 (by omega) hjc (zde hnm (by omega) hen hxw (zgC (show ¬((t.getD (num n v+j) Nod.zero).es.get x).st=0 from hf100) (by rw [←beq_iff_eq];intro hh;rw [show (((ndA n t v j).es.get x).dg.l==(zU (zS (ndA n t (v-1) (4*j+x)))).l)=false from hf115] at hh;cases hh))) (by decide),zb7 (by decide)],hX20⟩
        ·refine zo (some 13) (Instr.alloc 59 true (.tuple #[])) (vP w13.heap.size 0) (zO Dig.zero) 59 ?_
         intro w31 hBw31 hEw31
         have hzw31:=hEw31.size;have hlw31:=hBw31.lt
         refine ⟨.inr hEw31, ?_⟩
         have hK45:=(((((((hK7.ext hEw11)).chg hCw12 (fun k h1 h2 hs=>by have h:k=_:=hs;omega))).ext hEw13)).ext hEw31)
         have hK46:=(((((((((((((((((hK3.ext hEw6)).ext hEw7)).chg hCw8 (fun k h1 h2 hs=>by have h:k=_:=hs;omega))).ext hEw9)).ext hE3)).ext hEw11)).chg hCw12 (fun k h1 h2 hs=>by have h:k=_:=hs;omega))).ext hEw13)).ext hEw31)
         refine zz 6 8319 (zl (some 92) (zem n (v-1) (4*j+x) _ hK45 hK46 (by first | rfl | assumption) (by first | rfl | assumption) (by omega) (by omega) (by omega) (by omega)) ?_)
         rintro _ w32 ⟨rfl,hEw32⟩
         have hzw32:=hEw32.size
         have hX21:Ext w13 w32:=(hEw31.trans hEw32)
         refine ⟨.inr hX21, ?_⟩
         refine zg (hw:=hX21) hT334 7 8447 (some 93) (vP b2 (o2+(num n (v-1)+(4*j+x))*274)) (zi (Instr.indexAt 42 (.slice (pA b2 o2) n_t c_t) (vI (num n (v-1)+(4*j+x)))) (fun w' hC=>zP (E:=74) (sz:=274) (by omega))) ?_
         have hK47:=(((((((((((((hK5.ext hEw7)).chg hCw8 (fun k h1 h2 hs=>by have h:k=_:=hs;omega))).ext hEw9)).ext hE3)).ext hEw11)).chg hCw12 (fun k h1 h2 hs=>by have h:k=_:=hs;omega))).ext hEw13)
         refine zg (hw:=hX21) hT334 8 8703 (some 94) (vA (zH (t.getD (num n (v-1)+(4*j+x)) Nod.zero))) (zi (Instr.loadAt 74 (vP b2 (o2+(num n (v-1)+(4*j+x))*274))) (fun w' hC=>zw (vs:=zH (t.getD (num n (v-1)+(4*j+x)) Nod.zero)) ((hK47.ext hC).at Nod.zero (by omega)) (by rw [zV];kernel_rfl))) ?_
         have hK48:=(((((((((((((((((((((((((((((hg0.ext hEw1)).ext hEw2)).ext hEw3)).ext hE1)).ext hE2)).ext hEw6)).ext hEw7)).chg hCw8 (fun hs=>by have h:_=_:=hs;omega))).ext hEw9)).ext hE3)).ext hEw11)).chg hCw12 (fun hs=>by have h:_=_:=hs;omega))).ext hEw13)).ext hEw31)).ext hEw32)
         have hK49:=(((((((((((((((((((((((((((((hg1.ext hEw1)).ext hEw2)).ext hEw3)).ext hE1)).ext hE2)).ext hEw6)).ext hEw7)).chg hCw8 (fun hs=>by have h:_=_:=hs;omega))).ext hEw9)).ext hE3)).ext hEw11)).chg hCw12 (fun hs=>by have h:_=_:=hs;omega))).ext hEw13)).ext hEw31)).ext hEw32)
         have hK50:=(((((((((((((((((((((((((((((hg2.ext hEw1)).ext hEw2)).ext hEw3)).ext hE1)).ext hE2)).ext hEw6)).ext hEw7)).chg hCw8 (fun hs=>by have h:_=_:=hs;omega))).ext hEw9)).ext hE3)).ext hEw11)).chg hCw12 (fun hs=>by have h:_=_:=hs;omega))).ext hEw13)).ext hEw31)).ext hEw32)
         refine zz 9 9215 (zl (some 95) (zeU (t.getD (num n (v-1)+(4*j+x)) Nod.zero) _ (by assumption) hK48 hK49 hK50) ?_)
         rintro _ w33 ⟨rfl,hEw33⟩
         have hzw33:=hEw33.size
         have hX22:Ext w13 w33:=((hEw31.trans hEw32).trans hEw33)
         refine ⟨.inr hX22, ?_⟩
         refine zh (hw:=hX22) hT334 [(10,85,(.tuple #[(vA (zO (zU (zS (t.getD (num n (v-1)+(4*j+x)) Nod.zero))))),(vI 0)])),(11,96,(vA (zO (zU (zS (t.getD (num n (v-1)+(4*j+x)) Nod.zero)))))),(12,97,(vI 0))] 3 16383 (zz 14 32767 (zv 59 w13.heap.size 0 59 (vA (zO (zU (zS (t.getD (num n (v-1)+(4*j+x)) Nod.zero))))) (zO Dig.zero) (zO (zU (zS (t.getD (num n (v-1)+(4*j+x)) Nod.zero)))) (((hBw31.ext hEw32)).ext hEw33) (by rw [zal];kernel_rfl) (by first |(simp;done)|(simp;omega)) (zbH _) ?_))
         intro w34 hBw34 hCw34
         have hzw34:=hCw34.size
         rw [zm _ _ (by simp)] at hBw34
         have hX23:Ext w13 w34:=(Ext.own ((hEw31.trans hEw32).trans hEw33) hCw34 (by omega))
         refine ⟨.inr hX23, ?_⟩
         refine zh (hw:=hX23) hT334 [(15,14,(vI 0))] 1 65535 (zJ (zb (ze (zT (Ext w34.drew) 20 [(99,4096,0),(100,316912650057057350374175801344,1),(101,633825300114114700748351602688,2),(102,32,0),(103,64,0),(104,5070602400912917605986812821504,16),(105,2048,0),(106,32958915605933964438914283339776,104),(107,41832469807531570249391205777408,132),(108,81129638414606681695789005144064,384),(109,162259276829213363391578010292224,512),(110,486777830487640090174734030864384,1536),(111,811296384146066816957890051440640,2560),(112,1460333491462920270524202092593152,4608),(113,2596148429267413814265248164614144,8192),(114,7788445287802241442795744493830144,24576),(115,2596148429267413814265248164618240,8192),(116,33749929580476379585448226139930624,106496),(117,44296782574375248205900796808658944,139776),(118,83239009013386455419879519277809664,262656)] (fun hT786=> ?_)))))
         have hEw35:Ext w34 w34.drew:=Ext.drew w34
         generalize w34.drew=w35 at hEw35⊢
         have hzw35:=hEw35.size
         refine zh hT786 [(0,98,(vP w10.heap.size 0))] 1 1 ?_
         have hK51:=(((((hBw12.ext hEw13)).ext hX23)).ext hEw35)
         refine zg hT786 1 3 (some 99) (vB (((t.getD (num n v+j) Nod.zero).es.get x).st)) (zi (Instr.loadAt 5 (vP w10.heap.size 0)) (fun w' hC=>zk ((hK51.ext hC).cell rfl))) ?_
         rcases Classical.em (((t.getD (num n v+j) Nod.zero).es.get x).st=0) with hf100 | hf100
         ·refine zg hT786 2 7 (some 100) vT (zaD (((((t.getD (num n v+j) Nod.zero).es.get x).st:Nat):Int)==((0:Nat):Int)) (zas (by omega))) (zh hT786 [(3,101,(.func (.func 141) #[] #[(vP a1 0),(vP a1y 0),(vP a1z 0)])),(4,102,(vI v))] 2 31 (zg hT786 5 63 (some 103) (vI (v-1)) (zaa .i64 (IntKind.i64.wrap (((v:Nat):Int)-((1:Nat):Int))) (zA (by omega) (by omega) (by omega))) (zh hT786 [(6,104,(vI (4*j+x)))] 1 127 ?_)))
          rcases (show emP n t (v-1) (4*j+x)=true∨emP n t (v-1) (4*j+x)=false by cases emP n t (v-1) (4*j+x)<;>simp) with he | he
          ·have hK52:=(((((((((((((((((((((((hFz1_1.ext hE1)).ext hE2)).ext hEw6)).ext hEw7)).chg hCw8 (fun hs=>by have h:_=_:=hs;omega))).ext hEw9)).ext hE3)).ext hEw11)).chg hCw12 (fun hs=>by have h:_=_:=hs;omega))).ext hEw13)).ext hX23)).ext hEw35)
           have hK53:=(((((((((((((((((((((((hFz1_2.ext hE1)).ext hE2)).ext hEw6)).ext hEw7)).chg hCw8 (fun hs=>by have h:_=_:=hs;omega))).ext hEw9)).ext hE3)).ext hEw11)).chg hCw12 (fun hs=>by have h:_=_:=hs;omega))).ext hEw13)).ext hX23)).ext hEw35)
           have hK54:=(((((((hK45.ext hEw32)).ext hEw33)).chg hCw34 (fun k h1 h2 hs=>by have h:k=_:=hs;omega))).ext hEw35)
           have hK55:=(((((((((((((((((((((((hFz1_3.ext hE1)).ext hE2)).ext hEw6)).ext hEw7)).chg hCw8 (fun hs=>by have h:_=_:=hs;omega))).ext hEw9)).ext hE3)).ext hEw11)).chg hCw12 (fun hs=>by have h:_=_:=hs;omega))).ext hEw13)).ext hX23)).ext hEw35)
           refine zz 7 255 (zl (some 105) (zd6 (v-1) (4*j+x) a1 a1y n a1z _ hK52 (((hK47.ext hX23)).ext hEw35) hK53 hK54 hK55 (by first | rfl | assumption) (by omega) (by omega) (by omega) (by omega) (by omega)) ?_)
           rintro _ w36 ⟨rfl,hEw36⟩
           have hzw36:=hEw36.size
           rw [show emP n t (v-1) (4*j+x)=true from he]
           refine ⟨.inr hEw36, ?_⟩
           refine zh (hw:=hEw36) hT786 [(8,106,vF),(9,107,vF),(10,108,(vP w10.heap.size 0))] 3 2047 (zg (hw:=hEw36) hT786 11 4095 (some 109) (vB (((t.getD (num n v+j) Nod.zero).es.get x).st)) (zi (Instr.loadAt 5 (vP w10.heap.size 0)) (fun w' hC=>zk ((hK51.ext hC).cell rfl))) (zg (hw:=hEw36) hT786 12 8191 (some 110) vF (zaD (((((t.getD (num n v+j) Nod.zero).es.get x).st:Nat):Int) !=((0:Nat):Int)) (zaA (by omega))) (zh (hw:=hEw36) hT786 [(13,111,vF),(14,112,undef),(15,113,undef),(16,114,undef),(17,115,undef),(18,116,vF),(19,117,vF)] 7 1048575 (zJ (zb (zn (zu (zp (zb ?_)))))))))
           refine zd (zc 1 [(78,(vI (4*j+x)))] (za (zt (some 79) .i64 (IntKind.i64.wrap (((4*j+x:Nat):Int)+((1:Nat):Int))) (4*j+x+1) (zA (by omega) (by omega) (by omega)) ?_)))
           refine zc 1 [(11,(vI (4*j+x+1)))] (zf (zF ?_))
           have hX24:Ext w9 w36:=(((((Ext.own (hE3.trans hEw11) hCw12 (by omega)).trans hEw13).trans hX23).trans hEw35).trans hEw36)
           refine zR (x+1) ?_ ?_
           ·exact ⟨by omega,zce hen (zfi (show (zaE (zbq n t) (v-1) (4*j+x)=true↔((t.getD (num n v+j) Nod.zero).es.get x).st=0) by rw [←hem];first |(simp only [he,iff_true,true_iff];omega)|(simp only [he,Bool.false_eq_true,iff_false,false_iff];omega)) (show ((t.getD (num n v+j) Nod.zero).es.get x).st=0∨_ from by first |(left;omega)|(right;exact beq_iff_eq.1 hf115))),hX24⟩
           ·first | omega |(dsimp only;omega)
          ·have hK56:=(((((((((((((((((((((((hFz1_1.ext hE1)).ext hE2)).ext hEw6)).ext hEw7)).chg hCw8 (fun hs=>by have h:_=_:=hs;omega))).ext hEw9)).ext hE3)).ext hEw11)).chg hCw12 (fun hs=>by have h:_=_:=hs;omega))).ext hEw13)).ext hX23)).ext hEw35)
           have hK57:=(((((((((((((((((((((((hFz1_2.ext hE1)).ext hE2)).ext hEw6)).ext hEw7)).chg hCw8 (fun hs=>by have h:_=_:=hs;omega))).ext hEw9)).ext hE3)).ext hEw11)).chg hCw12 (fun hs=>by have h:_=_:=hs;omega))).ext hEw13)).ext hX23)).ext hEw35)
           have hK58:=(((((((hK45.ext hEw32)).ext hEw33)).chg hCw34 (fun k h1 h2 hs=>by have h:k=_:=hs;omega))).ext hEw35)
           have hK59:=(((((((((((((((((((((((hFz1_3.ext hE1)).ext hE2)).ext hEw6)).ext hEw7)).chg hCw8 (fun hs=>by have h:_=_:=hs;omega))).ext hEw9)).ext hE3)).ext hEw11)).chg hCw12 (fun hs=>by have h:_=_:=hs;omega))).ext hEw13)).ext hX23)).ext hEw35)
           refine zz 7 255 (zl (some 105) (zd6 (v-1) (4*j+x) a1 a1y n a1z _ hK56 (((hK47.ext hX23)).ext hEw35) hK57 hK58 hK59 (by first | rfl | assumption) (by omega) (by omega) (by omega) (by omega) (by omega)) ?_)
           rintro _ w37 ⟨rfl,hEw37⟩
           have hzw37:=hEw37.size
           rw [show emP n t (v-1) (4*j+x)=false from he]
           refine ⟨.inr hEw37, ?_⟩
           refine zh (hw:=hEw37) hT786 [(8,106,vT),(9,107,vT),(10,108,undef),(11,109,undef),(12,110,undef),(13,111,undef),(14,112,undef),(15,113,undef),(16,114,undef),(17,115,undef),(18,116,undef),(19,117,vT)] 12 1048575 (zJ (zb (zC (ze (zd (zc 4 [(4,(.iface 198 (vA [(vI (num n v+j)),(vI 9)]))),(120,(.iface 198 (vA [(vI (num n v+j)),(vI 9)]))),(119,(vA [(vI (num n v+j)),(vI 9)])),(118,(vI (num n v+j)))] (zf (zb (zq ?_)))))))))
           refine zG (zD (zD (zG (zG (zD (zD (zG (zG (zD ?_)))))))))
           refine zD (zG (zD (zr (.iface 198 (vA [(vI (num n v+j)),(vI 9)])) ?_)))
           have hX25:Ext w w37:=(((((Ext.own ((((Ext.own ((((((hEw1.trans hEw2).trans hEw3).trans hE1).trans hE2).trans hEw6).trans hEw7) hCw8 (by omega)).trans hEw9).trans hE3).trans hEw11) hCw12 (by omega)).trans hEw13).trans hX23).trans hEw35).trans hEw37)
           exact ⟨_,by rw [zcl hok2 (by omega) hjc (zde hnm (by omega) hen hxw (zel (fun hh=>by have h1:(zaE (zbq n t) (v-1) (4*j+x)=true↔((t.getD (num n v+j) Nod.zero).es.get x).st=0):=hh;rw [←hem,he] at h1;simp only [Bool.false_eq_true,false_iff,true_iff] at h1;exact absurd hf100 (by omega)))) (by decide),zb7 (by decide)],hX25⟩
         ·refine zg hT786 2 7 (some 100) vF (zaD (((((t.getD (num n v+j) Nod.zero).es.get x).st:Nat):Int)==((0:Nat):Int)) (zcc (by omega))) (zh hT786 [(3,101,(.func (.func 141) #[] #[(vP a1 0),(vP a1y 0),(vP a1z 0)])),(4,102,(vI v))] 2 31 (zg hT786 5 63 (some 103) (vI (v-1)) (zaa .i64 (IntKind.i64.wrap (((v:Nat):Int)-((1:Nat):Int))) (zA (by omega) (by omega) (by omega))) (zh hT786 [(6,104,(vI (4*j+x)))] 1 127 ?_)))
          rcases (show emP n t (v-1) (4*j+x)=true∨emP n t (v-1) (4*j+x)=false by cases emP n t (v-1) (4*j+x)<;>simp) with he | he
          ·have hK60:=(((((((((((((((((((((((hFz1_1.ext hE1)).ext hE2)).ext hEw6)).ext hEw7)).chg hCw8 (fun hs=>by have h:_=_:=hs;omega))).ext hEw9)).ext hE3)).ext hEw11)).chg hCw12 (fun hs=>by have h:_=_:=hs;omega))).ext hEw13)).ext hX23)).ext hEw35)
           have hK61:=(((((((((((((((((((((((hFz1_2.ext hE1)).ext hE2)).ext hEw6)).ext hEw7)).chg hCw8 (fun hs=>by have h:_=_:=hs;omega))).ext hEw9)).ext hE3)).ext hEw11)).chg hCw12 (fun hs=>by have h:_=_:=hs;omega))).ext hEw13)).ext hX23)).ext hEw35)
           have hK62:=(((((((hK45.ext hEw32)).ext hEw33)).chg hCw34 (fun k h1 h2 hs=>by have h:k=_:=hs;omega))).ext hEw35)
           have hK63:=(((((((((((((((((((((((hFz1_3.ext hE1)).ext hE2)).ext hEw6)).ext hEw7)).chg hCw8 (fun hs=>by have h:_=_:=hs;omega))).ext hEw9)).ext hE3)).ext hEw11)).chg hCw12 (fun hs=>by have h:_=_:=hs;omega))).ext hEw13)).ext hX23)).ext hEw35)
           refine zz 7 255 (zl (some 105) (zd6 (v-1) (4*j+x) a1 a1y n a1z _ hK60 (((hK47.ext hX23)).ext hEw35) hK61 hK62 hK63 (by first | rfl | assumption) (by omega) (by omega) (by omega) (by omega) (by omega)) ?_)
           rintro _ w38 ⟨rfl,hEw38⟩
           have hzw38:=hEw38.size
           rw [show emP n t (v-1) (4*j+x)=true from he]
           refine ⟨.inr hEw38, ?_⟩
           refine zh (hw:=hEw38) hT786 [(8,106,vT),(9,107,vT),(10,108,undef),(11,109,undef),(12,110,undef),(13,111,undef),(14,112,undef),(15,113,undef),(16,114,undef),(17,115,undef),(18,116,undef),(19,117,vT)] 12 1048575 (zJ (zb (zC (ze (zd (zc 4 [(4,(.iface 198 (vA [(vI (num n v+j)),(vI 9)]))),(120,(.iface 198 (vA [(vI (num n v+j)),(vI 9)]))),(119,(vA [(vI (num n v+j)),(vI 9)])),(118,(vI (num n v+j)))] (zf (zb (zq ?_)))))))))
           refine zG (zD (zD (zG (zG (zD (zD (zG (zG (zD ?_)))))))))
           refine zD (zG (zD (zr (.iface 198 (vA [(vI (num n v+j)),(vI 9)])) ?_)))
           have hX26:Ext w w38:=(((((Ext.own ((((Ext.own ((((((hEw1.trans hEw2).trans hEw3).trans hE1).trans hE2).trans hEw6).trans hEw7) hCw8 (by omega)).trans hEw9).trans hE3).trans hEw11) hCw12 (by omega)).trans hEw13).trans hX23).trans hEw35).trans hEw38)
           exact ⟨_,by rw [zcl hok2 (by omega) hjc (zde hnm (by omega) hen hxw (zel (fun hh=>by have h1:(zaE (zbq n t) (v-1) (4*j+x)=true↔((t.getD (num n v+j) Nod.zero).es.get x).st=0):=hh;rw [←hem,he] at h1;simp only [Bool.false_eq_true,false_iff,true_iff] at h1;exact absurd hf100 (by omega)))) (by decide),zb7 (by decide)],hX26⟩
          ·have hK64:=(((((((((((((((((((((((hFz1_1.ext hE1)).ext hE2)).ext hEw6)).ext hEw7)).chg hCw8 (fun hs=>by have h:_=_:=hs;omega))).ext hEw9)).ext hE3)).ext hEw11)).chg hCw12 (fun hs=>by have h:_=_:=hs;omega))).ext hEw13)).ext hX23)).ext hEw35)
           have hK65:=(((((((((((((((((((((((hFz1_2.ext hE1)).ext hE2)).ext hEw6)).ext hEw7)).chg hCw8 (fun hs=>by have h:_=_:=hs;omega))).ext hEw9)).ext hE3)).ext hEw11)).chg hCw12 (fun hs=>by have h:_=_:=hs;omega))).ext hEw13)).ext hX23)).ext hEw35)
           have hK66:=(((((((hK45.ext hEw32)).ext hEw33)).chg hCw34 (fun k h1 h2 hs=>by have h:k=_:=hs;omega))).ext hEw35)
           have hK67:=(((((((((((((((((((((((hFz1_3.ext hE1)).ext hE2)).ext hEw6)).ext hEw7)).chg hCw8 (fun hs=>by have h:_=_:=hs;omega))).ext hEw9)).ext hE3)).ext hEw11)).chg hCw12 (fun hs=>by have h:_=_:=hs;omega))).ext hEw13)).ext hX23)).ext hEw35)
           refine zz 7 255 (zl (some 105) (zd6 (v-1) (4*j+x) a1 a1y n a1z _ hK64 (((hK47.ext hX23)).ext hEw35) hK65 hK66 hK67 (by first | rfl | assumption) (by omega) (by omega) (by omega) (by omega) (by omega)) ?_)
           rintro _ w39 ⟨rfl,hEw39⟩
           have hzw39:=hEw39.size
           rw [show emP n t (v-1) (4*j+x)=false from he]
           refine ⟨.inr hEw39, ?_⟩
           refine zh (hw:=hEw39) hT786 [(8,106,vF),(9,107,vF),(10,108,(vP w10.heap.size 0))] 3 2047 (zg (hw:=hEw39) hT786 11 4095 (some 109) (vB (((t.getD (num n v+j) Nod.zero).es.get x).st)) (zi (Instr.loadAt 5 (vP w10.heap.size 0)) (fun w' hC=>zk ((hK51.ext hC).cell rfl))) (zg (hw:=hEw39) hT786 12 8191 (some 110) vT (zaD (((((t.getD (num n v+j) Nod.zero).es.get x).st:Nat):Int) !=((0:Nat):Int)) (zcp (by omega))) (zh (hw:=hEw39) hT786 [(13,111,vT),(14,112,(vP w10.heap.size 1))] 2 32767 (zg (hw:=hEw39) hT786 15 65535 (some 113) (vA (zO ((t.getD (num n v+j) Nod.zero).es.get x).dg)) (zi (Instr.loadAt 59 (vP w10.heap.size 1)) (fun w' hC=>zw (vs:=zO ((t.getD (num n v+j) Nod.zero).es.get x).dg) ((hK51.ext hC).at 1 (zO ((t.getD (num n v+j) Nod.zero).es.get x).dg) (zfy _)) (by rw [zal];kernel_rfl))) (zg (hw:=hEw39) hT786 16 131071 (some 114) (vA (zO (zU (zS (t.getD (num n (v-1)+(4*j+x)) Nod.zero))))) (zi (Instr.loadAt 59 (vP w13.heap.size 0)) (fun w' hC=>zw (vs:=zO (zU (zS (t.getD (num n (v-1)+(4*j+x)) Nod.zero)))) (((hBw34.ext hEw35).ext hC).all) (by rw [zal];kernel_rfl))) ?_)))))
           rcases Bool.eq_false_or_eq_true (((t.getD (num n v+j) Nod.zero).es.get x).dg.l==(zU (zS (t.getD (num n (v-1)+(4*j+x)) Nod.zero))).l) with hf115 | hf115
           ·refine zg (hw:=hEw39) hT786 17 262143 (some 115) vF (zi (bo .neq 59 (.tmp 113) (.tmp 114) (vA (zO ((t.getD (num n v+j) Nod.zero).es.get x).dg)) (vA (zO (zU (zS (t.getD (num n (v-1)+(4*j+x)) Nod.zero)))))) (fun w' hC=>zak (r:=true) (T:=59) ((zcq (dd:=9998) (t:=59) (e:=5) (((t.getD (num n v+j) Nod.zero).es.get x).dg) (zU (zS (t.getD (num n (v-1)+(4*j+x)) Nod.zero)))).trans (congrArg (fun b=>Result.ok b _) (show ((((t.getD (num n v+j) Nod.zero).es.get x).dg).l==(zU (zS (t.getD (num n (v-1)+(4*j+x)) Nod.zero))).l)=true from hf115))))) (zh (hw:=hEw39) hT786 [(18,116,vF),(19,117,vF)] 2 1048575 (zJ (zb (zn (zu (zp (zb (zd (zc 1 [(78,(vI (4*j+x)))] ?_)))))))))
            refine za (zt (some 79) .i64 (IntKind.i64.wrap (((4*j+x:Nat):Int)+((1:Nat):Int))) (4*j+x+1) (zA (by omega) (by omega) (by omega)) ?_)
            refine zc 1 [(11,(vI (4*j+x+1)))] (zf (zF ?_))
            have hX27:Ext w9 w39:=(((((Ext.own (hE3.trans hEw11) hCw12 (by omega)).trans hEw13).trans hX23).trans hEw35).trans hEw39)
            refine zR (x+1) ?_ ?_
            ·exact ⟨by omega,zce hen (zfi (show (zaE (zbq n t) (v-1) (4*j+x)=true↔((t.getD (num n v+j) Nod.zero).es.get x).st=0) by rw [←hem];first |(simp only [he,iff_true,true_iff];omega)|(simp only [he,Bool.false_eq_true,iff_false,false_iff];omega)) (show ((t.getD (num n v+j) Nod.zero).es.get x).st=0∨_ from by first |(left;omega)|(right;exact beq_iff_eq.1 hf115))),hX27⟩
            ·first | omega |(dsimp only;omega)
           ·refine zg (hw:=hEw39) hT786 17 262143 (some 115) vT (zi (bo .neq 59 (.tmp 113) (.tmp 114) (vA (zO ((t.getD (num n v+j) Nod.zero).es.get x).dg)) (vA (zO (zU (zS (t.getD (num n (v-1)+(4*j+x)) Nod.zero)))))) (fun w' hC=>zak (r:=false) (T:=59) ((zcq (dd:=9998) (t:=59) (e:=5) (((t.getD (num n v+j) Nod.zero).es.get x).dg) (zU (zS (t.getD (num n (v-1)+(4*j+x)) Nod.zero)))).trans (congrArg (fun b=>Result.ok b _) (show ((((t.getD (num n v+j) Nod.zero).es.get x).dg).l==(zU (zS (t.getD (num n (v-1)+(4*j+x)) Nod.zero))).l)=false from hf115))))) (zh (hw:=hEw39) hT786 [(18,116,vT),(19,117,vT)] 2 1048575 (zJ (zb (zC (ze (zd (zc 4 [(4,(.iface 198 (vA [(vI (num n v+j)),(vI 9)]))),(120,(.iface 198 (vA [(vI (num n v+j)),(vI 9)]))),(119,(vA [(vI (num n v+j)),(vI 9)])),(118,(vI (num n v+j)))] (zf (zb ?_)))))))))
            refine zq (zG (zD (zD (zG (zG (zD (zD (zG (zG ?_)))))))))
            refine zD (zD (zG (zD (zr (.iface 198 (vA [(vI (num n v+j)),(vI 9)])) ?_))))
            have hX28:Ext w w39:=(((((Ext.own ((((Ext.own ((((((hEw1.trans hEw2).trans hEw3).trans hE1).trans hE2).trans hEw6).trans hEw7) hCw8 (by omega)).trans hEw9).trans hE3).trans hEw11) hCw12 (by omega)).trans hEw13).trans hX23).trans hEw35).trans hEw39)
            exact ⟨_,by rw [zcl hok2 (by omega) hjc (zde hnm (by omega) hen hxw (zgC (show ¬((t.getD (num n v+j) Nod.zero).es.get x).st=0 from hf100) (by rw [←beq_iff_eq];intro hh;rw [show (((ndA n t v j).es.get x).dg.l==(zU (zS (ndA n t (v-1) (4*j+x)))).l)=false from hf115] at hh;cases hh))) (by decide),zb7 (by decide)],hX28⟩
       ·replace hc77:¬(4*j+x<min (4*(j+1)) (gt c (v-1))):=by have:=zae hc77;omega
        have hdone:zcx n t v j=0:=znD hnm (by omega) hen (by rcases Nat.lt_or_ge x (prt n v j) with hh | hh;exact absurd ((hlw (by omega)).1 hh) (by omega);exact hh)
        refine zf (zb (zn (zW (zx (zx (zL (zp (zb (zd ?_)))))))))
        refine za (zt (some 121) .i64 (IntKind.i64.wrap (((j:Nat):Int)+((1:Nat):Int))) (j+1) (zA (by omega) (by omega) (by omega)) ?_)
        refine zc 1 [(28,(vI (j+1)))] (zf (zF ?_))
        have hX29:Ext w4 w10:=(((Ext.own ((hE2.trans hEw6).trans hEw7) hCw8 (by omega)).trans hEw9).trans hE3)
        refine zR (j+1) ?_ ?_
        ·exact ⟨by omega,zjP hok2 hdone,hX29⟩
        ·first | omega |(dsimp only;omega)
  ·replace hc29:¬(j<gt c v):=by have:=zae hc29;omega
   obtain rfl:j=cnt n v:=by omega
   refine zf (zb (ze (zn (zW (zx (zx (zL (zp (zb ?_)))))))))
   refine zd (za (zt (some 122) .i64 (IntKind.i64.wrap (((v:Nat):Int)+((1:Nat):Int))) (v+1) (zA (by omega) (by omega) (by omega)) ?_))
   refine zc 1 [(22,(vI (v+1)))] (zf (zF (zR (v+1) ?_ ?_)))
   ·exact ⟨by omega,zoi hok2,(hE1.trans hE2)⟩
   ·first | omega |(dsimp only;omega)
 ·replace hc23:¬(v<n_c):=by have:=zae hc23;omega
  obtain rfl:v=hgt n+1:=by omega
  refine zf (zb (ze (zn (zW (zx (zx (zL (zb (ze ?_)))))))))
  refine zd (zc 1 [(4, .nilIface)] (zf (zb (zq (zr .nilIface ?_)))))
  have hX30:Ext w w4:=(((hEw1.trans hEw2).trans hEw3).trans hE1)
  exact ⟨0,by rw [zpG hok];rfl,hX30⟩
end Go.Proofs.YtkmhgepdhilllaaGreatDoor
namespace Go.Proofs.YtkmhgepdhilllaaGreatDoor
open Go Go.RowKit Go.Cs
set_option maxRecDepth 100000
theorem zrC (n:Nat) {lo_t hi_t:Nat} {a_t:Option Addr} {n_t c_t:Nat} {t:List Nod} (w:World) (h_t:Ms zH 274 lo_t hi_t w a_t n_t c_t t) (hp0:1≤n) (hp1:n≤4096) (hp2:n_t=tot n) (hg0:Gl 0 [vI 45,vI 33] w) (hg1:Gl 1 (w8C za6) w) (hg2:Gl 3 (zar kA) w) (hg3:Gl 2 [.iface 227 (.agg #[.pointer (some ⟨4,160,none⟩)])] w):
  Calls Tryz.prog 71 #[(vA [(vI n),(.slice a_t n_t c_t)])] w (Ret fun r w'=>∃a1 ca1 a2 ca2,r=(.tuple #[(vA [(vI n),(.slice a1 (hgt n+1) ca1),(.slice a2 (hgt n+1) ca2)]),(vI (zct n t))])∧Es (nv .i64) w.heap.size w'.heap.size w' a1 (hgt n+1) ca1 (zaI n (hgt n+1))∧Es (nv .i64) w.heap.size w'.heap.size w' a2 (hgt n+1) ca2 (za0 n (hgt n+1))∧Ext w w'):=by
 refine zI (n:=28) (σ:= [(0,(vA [(vI n),(.slice a_t n_t c_t)]))]) Tryz.func71 rfl ?_
 replace h_t:=h_t.now;have hle_t:=h_t.le
 have hgl0:=hg0.lt
 have hgl1:=hg1.lt
 have hgl2:=hg2.lt
 have hgl3:=hg3.lt
 have h5:=zat n
 have hlt:=h_t.len_eq
 have hts:=zaw hp1
 refine ze (zd (za (zo (some 1) (Instr.box 44 (vA [(vI n),(.slice a_t n_t c_t)])) (vP w.heap.size 0) ([(vI n),(.slice a_t n_t c_t)]) 44 ?_)))
 intro w1 hBw1 hEw1
 have hzw1:=hEw1.size;have hlw1:=hBw1.lt
 refine za (zo (some 2) (Instr.alloc 128 true (.tuple #[])) (vP w1.heap.size 0) ([(vI 0),(.slice none 0 0),(.slice none 0 0)]) 128 ?_)
 intro w2 hBw2 hEw2
 have hzw2:=hEw2.size;have hlw2:=hBw2.lt
 refine zc 1 [(3,(vI 0))] (zf (zb (ze (zd (zc 1 [(7,(vP w.heap.size 0))] (za (zj (some 8) (Instr.loadAt 3 (vP w.heap.size 0)) (vI n) (zk ((hBw1.ext hEw2).cell rfl)) ?_)))))))
 refine za (zl (some 9) (zmU n _ (by omega) (by omega)) ?_)
 rintro _ w3 ⟨a1,ca1,a2,ca2,rfl,hFz1_0,hFz1_1,hEw3⟩
 have hzw3:=hEw3.size
 have hlea1:=hFz1_0.le
 have hlea2:=hFz1_1.le
 refine zc 3 [(11,(vI 0)),(10,(vA [(vI n),(.slice a1 (hgt n+1) ca1),(.slice a2 (hgt n+1) ca2)])),(6,(.tuple #[(vA [(vI n),(.slice a1 (hgt n+1) ca1),(.slice a2 (hgt n+1) ca2)]),(vI 0)]))] (za (zo (some 4) (Instr.alloc 128 true (.tuple #[])) (vP w3.heap.size 0) ([(vI 0),(.slice none 0 0),(.slice none 0 0)]) 128 ?_))
 intro w4 hBw4 hEw4
 have hzw4:=hEw4.size;have hlw4:=hBw4.lt
 refine za (zv 128 w3.heap.size 0 128 (vA [(vI n),(.slice a1 (hgt n+1) ca1),(.slice a2 (hgt n+1) ca2)]) ([(vI 0),(.slice none 0 0),(.slice none 0 0)]) ([(vI n),(.slice a1 (hgt n+1) ca1),(.slice a2 (hgt n+1) ca2)]) hBw4 (by kernel_rfl) (by first | decide |(simp;done)|(simp;omega)) (by simp [Value.oneCell']) ?_)
 intro w5 hBw5 hCw5
 have hzw5:=hCw5.size
 rw [zm _ _ (by kernel_rfl)] at hBw5
 refine zc 1 [(5,(vI 0))] (zf (zb (ze (ze (zd (zc 1 [(12,(vI 0))] (za (zai (some 13) (((0:Nat):Int) !=((0:Nat):Int)) false (zaA (by omega)) ?_))))))))
 refine zf (zb (zn (zu (zb (ze (ze (zT (Ext w5.drew) 6 [(17,2,0),(18,65536,1),(19,131072,2),(20,16,0),(21,524288,8),(22,1310720,20)] (fun hT54=> ?_))))))))
 have hEw6:Ext w5 w5.drew:=Ext.drew w5
 generalize w5.drew=w6 at hEw6⊢
 have hzw6:=hEw6.size
 refine zh hT54 [(0,16,(vP w.heap.size 1))] 1 1 ?_
 have hK1:=(((((((((hBw1.ext hEw2)).ext hEw3)).ext hEw4)).chg hCw5 (fun hs=>by have h:_=_:=hs;omega))).ext hEw6)
 refine zg hT54 1 3 (some 17) (.slice a_t n_t c_t) (zi (Instr.loadAt 42 (vP w.heap.size 1)) (fun w' hC=>zk ((hK1.ext hC).cell rfl))) (zh hT54 [(2,18,(vI n_t))] 1 7 (zg hT54 3 15 (some 19) (vA [(vI n),(.slice a1 (hgt n+1) ca1),(.slice a2 (hgt n+1) ca2)]) (zi (Instr.loadAt 128 (vP w3.heap.size 0)) (fun w' hC=>zw (vs:= [(vI n),(.slice a1 (hgt n+1) ca1),(.slice a2 (hgt n+1) ca2)]) (((hBw5.ext hEw6).ext hC).all))) ?_))
 have hK2:=(((((hFz1_0.ext hEw4)).chg hCw5 (fun k h1 h2 hs=>by have h:k=_:=hs;omega))).ext hEw6)
 have hK3:=(((((hFz1_1.ext hEw4)).chg hCw5 (fun k h1 h2 hs=>by have h:k=_:=hs;omega))).ext hEw6)
 refine zz 4 31 (zl (some 20) (zf8 n _ hK2 hK3 (by first | rfl | assumption) (by first | rfl | assumption) (by omega) (by omega)) ?_)
 rintro _ w7 ⟨rfl,hEw7⟩
 have hzw7:=hEw7.size
 refine ⟨.inr hEw7, ?_⟩
 refine zg (hw:=hEw7) hT54 5 63 (some 21) vF (zaD (((n_t:Nat):Int) !=((tot n:Nat):Int)) (zaA (by omega))) (zJ (zb (zn (zu (zb (ze (zT (Chg (fun k=>k=w1.heap.size) w7.drew) 7 [(24,16,0),(25,16,0),(26,2,0),(27,50331648,6),(28,67108864,8),(0,8388612,17),(4,134217728,63)] (fun hT76=> ?_))))))))
 have hEw8:Ext w7 w7.drew:=Ext.drew w7
 generalize w7.drew=w8 at hEw8⊢
 have hzw8:=hEw8.size
 have hK4:=(((((hBw5.ext hEw6)).ext hEw7)).ext hEw8)
 have hX1:Chg (fun k=>k=w1.heap.size) w8 w8:=(Chg.refl (fun k=>k=w1.heap.size) w8)
 refine zg (hw:=hX1) hT76 0 1 (some 23) (vA [(vI n),(.slice a1 (hgt n+1) ca1),(.slice a2 (hgt n+1) ca2)]) (zi (Instr.loadAt 128 (vP w3.heap.size 0)) (fun w' hC=>zw (vs:= [(vI n),(.slice a1 (hgt n+1) ca1),(.slice a2 (hgt n+1) ca2)]) ((hK4.chg hC (fun hs=>by have h:_=_:=hs;omega)).all))) (zg (hw:=hX1) hT76 1 3 (some 24) (vA [(vI n),(.slice a1 (hgt n+1) ca1),(.slice a2 (hgt n+1) ca2)]) (zi (Instr.loadAt 128 (vP w3.heap.size 0)) (fun w' hC=>zw (vs:= [(vI n),(.slice a1 (hgt n+1) ca1),(.slice a2 (hgt n+1) ca2)]) ((hK4.chg hC (fun hs=>by have h:_=_:=hs;omega)).all))) (zg (hw:=hX1) hT76 2 7 (some 25) (vA [(vI n),(.slice a_t n_t c_t)]) (zi (Instr.loadAt 44 (vP w.heap.size 0)) (fun w' hC=>zw (vs:= [(vI n),(.slice a_t n_t c_t)]) (((((hK1.ext hEw7)).ext hEw8).chg hC (fun hs=>by have h:_=_:=hs;omega)).all))) ?_))
 have hK5:=(((((((((((((((h_t.ext hEw1)).ext hEw2)).ext hEw3)).ext hEw4)).chg hCw5 (fun k h1 h2 hs=>by have h:k=_:=hs;omega))).ext hEw6)).ext hEw7)).ext hEw8)
 have hK6:=(((((((((((((((hg0.ext hEw1)).ext hEw2)).ext hEw3)).ext hEw4)).chg hCw5 (fun hs=>by have h:_=_:=hs;omega))).ext hEw6)).ext hEw7)).ext hEw8)
 have hK7:=(((((((((((((((hg1.ext hEw1)).ext hEw2)).ext hEw3)).ext hEw4)).chg hCw5 (fun hs=>by have h:_=_:=hs;omega))).ext hEw6)).ext hEw7)).ext hEw8)
 have hK8:=(((((((((((((((hg2.ext hEw1)).ext hEw2)).ext hEw3)).ext hEw4)).chg hCw5 (fun hs=>by have h:_=_:=hs;omega))).ext hEw6)).ext hEw7)).ext hEw8)
 refine zz 3 15 (zl (some 26) (zrT n _ (((hK2.ext hEw7)).ext hEw8) (((hK3.ext hEw7)).ext hEw8) hK5 (by first | rfl | assumption) (by first | rfl | assumption) (by omega) (by omega) (by omega) hK6 hK7 hK8) ?_)
 rintro _ w9 ⟨a3,rfl,hEw9⟩
 have hzw9:=hEw9.size
 have hX2:Chg (fun k=>k=w1.heap.size) w8 w9:=((Chg.refl (fun k=>k=w1.heap.size) w8).trans hEw9.chg)
 refine ⟨.inr hX2, ?_⟩
 have hK9:=(((((((((((((((((hg3.ext hEw1)).ext hEw2)).ext hEw3)).ext hEw4)).chg hCw5 (fun hs=>by have h:_=_:=hs;omega))).ext hEw6)).ext hEw7)).ext hEw8)).ext hEw9)
 refine zz 4 31 (zl (some 27) (zsm a3 (zct n t) _ hK9) ?_)
 rintro _ w10 ⟨rfl,hEw10⟩
 have hzw10:=hEw10.size
 have hX3:Chg (fun k=>k=w1.heap.size) w8 w10:=(((Chg.refl (fun k=>k=w1.heap.size) w8).trans hEw9.chg).trans hEw10.chg)
 refine ⟨.inr hX3, ?_⟩
 have hK10:=(((((((((((((((hBw2.ext hEw3)).ext hEw4)).chg hCw5 (fun hs=>by have h:_=_:=hs;omega))).ext hEw6)).ext hEw7)).ext hEw8)).ext hEw9)).ext hEw10)
 refine zz 5 63 (zv 128 w1.heap.size 0 128 (vA [(vI n),(.slice a1 (hgt n+1) ca1),(.slice a2 (hgt n+1) ca2)]) ([(vI 0),(.slice none 0 0),(.slice none 0 0)]) ([(vI n),(.slice a1 (hgt n+1) ca1),(.slice a2 (hgt n+1) ca2)]) hK10 (by kernel_rfl) (by first | decide |(simp;done)|(simp;omega)) (by simp [Value.oneCell']) ?_)
 have hK11:=(((((((((((((((hBw2.ext hEw3)).ext hEw4)).chg hCw5 (fun hs=>by have h:_=_:=hs;omega))).ext hEw6)).ext hEw7)).ext hEw8)).ext hEw9)).ext hEw10)
 intro w11 hBw11 hCw11
 have hzw11:=hCw11.size
 rw [zm _ _ (by kernel_rfl)] at hBw11
 have hX4:Chg (fun k=>k=w1.heap.size) w8 w11:=(Chg.then (((Chg.refl (fun k=>k=w1.heap.size) w8).trans hEw9.chg).trans hEw10.chg) hCw11 (fun k hk hs=>by have h:k=_:=hs;first | exact hs | exact .inl h | exact .inr h |(exfalso;omega)))
 refine ⟨.inr hX4, ?_⟩
 refine zh (hw:=hX4) hT76 [(6,3,(vI (zct n t)))] 1 127 (zJ (zb (zq (zaX (show zZ Tryz.prog 28 _ _ (.cell 2 128) (vA [(vI n),(.slice a1 (hgt n+1) ca1),(.slice a2 (hgt n+1) ca2)]) from ⟨⟨w1.heap.size,0,none⟩,(by kernel_rfl),zN (T:=128) (vs:= [(vI n),(.slice a1 (hgt n+1) ca1),(.slice a2 (hgt n+1) ca2)]) (hBw11).all (by kernel_rfl)⟩) (show zZ Tryz.prog 28 _ _ (.tmp 3) (vI (zct n t)) by (show _=_;kernel_rfl)) ?_))))
 have hK12:=(((((((((hK2.ext hEw7)).ext hEw8)).ext hEw9)).ext hEw10)).chg hCw11 (fun k h1 h2 hs=>by have h:k=_:=hs;omega))
 have hK13:=(((((((((hK3.ext hEw7)).ext hEw8)).ext hEw9)).ext hEw10)).chg hCw11 (fun k h1 h2 hs=>by have h:k=_:=hs;omega))
 have hX5:Ext w w11:=(Ext.own ((((((Ext.own (((hEw1.trans hEw2).trans hEw3).trans hEw4) hCw5 (by omega)).trans hEw6).trans hEw7).trans hEw8).trans hEw9).trans hEw10) hCw11 (by omega))
 exact ⟨_,_,_,_,rfl,(hK12).now.mono (by omega) (Nat.le_refl _),(hK13).now.mono (by omega) (Nat.le_refl _),hX5⟩
theorem zoL (n:Nat) {lo_t hi_t:Nat} {a_t:Option Addr} {n_t c_t:Nat} {t:List Nod} (w:World) (h_t:Ms zH 274 lo_t hi_t w a_t n_t c_t t) (hp0:1≤n) (hp1:n≤4096) (hp2:n_t≠tot n):
  Calls Tryz.prog 71 #[(vA [(vI n),(.slice a_t n_t c_t)])] w (Ret fun r w'=>∃(a0:Int) (a1:Option Addr) (na1:Nat) (ca1:Nat) (a2:Option Addr) (na2:Nat) (ca2:Nat),r=(.tuple #[(vA [(.int .i64 a0),(.slice a1 na1 ca1),(.slice a2 na2 ca2)]),(vI 1)])∧Ext w w'):=by
 refine zI (n:=28) (σ:= [(0,(vA [(vI n),(.slice a_t n_t c_t)]))]) Tryz.func71 rfl ?_
 replace h_t:=h_t.now;have hle_t:=h_t.le
 have h5:=zat n
 refine ze (zd (za (zo (some 1) (Instr.box 44 (vA [(vI n),(.slice a_t n_t c_t)])) (vP w.heap.size 0) ([(vI n),(.slice a_t n_t c_t)]) 44 ?_)))
 intro w1 hBw1 hEw1
 have hzw1:=hEw1.size;have hlw1:=hBw1.lt
 refine za (zo (some 2) (Instr.alloc 128 true (.tuple #[])) (vP w1.heap.size 0) ([(vI 0),(.slice none 0 0),(.slice none 0 0)]) 128 ?_)
 intro w2 hBw2 hEw2
 have hzw2:=hEw2.size;have hlw2:=hBw2.lt
 refine zc 1 [(3,(vI 0))] (zf (zb (ze (zd (zc 1 [(7,(vP w.heap.size 0))] (za (zj (some 8) (Instr.loadAt 3 (vP w.heap.size 0)) (vI n) (zk ((hBw1.ext hEw2).cell rfl)) ?_)))))))
 refine za (zl (some 9) (zmU n _ (by omega) (by omega)) ?_)
 rintro _ w3 ⟨a1,ca1,a2,ca2,rfl,hFz1_0,hFz1_1,hEw3⟩
 have hzw3:=hEw3.size
 have hlea1:=hFz1_0.le
 have hlea2:=hFz1_1.le
 refine zc 3 [(11,(vI 0)),(10,(vA [(vI n),(.slice a1 (hgt n+1) ca1),(.slice a2 (hgt n+1) ca2)])),(6,(.tuple #[(vA [(vI n),(.slice a1 (hgt n+1) ca1),(.slice a2 (hgt n+1) ca2)]),(vI 0)]))] (za (zo (some 4) (Instr.alloc 128 true (.tuple #[])) (vP w3.heap.size 0) ([(vI 0),(.slice none 0 0),(.slice none 0 0)]) 128 ?_))
 intro w4 hBw4 hEw4
 have hzw4:=hEw4.size;have hlw4:=hBw4.lt
 refine za (zv 128 w3.heap.size 0 128 (vA [(vI n),(.slice a1 (hgt n+1) ca1),(.slice a2 (hgt n+1) ca2)]) ([(vI 0),(.slice none 0 0),(.slice none 0 0)]) ([(vI n),(.slice a1 (hgt n+1) ca1),(.slice a2 (hgt n+1) ca2)]) hBw4 (by kernel_rfl) (by first | decide |(simp;done)|(simp;omega)) (by simp [Value.oneCell']) ?_)
 intro w5 hBw5 hCw5
 have hzw5:=hCw5.size
 rw [zm _ _ (by kernel_rfl)] at hBw5
 refine zc 1 [(5,(vI 0))] (zf (zb (ze (ze (zd (zc 1 [(12,(vI 0))] (za (zai (some 13) (((0:Nat):Int) !=((0:Nat):Int)) false (zaA (by omega)) ?_))))))))
 refine zf (zb (zn (zu (zb (ze (ze (zT (Ext w5.drew) 6 [(17,2,0),(18,65536,1),(19,131072,2),(20,16,0),(21,524288,8),(22,1310720,20)] (fun hT128=> ?_))))))))
 have hEw6:Ext w5 w5.drew:=Ext.drew w5
 generalize w5.drew=w6 at hEw6⊢
 have hzw6:=hEw6.size
 refine zh hT128 [(0,16,(vP w.heap.size 1))] 1 1 ?_
 have hK1:=(((((((((hBw1.ext hEw2)).ext hEw3)).ext hEw4)).chg hCw5 (fun hs=>by have h:_=_:=hs;omega))).ext hEw6)
 refine zg hT128 1 3 (some 17) (.slice a_t n_t c_t) (zi (Instr.loadAt 42 (vP w.heap.size 1)) (fun w' hC=>zk ((hK1.ext hC).cell rfl))) (zh hT128 [(2,18,(vI n_t))] 1 7 (zg hT128 3 15 (some 19) (vA [(vI n),(.slice a1 (hgt n+1) ca1),(.slice a2 (hgt n+1) ca2)]) (zi (Instr.loadAt 128 (vP w3.heap.size 0)) (fun w' hC=>zw (vs:= [(vI n),(.slice a1 (hgt n+1) ca1),(.slice a2 (hgt n+1) ca2)]) (((hBw5.ext hEw6).ext hC).all))) ?_))
 have hK2:=(((((hFz1_0.ext hEw4)).chg hCw5 (fun k h1 h2 hs=>by have h:k=_:=hs;omega))).ext hEw6)
 have hK3:=(((((hFz1_1.ext hEw4)).chg hCw5 (fun k h1 h2 hs=>by have h:k=_:=hs;omega))).ext hEw6)
 refine zz 4 31 (zl (some 20) (zf8 n _ hK2 hK3 (by first | rfl | assumption) (by first | rfl | assumption) (by omega) (by omega)) ?_)
 rintro _ w7 ⟨rfl,hEw7⟩
 have hzw7:=hEw7.size
 refine ⟨.inr hEw7, ?_⟩
 refine zg (hw:=hEw7) hT128 5 63 (some 21) vT (zaD (((n_t:Nat):Int) !=((tot n:Nat):Int)) (zcp (by omega))) (zJ (zb (zC (ze (zd (za (zj (some 22) (Instr.loadAt 128 (vP w3.heap.size 0)) (vA [(vI n),(.slice a1 (hgt n+1) ca1),(.slice a2 (hgt n+1) ca2)]) (zw (vs:= [(vI n),(.slice a1 (hgt n+1) ca1),(.slice a2 (hgt n+1) ca2)]) ((((hBw5.ext hEw6)).ext hEw7).all)) ?_)))))))
 have hK4:=(((((((((hBw2.ext hEw3)).ext hEw4)).chg hCw5 (fun hs=>by have h:_=_:=hs;omega))).ext hEw6)).ext hEw7)
 refine za (zv 128 w1.heap.size 0 128 (vA [(vI n),(.slice a1 (hgt n+1) ca1),(.slice a2 (hgt n+1) ca2)]) ([(vI 0),(.slice none 0 0),(.slice none 0 0)]) ([(vI n),(.slice a1 (hgt n+1) ca1),(.slice a2 (hgt n+1) ca2)]) hK4 (by kernel_rfl) (by first | decide |(simp;done)|(simp;omega)) (by simp [Value.oneCell']) ?_)
 have hK5:=(((((((((hBw2.ext hEw3)).ext hEw4)).chg hCw5 (fun hs=>by have h:_=_:=hs;omega))).ext hEw6)).ext hEw7)
 intro w8 hBw8 hCw8
 have hzw8:=hCw8.size
 rw [zm _ _ (by kernel_rfl)] at hBw8
 refine zc 1 [(3,(vI 1))] (zf (zb (zq (zD (zaX (show zZ Tryz.prog 28 _ _ (.cell 2 128) (vA [(vI n),(.slice a1 (hgt n+1) ca1),(.slice a2 (hgt n+1) ca2)]) from ⟨⟨w1.heap.size,0,none⟩,(by kernel_rfl),zN (T:=128) (vs:= [(vI n),(.slice a1 (hgt n+1) ca1),(.slice a2 (hgt n+1) ca2)]) (hBw8).all (by kernel_rfl)⟩) (show zZ Tryz.prog 28 _ _ (.tmp 3) (vI 1) by (show _=_;kernel_rfl)) ?_)))))
 have hX1:Ext w w8:=(Ext.own (((Ext.own (((hEw1.trans hEw2).trans hEw3).trans hEw4) hCw5 (by omega)).trans hEw6).trans hEw7) hCw8 (by omega))
 exact ⟨_,_,_,_,_,_,_,rfl,hX1⟩
theorem zn7 (n:Int) {lo_t hi_t:Nat} {a_t:Option Addr} {n_t c_t:Nat} {t:List Nod} (w:World) (h_t:Ms zH 274 lo_t hi_t w a_t n_t c_t t) (hp0:¬(1≤n∧n≤4096)):
  Calls Tryz.prog 71 #[(vA [(.int .i64 n),(.slice a_t n_t c_t)])] w (Ret fun r w'=>∃(a0:Int) (a1:Option Addr) (na1:Nat) (ca1:Nat) (a2:Option Addr) (na2:Nat) (ca2:Nat),r=(.tuple #[(vA [(.int .i64 a0),(.slice a1 na1 ca1),(.slice a2 na2 ca2)]),(vI 1)])∧Ext w w'):=by
 refine zI (n:=28) (σ:= [(0,(vA [(.int .i64 n),(.slice a_t n_t c_t)]))]) Tryz.func71 rfl ?_
 replace h_t:=h_t.now;have hle_t:=h_t.le
 refine ze (zd (za (zo (some 1) (Instr.box 44 (vA [(.int .i64 n),(.slice a_t n_t c_t)])) (vP w.heap.size 0) ([(.int .i64 n),(.slice a_t n_t c_t)]) 44 ?_)))
 intro w1 hBw1 hEw1
 have hzw1:=hEw1.size;have hlw1:=hBw1.lt
 refine za (zo (some 2) (Instr.alloc 128 true (.tuple #[])) (vP w1.heap.size 0) ([(vI 0),(.slice none 0 0),(.slice none 0 0)]) 128 ?_)
 intro w2 hBw2 hEw2
 have hzw2:=hEw2.size;have hlw2:=hBw2.lt
 refine zc 1 [(3,(vI 0))] (zf (zb (ze (zd (zc 1 [(7,(vP w.heap.size 0))] (za (zj (some 8) (Instr.loadAt 3 (vP w.heap.size 0)) (.int .i64 n) (zk ((hBw1.ext hEw2).cell rfl)) ?_)))))))
 refine za (zl (some 9) (zo9 n _ (by omega)) ?_)
 rintro _ w3 ⟨a1,a2,rfl,hFz1_0,hFz1_1,hEw3⟩
 have hzw3:=hEw3.size
 have hlea1:=hFz1_0.le
 have hlea2:=hFz1_1.le
 refine zc 3 [(11,(vI 1)),(10,(vA [(vI 0),(.slice a1 0 0),(.slice a2 0 0)])),(6,(.tuple #[(vA [(vI 0),(.slice a1 0 0),(.slice a2 0 0)]),(vI 1)]))] (za (zo (some 4) (Instr.alloc 128 true (.tuple #[])) (vP w3.heap.size 0) ([(vI 0),(.slice none 0 0),(.slice none 0 0)]) 128 ?_))
 intro w4 hBw4 hEw4
 have hzw4:=hEw4.size;have hlw4:=hBw4.lt
 refine za (zv 128 w3.heap.size 0 128 (vA [(vI 0),(.slice a1 0 0),(.slice a2 0 0)]) ([(vI 0),(.slice none 0 0),(.slice none 0 0)]) ([(vI 0),(.slice a1 0 0),(.slice a2 0 0)]) hBw4 (by kernel_rfl) (by first | decide |(simp;done)|(simp;omega)) (by simp [Value.oneCell']) ?_)
 intro w5 hBw5 hCw5
 have hzw5:=hCw5.size
 rw [zm _ _ (by kernel_rfl)] at hBw5
 refine zc 1 [(5,(vI 1))] (zf (zb (ze (ze (zd (zc 1 [(12,(vI 1))] (za (zai (some 13) (((1:Nat):Int) !=((0:Nat):Int)) true (zcp (by omega)) ?_))))))))
 refine zf (zb (zC (ze (zd (za (zj (some 14) (Instr.loadAt 128 (vP w3.heap.size 0)) (vA [(vI 0),(.slice a1 0 0),(.slice a2 0 0)]) (zw (vs:= [(vI 0),(.slice a1 0 0),(.slice a2 0 0)]) (hBw5.all)) ?_))))))
 refine zc 1 [(15,(vI 1))] ?_
 have hK1:=(((((hBw2.ext hEw3)).ext hEw4)).chg hCw5 (fun hs=>by have h:_=_:=hs;omega))
 refine za (zv 128 w1.heap.size 0 128 (vA [(vI 0),(.slice a1 0 0),(.slice a2 0 0)]) ([(vI 0),(.slice none 0 0),(.slice none 0 0)]) ([(vI 0),(.slice a1 0 0),(.slice a2 0 0)]) hK1 (by kernel_rfl) (by first | decide |(simp;done)|(simp;omega)) (by simp [Value.oneCell']) ?_)
 have hK2:=(((((hBw2.ext hEw3)).ext hEw4)).chg hCw5 (fun hs=>by have h:_=_:=hs;omega))
 intro w6 hBw6 hCw6
 have hzw6:=hCw6.size
 rw [zm _ _ (by kernel_rfl)] at hBw6
 refine zc 1 [(3,(vI 1))] (zf (zb (zq (zD (zaX (show zZ Tryz.prog 28 _ _ (.cell 2 128) (vA [(vI 0),(.slice a1 0 0),(.slice a2 0 0)]) from ⟨⟨w1.heap.size,0,none⟩,(by kernel_rfl),zN (T:=128) (vs:= [(vI 0),(.slice a1 0 0),(.slice a2 0 0)]) (hBw6).all (by kernel_rfl)⟩) (show zZ Tryz.prog 28 _ _ (.tmp 3) (vI 1) by (show _=_;kernel_rfl)) ?_)))))
 have hX1:Ext w w6:=(Ext.own (Ext.own (((hEw1.trans hEw2).trans hEw3).trans hEw4) hCw5 (by omega)) hCw6 (by omega))
 exact ⟨_,_,_,_,_,_,_,rfl,hX1⟩
theorem zmu (n:Int) {lo_t hi_t:Nat} {a_t:Option Addr} {n_t c_t:Nat} {t:List Nod} (w:World) (h_t:Ms zH 274 lo_t hi_t w a_t n_t c_t t) (hp0:¬(1≤n∧n≤4096∧t.length=tot n.toNat)):
  Calls Tryz.prog 71 #[(vA [(.int .i64 n),(.slice a_t n_t c_t)])] w (Ret fun r w'=>∃(a0:Int) (a1:Option Addr) (na1:Nat) (ca1:Nat) (a2:Option Addr) (na2:Nat) (ca2:Nat),r=(.tuple #[(vA [(.int .i64 a0),(.slice a1 na1 ca1),(.slice a2 na2 ca2)]),(vI 1)])∧Ext w w'):=by
 have hlt:=h_t.len_eq
 by_cases h:1≤n∧n≤4096
 ·obtain ⟨m,rfl⟩:=Int.eq_ofNat_of_zero_le (show 0≤n by omega)
  exact zoL m w h_t (by omega) (by omega) (fun hh=>hp0 ⟨h.1,h.2,by rw [Int.toNat_natCast];omega⟩)
 ·exact zn7 n w h_t h
theorem zsq (n:Nat) {lo_t hi_t:Nat} {a_t:Option Addr} {n_t c_t:Nat} {t:List Nod} (w:World) (h_t:Ms zH 274 lo_t hi_t w a_t n_t c_t t) (hp0:1≤n) (hp1:n≤4096) (hp2:n_t=tot n) (hg0:Gl 0 [vI 45,vI 33] w) (hg1:Gl 1 (w8C za6) w) (hg2:Gl 3 (zar kA) w) (hg3:Gl 2 [.iface 227 (.agg #[.pointer (some ⟨4,160,none⟩)])] w):
  Calls Tryz.prog 44 #[(vA [(vI n),(.slice a_t n_t c_t)])] w (Ret fun r w'=>r=(vI (zct n t))∧Ext w w'):=by
 refine zI (n:=11) (σ:= [(0,(vA [(vI n),(.slice a_t n_t c_t)]))]) Tryz.func44 rfl ?_
 replace h_t:=h_t.now;have hle_t:=h_t.le
 have hgl0:=hg0.lt
 have hgl1:=hg1.lt
 have hgl2:=hg2.lt
 have hgl3:=hg3.lt
 refine ze (zd (za (zo (some 1) (Instr.box 44 (vA [(vI n),(.slice a_t n_t c_t)])) (vP w.heap.size 0) ([(vI n),(.slice a_t n_t c_t)]) 44 ?_)))
 intro w1 hBw1 hEw1
 have hzw1:=hEw1.size;have hlw1:=hBw1.lt
 refine zc 1 [(2,(vI 0))] (zf (zb (ze (zd (za (zj (some 6) (Instr.loadAt 44 (vP w.heap.size 0)) (vA [(vI n),(.slice a_t n_t c_t)]) (zw (vs:= [(vI n),(.slice a_t n_t c_t)]) (hBw1.all)) ?_))))))
 refine za (zl (some 7) (zrC n _ (h_t.ext hEw1) (by omega) (by omega) (by omega) (hg0.ext hEw1) (hg1.ext hEw1) (hg2.ext hEw1) (hg3.ext hEw1)) ?_)
 rintro _ w2 ⟨a1,ca1,a2,ca2,rfl,hFz1_0,hFz1_1,hEw2⟩
 have hzw2:=hEw2.size
 have hlea1:=hFz1_0.le
 have hlea2:=hFz1_1.le
 refine zc 3 [(9,(vI (zct n t))),(8,(vA [(vI n),(.slice a1 (hgt n+1) ca1),(.slice a2 (hgt n+1) ca2)])),(5,(.tuple #[(vA [(vI n),(.slice a1 (hgt n+1) ca1),(.slice a2 (hgt n+1) ca2)]),(vI (zct n t))]))] (za (zo (some 3) (Instr.alloc 128 true (.tuple #[])) (vP w2.heap.size 0) ([(vI 0),(.slice none 0 0),(.slice none 0 0)]) 128 ?_))
 intro w3 hBw3 hEw3
 have hzw3:=hEw3.size;have hlw3:=hBw3.lt
 refine za (zv 128 w2.heap.size 0 128 (vA [(vI n),(.slice a1 (hgt n+1) ca1),(.slice a2 (hgt n+1) ca2)]) ([(vI 0),(.slice none 0 0),(.slice none 0 0)]) ([(vI n),(.slice a1 (hgt n+1) ca1),(.slice a2 (hgt n+1) ca2)]) hBw3 (by kernel_rfl) (by first | decide |(simp;done)|(simp;omega)) (by simp [Value.oneCell']) ?_)
 intro w4 hBw4 hCw4
 have hzw4:=hCw4.size
 rw [zm _ _ (by kernel_rfl)] at hBw4
 refine zc 1 [(4,(vI (zct n t)))] (zf (zb (ze (zd (zc 2 [(2,(vI (zct n t))),(10,(vI (zct n t)))] (zf (zb (zq (zr (vI (zct n t)) ?_)))))))))
 have hX1:Ext w w4:=(Ext.own ((hEw1.trans hEw2).trans hEw3) hCw4 (by omega))
 exact ⟨rfl,hX1⟩
theorem zsf (n:Int) {lo_t hi_t:Nat} {a_t:Option Addr} {n_t c_t:Nat} {t:List Nod} (w:World) (h_t:Ms zH 274 lo_t hi_t w a_t n_t c_t t) (hp0:¬(1≤n∧n≤4096∧t.length=tot n.toNat)):
  Calls Tryz.prog 44 #[(vA [(.int .i64 n),(.slice a_t n_t c_t)])] w (Ret fun r w'=>r=(vI 1)∧Ext w w'):=by
 refine zI (n:=11) (σ:= [(0,(vA [(.int .i64 n),(.slice a_t n_t c_t)]))]) Tryz.func44 rfl ?_
 replace h_t:=h_t.now;have hle_t:=h_t.le
 refine ze (zd (za (zo (some 1) (Instr.box 44 (vA [(.int .i64 n),(.slice a_t n_t c_t)])) (vP w.heap.size 0) ([(.int .i64 n),(.slice a_t n_t c_t)]) 44 ?_)))
 intro w1 hBw1 hEw1
 have hzw1:=hEw1.size;have hlw1:=hBw1.lt
 refine zc 1 [(2,(vI 0))] (zf (zb (ze (zd (za (zj (some 6) (Instr.loadAt 44 (vP w.heap.size 0)) (vA [(.int .i64 n),(.slice a_t n_t c_t)]) (zw (vs:= [(.int .i64 n),(.slice a_t n_t c_t)]) (hBw1.all)) ?_))))))
 refine za (zl (some 7) (zmu n _ (h_t.ext hEw1) (by assumption)) ?_)
 rintro _ w2 ⟨a1,a2,na2,ca2,a3,na3,ca3,rfl,hEw2⟩
 have hzw2:=hEw2.size
 refine zc 3 [(9,(vI 1)),(8,(vA [(.int .i64 a1),(.slice a2 na2 ca2),(.slice a3 na3 ca3)])),(5,(.tuple #[(vA [(.int .i64 a1),(.slice a2 na2 ca2),(.slice a3 na3 ca3)]),(vI 1)]))] (za (zo (some 3) (Instr.alloc 128 true (.tuple #[])) (vP w2.heap.size 0) ([(vI 0),(.slice none 0 0),(.slice none 0 0)]) 128 ?_))
 intro w3 hBw3 hEw3
 have hzw3:=hEw3.size;have hlw3:=hBw3.lt
 refine za (zv 128 w2.heap.size 0 128 (vA [(.int .i64 a1),(.slice a2 na2 ca2),(.slice a3 na3 ca3)]) ([(vI 0),(.slice none 0 0),(.slice none 0 0)]) ([(.int .i64 a1),(.slice a2 na2 ca2),(.slice a3 na3 ca3)]) hBw3 (by kernel_rfl) (by first | decide |(simp;done)|(simp;omega)) (by simp [Value.oneCell']) ?_)
 intro w4 hBw4 hCw4
 have hzw4:=hCw4.size
 rw [zm _ _ (by kernel_rfl)] at hBw4
 refine zc 1 [(4,(vI 1))] (zf (zb (ze (zd (zc 2 [(2,(vI 1)),(10,(vI 1))] (zf (zb (zq (zr (vI 1) ?_)))))))))
 have hX1:Ext w w4:=(Ext.own ((hEw1.trans hEw2).trans hEw3) hCw4 (by omega))
 exact ⟨rfl,hX1⟩
theorem ztJ (n:Int) {lo_t hi_t:Nat} {a_t:Option Addr} {n_t c_t:Nat} {t:List Nod} (w:World) (h_t:Ms zH 274 lo_t hi_t w a_t n_t c_t t) (hg0:Gl 0 [vI 45,vI 33] w) (hg1:Gl 1 (w8C za6) w) (hg2:Gl 3 (zar kA) w) (hg3:Gl 2 [.iface 227 (.agg #[.pointer (some ⟨4,160,none⟩)])] w):
  Calls Tryz.prog 44 #[(vA [(.int .i64 n),(.slice a_t n_t c_t)])] w (Ret fun r w'=>r=(vI (zfD n t))∧Ext w w'):=by
 have hlt:=h_t.len_eq
 by_cases h:1≤n∧n≤4096∧t.length=tot n.toNat
 ·obtain ⟨m,rfl⟩:=Int.eq_ofNat_of_zero_le (show 0≤n by omega)
  have h2:=h.2.2;rw [Int.toNat_natCast] at h2
  rw [zhS (by omega) (by omega) h2];exact zsq m w h_t (by omega) (by omega) (by omega) hg0 hg1 hg2 hg3
 ·rw [zpz h];exact zsf n w h_t h
end Go.Proofs.YtkmhgepdhilllaaGreatDoor
namespace Go.Proofs.YtkmhgepdhilllaaGreatDoor
open Go Go.RowKit Go.Cs
set_option maxRecDepth 100000
theorem zgj (p:Nat) (w:World) (hp0:p≤1):
  Calls Tryz.prog 52 #[(vI p)] w (Ret fun r w'=>r=(.tuple #[(vB (p+1)),(vI 0)])∧Ext w w'):=by
 refine zI (n:=13) (σ:= [(0,(vI p))]) Tryz.func52 rfl ?_
 refine ze (zd (zc 2 [(3,(vI 0)),(2,(vB 0))] (zf (zb (ze (ze (zd (zc 1 [(4,(vI p))] (za (zK (some 5) ((((p:Nat):Int) !=((0:Nat):Int))) (fun hc5=> ?_) (fun hc5=> ?_)))))))))))
 ·replace hc5:¬(p=0):=by have:=zbE hc5;omega
  refine zc 2 [(7,(vI p)),(6,vT)] (za (zai (some 8) (((p:Nat):Int) !=((1:Nat):Int)) false (zaA (by omega)) ?_))
  refine zc 1 [(9,vF)] (zf (zb (zn (zu (zb (ze (zd (zc 1 [(10,(vI p))] (za (zt (some 11) .u8 (IntKind.u8.wrap ((p:Nat):Int)) p (zbm rfl rfl (by show _<2^8;omega)) ?_))))))))))
  refine za (zt (some 12) .u8 (IntKind.u8.wrap (((p:Nat):Int)+((1:Nat):Int))) (p+1) (zbm rfl rfl (by show _<2^8;omega)) ?_)
  exact zc 2 [(3,(vI 0)),(2,(vB (p+1)))] (zf (zb (zq (zr (.tuple #[(vB (p+1)),(vI 0)]) (⟨rfl,(Ext.refl _)⟩)))))
 ·replace hc5:p=0:=by have:=zbG hc5;omega
  refine zc 4 [(9,vF),(8,undef),(7,undef),(6,vF)] (zf (zb (zn (zu (zb (ze (zd (zc 1 [(10,(vI p))] (za (zt (some 11) .u8 (IntKind.u8.wrap ((p:Nat):Int)) p (zbm rfl rfl (by show _<2^8;omega)) ?_))))))))))
  refine za (zt (some 12) .u8 (IntKind.u8.wrap (((p:Nat):Int)+((1:Nat):Int))) (p+1) (zbm rfl rfl (by show _<2^8;omega)) ?_)
  exact zc 2 [(3,(vI 0)),(2,(vB (p+1)))] (zf (zb (zq (zr (.tuple #[(vB (p+1)),(vI 0)]) (⟨rfl,(Ext.refl _)⟩)))))
theorem zti (x:Int) (w:World) (hp0:x=0∨x=1):
  Calls Tryz.prog 60 #[(.int .i64 x)] w (Ret fun r w'=>r=vF∧Ext w w'):=by
 refine zI (n:=9) (σ:= [(0,(.int .i64 x))]) Tryz.func60 rfl ?_
 refine ze (zd (zc 1 [(2,vF)] (zf (zb (ze (zd (zc 1 [(3,(.int .i64 x))] (za (zK (some 4) ((x !=((0:Nat):Int))) (fun hc4=> ?_) (fun hc4=> ?_))))))))))
 ·replace hc4:¬(x=((0:Nat):Int)):=by have:=zbE hc4;omega
  refine zc 2 [(6,(.int .i64 x)),(5,vT)] (za (zai (some 7) (x !=((1:Nat):Int)) false (zaA (by omega)) ?_))
  exact zc 2 [(2,vF),(8,vF)] (zf (zb (zq (zr vF (⟨rfl,(Ext.refl _)⟩)))))
 ·replace hc4:x=((0:Nat):Int):=by have:=zbG hc4;omega
  exact zc 5 [(2,vF),(8,vF),(7,undef),(6,undef),(5,vF)] (zf (zb (zq (zr vF (⟨rfl,(Ext.refl _)⟩)))))
theorem ztb {lo_z hi_z:Nat} {a_z:Option Addr} {n_z c_z:Nat} {z:List Int} (w:World) (h_z:Es (iv .i64) lo_z hi_z w a_z n_z c_z z) (hp0:∀i,z.getD i 0=0∨z.getD i 0=1):
  Calls Tryz.prog 72 #[(.slice a_z n_z c_z),(.func (.func 60) #[] #[])] w (Ret fun r w'=>r=(.int .i64 (-1))∧Ext w w'):=by
 refine zI (n:=19) (σ:= [(0,(.slice a_z n_z c_z)),(1,(.func (.func 60) #[] #[]))]) Tryz.func72 rfl ?_
 replace h_z:=h_z.now;have hle_z:=h_z.le
 have hlz:=h_z.len_eq
 refine ze (zd (zc 1 [(4,(vI 0))] (zf (zb (ze (ze (zd (zc 3 [(8,(vI 0)),(7,(vI n_z)),(6,(.slice a_z n_z c_z))] (zf ?_)))))))))
 refine zb (zy (zY (X:=Nat) (fun k=> [(8,(vI k))]) [4,5,9,10,11,12,13,14,15,16,17,18] (fun k w1=>k≤n_z∧Ext w w1) (fun k=>n_z-k) 0 (by kernel_rfl) ⟨Nat.zero_le _,(Ext.refl _)⟩ ?_))
 rintro k dw1 w1 ⟨hk,hEl⟩
 have hzl:=hEl.size
 refine ze (zd (za (zK (some 9) (decide (((k:Nat):Int)<((n_z:Nat):Int))) (fun hc9=> ?_) (fun hc9=> ?_))))
 ·replace hc9:k<n_z:=by have:=zaf hc9;omega
  refine zf (zb (ze (zC (zu (zb (ze (zy (ze (zd ?_)))))))))
  refine zc 2 [(5,(vI k)),(10,(vI k))] (zf (zb (ze (zd (zc 3 [(13,(vI k)),(12,(.slice a_z n_z c_z)),(11,(.func (.func 60) #[] #[]))] ?_)))))
  obtain ⟨b1,o1,rfl⟩:=h_z.addr (by omega)
  refine za (zj (some 14) (Instr.indexAt 29 (.slice (pA b1 o1) n_z c_z) (vI k)) (vP b1 (o1+k*1)) (zP (E:=3) (sz:=1) (by omega)) ?_)
  refine za (zj (some 15) (Instr.loadAt 3 (vP b1 (o1+k*1))) (.int .i64 (gz z k)) (zk ((h_z.ext hEl).celli (by omega))) ?_)
  refine za (zl (some 16) (zti (gz z k) _ (hp0 k)) ?_)
  rintro _ w2 ⟨rfl,hEw2⟩
  have hzw2:=hEw2.size
  refine zf (zb (zn (zu (zp (zb (zd (za (zt (some 18) .i64 (IntKind.i64.wrap (((k:Nat):Int)+((1:Nat):Int))) (k+1) (zA (by omega) (by omega) (by omega)) ?_))))))))
  refine zc 1 [(8,(vI (k+1)))] (zf (zF (zR (k+1) ?_ ?_)))
  ·exact ⟨by omega,(hEl.trans hEw2)⟩
  ·first | omega |(dsimp only;omega)
 ·replace hc9:¬(k<n_z):=by have:=zae hc9;omega
  refine zf (zb (ze (zn (zW (zx (zx (zL (zb (ze ?_)))))))))
  exact zd (zc 1 [(4,(.int .i64 (-1)))] (zf (zb (zq (zr (.int .i64 (-1)) (⟨rfl,hEl⟩))))))
theorem zss {lo_z hi_z:Nat} {a_z:Option Addr} {n_z c_z:Nat} {z:List Int} (w:World) (h_z:Es (iv .i64) lo_z hi_z w a_z n_z c_z z) (hp0:∀i,z.getD i 0=0∨z.getD i 0=1):
  Calls Tryz.prog 45 #[(.slice a_z n_z c_z),(.func (.func 60) #[] #[])] w (Ret fun r w'=>r=vF∧Ext w w'):=by
 refine zI (n:=9) (σ:= [(0,(.slice a_z n_z c_z)),(1,(.func (.func 60) #[] #[]))]) Tryz.func45 rfl ?_
 replace h_z:=h_z.now;have hle_z:=h_z.le
 refine ze (zd (zc 1 [(4,vF)] (zf (zb (ze (zd (zc 2 [(6,(.func (.func 60) #[] #[])),(5,(.slice a_z n_z c_z))] (za (zl (some 7) (ztb _ h_z (by assumption)) ?_)))))))))
 rintro _ w1 ⟨rfl,hEw1⟩
 have hzw1:=hEw1.size
 refine za (zai (some 8) (decide (-1≥((0:Nat):Int))) false (zcu (by omega)) ?_)
 exact zc 1 [(4,vF)] (zf (zb (zq (zr vF (⟨rfl,hEw1⟩)))))
end Go.Proofs.YtkmhgepdhilllaaGreatDoor
namespace Go.Proofs.YtkmhgepdhilllaaGreatDoor
open Go Go.RowKit Go.Cs
set_option maxRecDepth 100000
set_option maxHeartbeats 8000000 in
theorem zqQ (n:Nat) {lo_l hi_l:Nat} {a_l:Option Addr} {n_l c_l:Nat} {l:List Rec} {lo_s hi_s:Nat} {a_s:Option Addr} {n_s c_s:Nat} {s:List Nat} (w:World) (h_l:Ms zM 35 lo_l hi_l w a_l n_l c_l l) (h_s:Es (nv .i64) lo_s hi_s w a_s n_s c_s s) (hp0:OkM l s) (hp1:n=n_l) (hg0:Gl 0 [vI 45,vI 33] w) (hg1:Gl 1 (w8C za6) w) (hg2:Gl 3 (zar kA) w):
  Calls Tryz.prog 29 #[(vI n),(.slice a_l n_l c_l),(.slice a_s n_s c_s)] w (Ret fun r w'=>∃a1,r=(.tuple #[(vA [(vI n),(.slice a1 (tot n) (tot n))]),(vI 0)])∧OwM zH 274 w.heap.size w'.heap.size w' a1 (tot n) (tot n) 74 (zaj l s)∧Ext w w'):=by
 refine zI (n:=177) (σ:= [(0,(vI n)),(1,(.slice a_l n_l c_l)),(2,(.slice a_s n_s c_s))]) Tryz.func29 rfl ?_
 replace h_l:=h_l.now;have hle_l:=h_l.le
 replace h_s:=h_s.now;have hle_s:=h_s.le
 have hgl0:=hg0.lt
 have hgl1:=hg1.lt
 have hgl2:=hg2.lt
 have hlen:=h_l.len_eq
 have hls:=h_s.len_eq
 have hnl:n=l.length:=by omega
 have ho1:=hp0.n1;have ho2:=hp0.n2;have ho4:=hp0.len;rw [←hnl] at ho1 ho2 ho4
 have h5:=zat n
 have hts:=zaw ho2
 have hle:=h_l.le;have hle2:=h_s.le
 refine ze (zd (za (zo (some 6) (Instr.alloc 44 true (.tuple #[])) (vP w.heap.size 0) ([(vI 0),(.slice none 0 0)]) 44 ?_)))
 intro w1 hBw1 hEw1
 have hzw1:=hEw1.size;have hlw1:=hBw1.lt
 refine zc 1 [(7,(vI 0))] (zf (zb (ze (zd (zc 1 [(28,(vI n))] (za (zl (some 29) (zmU n _ (by omega) (by omega)) ?_)))))))
 rintro _ w2 ⟨a1,ca1,a2,ca2,rfl,hFz1_0,hFz1_1,hEw2⟩
 have hzw2:=hEw2.size
 have hlea1:=hFz1_0.le
 have hlea2:=hFz1_1.le
 refine zc 3 [(31,(vI 0)),(30,(vA [(vI n),(.slice a1 (hgt n+1) ca1),(.slice a2 (hgt n+1) ca2)])),(27,(.tuple #[(vA [(vI n),(.slice a1 (hgt n+1) ca1),(.slice a2 (hgt n+1) ca2)]),(vI 0)]))] (za (zo (some 8) (Instr.alloc 128 true (.tuple #[])) (vP w2.heap.size 0) ([(vI 0),(.slice none 0 0),(.slice none 0 0)]) 128 ?_))
 intro w3 hBw3 hEw3
 have hzw3:=hEw3.size;have hlw3:=hBw3.lt
 refine za (zv 128 w2.heap.size 0 128 (vA [(vI n),(.slice a1 (hgt n+1) ca1),(.slice a2 (hgt n+1) ca2)]) ([(vI 0),(.slice none 0 0),(.slice none 0 0)]) ([(vI n),(.slice a1 (hgt n+1) ca1),(.slice a2 (hgt n+1) ca2)]) hBw3 (by kernel_rfl) (by first | decide |(simp;done)|(simp;omega)) (by simp [Value.oneCell']) ?_)
 intro w4 hBw4 hCw4
 have hzw4:=hCw4.size
 rw [zm _ _ (by kernel_rfl)] at hBw4
 refine zc 1 [(9,(vI 0))] (zf (zb (ze (ze (zd (zc 1 [(32,(vI 0))] (za (zai (some 33) (((0:Nat):Int) !=((0:Nat):Int)) false (zaA (by omega)) ?_))))))))
 refine zf (zb (zn (zu (zb (ze (zd (zc 1 [(10,(.func (.func 60) #[] #[]))] (zf (zb ?_)))))))))
 refine ze (ze (zd (zc 3 [(38,(vI n)),(37,(vI n_l)),(36,(.slice a_l n_l c_l))] ?_)))
 have hK1:=(((((((h_s.ext hEw1)).ext hEw2)).ext hEw3)).chg hCw4 (fun k h1 h2 hs=>by have h:k=_:=hs;omega))
 have hIs:=(hK1).ints
 refine za (zai (some 39) (((n_l:Nat):Int) !=((n:Nat):Int)) false (zaA (by omega)) ?_)
 refine zc 3 [(42,(vI n_s)),(41,(.slice a_s n_s c_s)),(40,vF)] (za (zj (some 43) (Instr.loadAt 128 (vP w2.heap.size 0)) (vA [(vI n),(.slice a1 (hgt n+1) ca1),(.slice a2 (hgt n+1) ca2)]) (zw (vs:= [(vI n),(.slice a1 (hgt n+1) ca1),(.slice a2 (hgt n+1) ca2)]) (hBw4.all)) ?_))
 refine za (zl (some 44) (zf8 n _ (((hFz1_0.ext hEw3)).chg hCw4 (fun k h1 h2 hs=>by have h:k=_:=hs;omega)) (((hFz1_1.ext hEw3)).chg hCw4 (fun k h1 h2 hs=>by have h:k=_:=hs;omega)) (by first | rfl | assumption) (by first | rfl | assumption) (by omega) (by omega)) ?_)
 rintro _ w5 ⟨rfl,hEw5⟩
 have hzw5:=hEw5.size
 refine za (zai (some 45) (((n_s:Nat):Int) !=((tot n:Nat):Int)) false (zaA (by omega)) ?_)
 refine zc 4 [(49,(.func (.func 60) #[] #[])),(48,(.slice a_s n_s c_s)),(47,vF),(46,vF)] (za (zl (some 50) (zss _ (hIs.ext hEw5) (fun i=>by rw [zi9];have:=hp0.sl i;omega)) ?_))
 rintro _ w6 ⟨rfl,hEw6⟩
 have hzw6:=hEw6.size
 refine zc 1 [(51,vF)] (zf (zb (zn (zu (zb (ze (ze (zd (zc 3 [(55,(vI 0)),(54,(vI n_l)),(53,(.slice a_l n_l c_l))] ?_)))))))))
 refine zf (zb (zy (zY (X:=Nat) (fun i=> [(55,(vI i))]) [7,12,13,56,57,58,59,60,61,62,63,64,65] (fun i w7=>i≤n_l∧Ext w6 w7) (fun i=>n_l-i) 0 (by kernel_rfl) ⟨Nat.zero_le _,Ext.refl _⟩ ?_)))
 rintro i dw7 w7 ⟨hi,hE0⟩
 have hz0:=hE0.size
 refine ze (zd (za (zK (some 56) (decide (((i:Nat):Int)<((n_l:Nat):Int))) (fun hc56=> ?_) (fun hc56=> ?_))))
 ·replace hc56:i<n_l:=by have:=zaf hc56;omega
  refine zf (zb (ze (zC (zu (zb (ze (zy (ze (zd ?_)))))))))
  obtain ⟨b1,o1,rfl⟩:=h_l.addr (by omega) (by decide)
  refine za (zj (some 57) (Instr.indexAt 28 (.slice (pA b1 o1) n_l c_l) (vI i)) (vP b1 (o1+i*35)) (zP (E:=68) (sz:=35) (by omega)) ?_)
  have hK2:=(((((((((((((h_l.ext hEw1)).ext hEw2)).ext hEw3)).chg hCw4 (fun k h1 h2 hs=>by have h:k=_:=hs;omega))).ext hEw5)).ext hEw6)).ext hE0)
  refine za (zj (some 58) (Instr.loadAt 68 (vP b1 (o1+i*35))) (vA (zM (l.getD i Rec.zero))) (zw (vs:=zM (l.getD i Rec.zero)) (hK2.at Rec.zero (by omega)) (by rw [zab];kernel_rfl)) ?_)
  refine za (zo (some 12) (Instr.alloc 68 true (.tuple #[])) (vP w7.heap.size 0) (zM Rec.zero) 68 ?_)
  intro w8 hBw8 hEw8
  have hzw8:=hEw8.size;have hlw8:=hBw8.lt
  refine za (zv 68 w7.heap.size 0 68 (vA (zM (l.getD i Rec.zero))) (zM Rec.zero) (zM (l.getD i Rec.zero)) hBw8 (by rw [zab];kernel_rfl) (by first |(simp;done)|(simp;omega)) (za2 _) ?_)
  intro w9 hBw9 hCw9
  have hzw9:=hCw9.size
  rw [zm _ _ (by simp)] at hBw9
  refine zf (zb (ze (zd (za (zj (some 59) (Instr.loadAt 68 (vP w7.heap.size 0)) (vA (zM (l.getD i Rec.zero))) (zw (vs:=zM (l.getD i Rec.zero)) (hBw9.all) (by rw [zab];kernel_rfl)) ?_)))))
  refine za (zl (some 60) (zeY (l.getD i Rec.zero) _) ?_)
  rintro _ w10 ⟨rfl,hEw10⟩
  have hzw10:=hEw10.size
  rw [show zaN (l.getD i Rec.zero)=0 from hp0.rc i (by omega)]
  refine zc 1 [(13,(vI 0))] (zf (zb (ze (zd (zc 1 [(61,(vI 0))] (za (zai (some 62) (((0:Nat):Int) !=((0:Nat):Int)) false (zaA (by omega)) ?_)))))))
  refine zf (zb (zn (zu (zp (zb (zd (za (zt (some 65) .i64 (IntKind.i64.wrap (((i:Nat):Int)+((1:Nat):Int))) (i+1) (zA (by omega) (by omega) (by omega)) ?_))))))))
  refine zc 1 [(55,(vI (i+1)))] (zf (zF ?_))
  have hX1:Ext w6 w10:=((Ext.own (hE0.trans hEw8) hCw9 (by omega)).trans hEw10)
  refine zR (i+1) ?_ ?_
  ·exact ⟨by omega,hX1⟩
  ·first | omega |(dsimp only;omega)
 ·replace hc56:¬(i<n_l):=by have:=zae hc56;omega
  refine zf (zb (ze (zn (zW (zx (zx (zL (zb (ze ?_)))))))))
  refine zd (zc 1 [(66,(vI n))] ?_)
  have hK3:=(((((hBw4.ext hEw5)).ext hEw6)).ext hE0)
  refine za (zj (some 67) (Instr.loadAt 128 (vP w2.heap.size 0)) (vA [(vI n),(.slice a1 (hgt n+1) ca1),(.slice a2 (hgt n+1) ca2)]) (zw (vs:= [(vI n),(.slice a1 (hgt n+1) ca1),(.slice a2 (hgt n+1) ca2)]) (hK3.all)) ?_)
  have hK4:=(((((((((hFz1_0.ext hEw3)).chg hCw4 (fun k h1 h2 hs=>by have h:k=_:=hs;omega))).ext hEw5)).ext hEw6)).ext hE0)
  have hK5:=(((((((((hFz1_1.ext hEw3)).chg hCw4 (fun k h1 h2 hs=>by have h:k=_:=hs;omega))).ext hEw5)).ext hEw6)).ext hE0)
  refine za (zl (some 68) (zf8 n _ hK4 hK5 (by first | rfl | assumption) (by first | rfl | assumption) (by omega) (by omega)) ?_)
  rintro _ w11 ⟨rfl,hEw11⟩
  have hzw11:=hEw11.size
  refine za (zch (some 69) 42 74 274 368 (tot n) (tot n) .i64 .i64 (vA (zH Nod.zero)) (by omega) (by omega) (by omega) ?_)
  rw [zdJ (f:=zH) (x:=Nod.zero) rfl (zV _) (by decide)]
  intro w12 hBw12 hEw12
  have hzw12:=hEw12.size;have hlw12:=hBw12.lt
  have hmw12:Ms zH 274 w11.heap.size (w11.heap.size+1) w12 (pA w11.heap.size 0) (tot n) (tot n) (List.replicate (tot n) Nod.zero):=Ms.of_pre (r:= []) (by rw [List.append_nil];exact hBw12) zV (by simp) (Nat.le_refl _) (by simp only [maxLen];omega) (Nat.le_refl _) (Nat.lt_succ_self _)
  refine zc 1 [(70,(vA [(vI n),(.slice (pA w11.heap.size 0) (tot n) (tot n))]))] (za (zo (some 14) (Instr.alloc 44 true (.tuple #[])) (vP w12.heap.size 0) ([(vI 0),(.slice none 0 0)]) 44 ?_))
  intro w13 hBw13 hEw13
  have hzw13:=hEw13.size;have hlw13:=hBw13.lt
  refine za (zv 44 w12.heap.size 0 44 (vA [(vI n),(.slice (pA w11.heap.size 0) (tot n) (tot n))]) ([(vI 0),(.slice none 0 0)]) ([(vI n),(.slice (pA w11.heap.size 0) (tot n) (tot n))]) hBw13 (by kernel_rfl) (by first | decide |(simp;done)|(simp;omega)) (by simp [Value.oneCell']) ?_)
  intro w14 hBw14 hCw14
  have hzw14:=hCw14.size
  rw [zm _ _ (by kernel_rfl)] at hBw14
  refine zf (zb (ze (ze (zd (zc 1 [(71,(vP w2.heap.size 1))] ?_)))))
  have hK6:=(((((((hK3.ext hEw11)).ext hEw12)).ext hEw13)).chg hCw14 (fun hs=>by have h:_=_:=hs;omega))
  refine za (zj (some 72) (Instr.loadAt 29 (vP w2.heap.size 1)) (.slice a1 (hgt n+1) ca1) (zk (hK6.cell rfl)) ?_)
  refine zc 2 [(74,(vI 0)),(73,(vI (hgt n+1)))] (zf (zb (zy ?_)))
  have hK7:=(((((((((((((((((((hBw1.ext hEw2)).ext hEw3)).chg hCw4 (fun hs=>by have h:_=_:=hs;omega))).ext hEw5)).ext hEw6)).ext hE0)).ext hEw11)).ext hEw12)).ext hEw13)).chg hCw14 (fun hs=>by have h:_=_:=hs;omega))
  have hK8:=(((((((hK4.ext hEw11)).ext hEw12)).ext hEw13)).chg hCw14 (fun k h1 h2 hs=>by have h:k=_:=hs;omega))
  have hK9:=(((((((hK5.ext hEw11)).ext hEw12)).ext hEw13)).chg hCw14 (fun k h1 h2 hs=>by have h:k=_:=hs;omega))
  have hX2:Ext w w14:=(Ext.own (((((((Ext.own ((hEw1.trans hEw2).trans hEw3) hCw4 (by omega)).trans hEw5).trans hEw6).trans hE0).trans hEw11).trans hEw12).trans hEw13) hCw14 (by omega))
  refine zY (X:=Nat) (fun v=> [(74,(vI v))]) [15,16,17,75,76,77,78,79,80,81,82,83,84,85,86,87,88,89,90,91,92,93,94,95,96] (fun v w15=>v≤hgt n+1∧Blk w15 w11.heap.size ((TX n (gF v 0)).flatMap zH) 74∧Blk w15 w.heap.size ([(vI 0),(.slice none 0 0)]) 44∧Blk w15 w2.heap.size ([(vI n),(.slice a1 (hgt n+1) ca1),(.slice a2 (hgt n+1) ca2)]) 128∧Blk w15 w12.heap.size ([(vI n),(.slice (pA w11.heap.size 0) (tot n) (tot n))]) 44∧Es (nv .i64) w1.heap.size w2.heap.size w15 a1 (hgt n+1) ca1 (zaI n (hgt n+1))∧Es (nv .i64) w1.heap.size w2.heap.size w15 a2 (hgt n+1) ca2 (za0 n (hgt n+1))∧Ext w w15) (fun v=>hgt n+1-v) 0 (by kernel_rfl) ⟨Nat.zero_le _,by rw [←zqR];exact (((hBw12.ext hEw13)).chg hCw14 (fun hs=>by have h:_=_:=hs;omega)),hK7,hK6,hBw14,hK8,hK9,hX2⟩ ?_
  rintro v dw15 w15 ⟨hv,hR1,hkhR16,hkhR18,hkhR114,hs1hR1,hs2hR1,hEhR1⟩
  have hzhR1:=hEhR1.size;have hlhR1:=hR1.lt
  have hmhR1:=Ms.of_row hR1 zV (len:=tot n) (zbw _ _).symm (by simp only [maxLen];omega)
  have hlkhR16:=hkhR16.lt
  have hlkhR18:=hkhR18.lt
  have hlkhR114:=hkhR114.lt
  have hcn:=zbf n v
  have hgc:v<hgt n+1→gt (zaI n (hgt n+1)) v=cnt n v:=fun hh=>zeN hh
  refine ze (zd (za (zK (some 75) (decide (((v:Nat):Int)<((hgt n+1:Nat):Int))) (fun hc75=> ?_) (fun hc75=> ?_))))
  ·replace hc75:v<hgt n+1:=by have:=zaf hc75;omega
   replace hgc:=hgc (by omega)
   refine zf (zb (ze (zC (zu (zb (ze (zy (ze (zd ?_)))))))))
   refine zc 1 [(76,(vI v))] ?_
   obtain ⟨b2,o2,rfl⟩:=hs1hR1.addr (by omega)
   refine za (zj (some 77) (Instr.indexAt 29 (.slice (pA b2 o2) (hgt n+1) ca1) (vI v)) (vP b2 (o2+v*1)) (zP (E:=3) (sz:=1) (by omega)) ?_)
   refine za (zj (some 78) (Instr.loadAt 3 (vP b2 (o2+v*1))) (vI (gt (zaI n (hgt n+1)) v)) (zk (hs1hR1.celln (by omega))) ?_)
   refine zc 2 [(16,(vI (gt (zaI n (hgt n+1)) v))),(15,(vI v))] (zf (zb (ze (zd (zc 2 [(80,(vI 0)),(79,(vI (gt (zaI n (hgt n+1)) v)))] (zf (zb (zy (zY (X:=Nat) (fun j=> [(80,(vI j))]) [17,81,82,83,84,85,86,87,88,89,90,91,92,93,94,95] (fun j w16=>j≤cnt n v∧Blk w16 w11.heap.size ((TX n (gF v j)).flatMap zH) 74∧Blk w16 w.heap.size ([(vI 0),(.slice none 0 0)]) 44∧Blk w16 w2.heap.size ([(vI n),(.slice (pA b2 o2) (hgt n+1) ca1),(.slice a2 (hgt n+1) ca2)]) 128∧Blk w16 w12.heap.size ([(vI n),(.slice (pA w11.heap.size 0) (tot n) (tot n))]) 44∧Es (nv .i64) w1.heap.size w2.heap.size w16 (pA b2 o2) (hgt n+1) ca1 (zaI n (hgt n+1))∧Es (nv .i64) w1.heap.size w2.heap.size w16 a2 (hgt n+1) ca2 (za0 n (hgt n+1))∧Ext w w16) (fun j=>cnt n v-j) 0 (by kernel_rfl) ⟨Nat.zero_le _,by exact hR1,hkhR16,hkhR18,hkhR114,hs1hR1,hs2hR1,hEhR1⟩ ?_)))))))))
   rintro j dw16 w16 ⟨hj,hR2,hkhR26,hkhR28,hkhR214,hs1hR2,hs2hR2,hEhR2⟩
   have hzhR2:=hEhR2.size;have hlhR2:=hR2.lt
   have hmhR2:=Ms.of_row hR2 zV (len:=tot n) (zbw _ _).symm (by simp only [maxLen];omega)
   have hlkhR26:=hkhR26.lt
   have hlkhR28:=hkhR28.lt
   have hlkhR214:=hkhR214.lt
   refine ze (zd (za (zK (some 81) (decide (((j:Nat):Int)<((gt (zaI n (hgt n+1)) v:Nat):Int))) (fun hc81=> ?_) (fun hc81=> ?_))))
   ·replace hc81:j<gt (zaI n (hgt n+1)) v:=by have:=zaf hc81;omega
    have hjc:j<cnt n v:=by omega
    have hpl:=zaC (n:=n) (l:=v) (j:=j) (by omega) hjc
    refine zf (zb (ze (zC (zu (zb (ze (zy (ze (zd ?_)))))))))
    refine zc 2 [(17,(vI j)),(82,(vI j))] (zf (zb (zT (Ext w16.drew) 13 [(84,16384,0),(85,9671406556917033397649408,1),(86,256,0),(87,32768,0),(88,131072,0),(89,270799383593676935134183424,28),(90,32768,0),(91,618970019642690137449562112,64),(92,131072,0),(93,2475880078570760549798248448,256),(94,6189700196426901374495621120,672),(95,328827822935179135520079872,2047),(0,29710560942849126597578981376,4095)] (fun hT259=> ?_))))
    have hEw17:Ext w16 w16.drew:=Ext.drew w16
    generalize w16.drew=w17 at hEw17⊢
    have hzw17:=hEw17.size
    refine zh hT259 [(0,83,(vP w12.heap.size 1))] 1 1 (zg hT259 1 3 (some 84) (.slice (pA w11.heap.size 0) (tot n) (tot n)) (zi (Instr.loadAt 42 (vP w12.heap.size 1)) (fun w' hC=>zk (((hkhR214.ext hEw17).ext hC).cell rfl))) (zg hT259 2 7 (some 85) (vA [(vI n),(.slice (pA b2 o2) (hgt n+1) ca1),(.slice a2 (hgt n+1) ca2)]) (zi (Instr.loadAt 128 (vP w2.heap.size 0)) (fun w' hC=>zw (vs:= [(vI n),(.slice (pA b2 o2) (hgt n+1) ca1),(.slice a2 (hgt n+1) ca2)]) (((hkhR28.ext hEw17).ext hC).all))) (zh hT259 [(3,86,(vI v)),(4,87,(vI j)),(6,89,(vI v))] 3 95 (zg hT259 7 223 (some 90) (vB v) (zaa .u8 (IntKind.u8.wrap ((v:Nat):Int)) (zbm rfl rfl (by show _<2^8;omega))) (zh hT259 [(8,91,(vI j))] 1 479 (zg hT259 9 991 (some 92) (vW j) (zaa .u32 (IntKind.u32.wrap ((j:Nat):Int)) (zbm rfl rfl (by show _<2^32;omega))) (zz 5 1023 (zl (some 88) (zem n v j _ (hs1hR2.ext hEw17) (hs2hR2.ext hEw17) (by first | rfl | assumption) (by first | rfl | assumption) (by omega) (by omega) (by omega) (by omega)) ?_))))))))
    rintro _ w18 ⟨rfl,hEw18⟩
    have hzw18:=hEw18.size
    refine ⟨.inr hEw18, ?_⟩
    refine zz 10 2047 (zl (some 93) (zqG v j _ (by omega) (by omega)) ?_)
    rintro _ w19 ⟨rfl,hEw19⟩
    have hzw19:=hEw19.size
    have hX3:Ext w17 w19:=(hEw18.trans hEw19)
    refine ⟨.inr hX3, ?_⟩
    refine zg (hw:=hX3) hT259 11 4095 (some 94) (vP w11.heap.size (0+(num n v+j)*274)) (zi (Instr.indexAt 42 (.slice (pA w11.heap.size 0) (tot n) (tot n)) (vI (num n v+j))) (fun w' hC=>zP (E:=74) (sz:=274) (by omega))) ?_
    have hK10:=(((((hR2.ext hEw17)).ext hEw18)).ext hEw19)
    refine zz 12 8191 (zv 74 w11.heap.size (0+(num n v+j)*274) 74 (vA (zH (Nod.mt v j))) ((TX n (gF v j)).flatMap zH) (zH (Nod.mt v j)) hK10 (by rw [zV];kernel_rfl) (by rw [zaz zV];(try simp only [List.length_cons,List.length_nil,List.length_set]);have:=(show List.length (TX n (gF v j))=tot n from zbw _ _);have hln:=zV (Nod.mt v j);omega) (zbZ _) ?_)
    have hK11:=(((((hR2.ext hEw17)).ext hEw18)).ext hEw19)
    intro w20 hBw20 hCw20
    have hzw20:=hCw20.size
    rw [show (zac ((TX n (gF v j)).flatMap zH) (0+(num n v+j)*274) (zH (Nod.mt v j)):List Value)=(TX n (gF v (j+1))).flatMap zH from (zca zV _ _ _ (by rw [zbw];try omega)).trans (congrArg (fun z=>List.flatMap zH z) (show ((TX n (gF v j)).set (num n v+j) (Nod.mt v j))=(TX n (gF v (j+1))) from zsx (by omega) hjc))] at hBw20
    have hmw20:Ms zH 274 w11.heap.size (w11.heap.size+1) w20 (pA w11.heap.size 0) (tot n) (tot n) (TX n (gF v (j+1))):=Ms.of_pre (r:= []) (by rw [List.append_nil];exact hBw20) zV (by rw [zbw];try omega) (by omega) (by simp only [maxLen];omega) (by omega) (by omega)
    refine ⟨.inl (by kernel_rfl), ?_⟩
    refine zJ (zp (zb (zd (za (zt (some 95) .i64 (IntKind.i64.wrap (((j:Nat):Int)+((1:Nat):Int))) (j+1) (zA (by omega) (by omega) (by omega)) ?_)))))
    refine zc 1 [(80,(vI (j+1)))] (zf (zF ?_))
    have hK12:=(((((((hkhR26.ext hEw17)).ext hEw18)).ext hEw19)).chg hCw20 (fun hs=>by have h:_=_:=hs;omega))
    have hK13:=(((((((hkhR28.ext hEw17)).ext hEw18)).ext hEw19)).chg hCw20 (fun hs=>by have h:_=_:=hs;omega))
    have hK14:=(((((((hkhR214.ext hEw17)).ext hEw18)).ext hEw19)).chg hCw20 (fun hs=>by have h:_=_:=hs;omega))
    have hK15:=(((((((hs1hR2.ext hEw17)).ext hEw18)).ext hEw19)).chg hCw20 (fun k h1 h2 hs=>by have h:k=_:=hs;omega))
    have hK16:=(((((((hs2hR2.ext hEw17)).ext hEw18)).ext hEw19)).chg hCw20 (fun k h1 h2 hs=>by have h:k=_:=hs;omega))
    have hX4:Ext w w20:=(Ext.own (((hEhR2.trans hEw17).trans hEw18).trans hEw19) hCw20 (by omega))
    refine zR (j+1) ?_ ?_
    ·exact ⟨by omega,by exact hBw20,hK12,hK13,hK14,hK15,hK16,hX4⟩
    ·first | omega |(dsimp only;omega)
   ·replace hc81:¬(j<gt (zaI n (hgt n+1)) v):=by have:=zae hc81;omega
    obtain rfl:j=cnt n v:=by omega
    refine zf (zb (ze (zn (zW (zx (zx (zL (zp (zb ?_)))))))))
    refine zd (za (zt (some 96) .i64 (IntKind.i64.wrap (((v:Nat):Int)+((1:Nat):Int))) (v+1) (zA (by omega) (by omega) (by omega)) ?_))
    refine zc 1 [(74,(vI (v+1)))] (zf (zF (zR (v+1) ?_ ?_)))
    ·exact ⟨by omega,by rw [←zp1];exact hR2,hkhR26,hkhR28,hkhR214,hs1hR2,hs2hR2,hEhR2⟩
    ·first | omega |(dsimp only;omega)
  ·replace hc75:¬(v<hgt n+1):=by have:=zae hc75;omega
   obtain rfl:v=hgt n+1:=by omega
   refine zf (zb (ze (zn (zW (zx (zx (zL (zb (ze ?_)))))))))
   refine ze (zd (zc 3 [(99,(vI 0)),(98,(vI n_l)),(97,(.slice a_l n_l c_l))] (zf (zb (zy (zY (X:=Nat) (fun i=> [(99,(vI i))]) [18,19,100,101,102,103,104,105,106,107,108,109,110,111,112,113,114] (fun i w21=>i≤n∧Blk w21 w11.heap.size ((TX n (gB l s i 1 0)).flatMap zH) 74∧Blk w21 w.heap.size ([(vI 0),(.slice none 0 0)]) 44∧Blk w21 w2.heap.size ([(vI n),(.slice a1 (hgt n+1) ca1),(.slice a2 (hgt n+1) ca2)]) 128∧Blk w21 w12.heap.size ([(vI n),(.slice (pA w11.heap.size 0) (tot n) (tot n))]) 44∧Es (nv .i64) w1.heap.size w2.heap.size w21 a1 (hgt n+1) ca1 (zaI n (hgt n+1))∧Es (nv .i64) w1.heap.size w2.heap.size w21 a2 (hgt n+1) ca2 (za0 n (hgt n+1))∧Ext w w21) (fun i=>n-i) 0 (by kernel_rfl) ⟨Nat.zero_le _,by rw [←zrw l s];exact hR1,hkhR16,hkhR18,hkhR114,hs1hR1,hs2hR1,hEhR1⟩ ?_))))))
   rintro i dw21 w21 ⟨hi,hR3,hkhR36,hkhR38,hkhR314,hs1hR3,hs2hR3,hEhR3⟩
   have hzhR3:=hEhR3.size;have hlhR3:=hR3.lt
   have hmhR3:=Ms.of_row hR3 zV (len:=tot n) (zbw _ _).symm (by simp only [maxLen];omega)
   have hlkhR36:=hkhR36.lt
   have hlkhR38:=hkhR38.lt
   have hlkhR314:=hkhR314.lt
   refine ze (zd (za (zK (some 100) (decide (((i:Nat):Int)<((n_l:Nat):Int))) (fun hc100=> ?_) (fun hc100=> ?_))))
   ·replace hc100:i<n_l:=by have:=zaf hc100;omega
    have hi4:i/4<cnt n 0:=zbh (n:=n) (i:=i) (by omega) 0
    have hpl:=zaC (n:=n) (l:=0) (j:=i/4) (by omega) hi4
    refine zf (zb (ze (zC (zu (zb (ze (zy (ze (zd ?_)))))))))
    refine zc 1 [(101,(vI i))] ?_
    obtain ⟨b3,o3,rfl⟩:=h_l.addr (by omega) (by decide)
    refine za (zj (some 102) (Instr.indexAt 28 (.slice (pA b3 o3) n_l c_l) (vI i)) (vP b3 (o3+i*35)) (zP (E:=68) (sz:=35) (by omega)) ?_)
    refine za (zj (some 103) (Instr.loadAt 68 (vP b3 (o3+i*35))) (vA (zM (l.getD i Rec.zero))) (zw (vs:=zM (l.getD i Rec.zero)) ((h_l.ext hEhR3).at Rec.zero (by omega)) (by rw [zab];kernel_rfl)) ?_)
    refine za (zo (some 19) (Instr.alloc 68 true (.tuple #[])) (vP w21.heap.size 0) (zM Rec.zero) 68 ?_)
    intro w22 hBw22 hEw22
    have hzw22:=hEw22.size;have hlw22:=hBw22.lt
    refine zc 1 [(18,(vI i))] (za (zv 68 w21.heap.size 0 68 (vA (zM (l.getD i Rec.zero))) (zM Rec.zero) (zM (l.getD i Rec.zero)) hBw22 (by rw [zab];kernel_rfl) (by first |(simp;done)|(simp;omega)) (za2 _) ?_))
    intro w23 hBw23 hCw23
    have hzw23:=hCw23.size
    rw [zm _ _ (by simp)] at hBw23
    refine zf (zb (zT (Chg (fun k=>k=w11.heap.size) w23.drew) 11 [(105,16384,0),(106,20282409603651670423947251286016,1),(107,262144,0),(108,81129638414606681695789005144064,4),(109,262144,0),(110,324518553658426726783156020576256,16),(111,524288,0),(112,202824096036516704239472512860160,10),(113,2596148429267413814265248164610048,128),(114,5841333965851681082096808370372608,383),(0,11682667931703362164193616740745216,639)] (fun hT380=> ?_)))
    have hEw24:Ext w23 w23.drew:=Ext.drew w23
    generalize w23.drew=w24 at hEw24⊢
    have hzw24:=hEw24.size
    have hX5:Chg (fun k=>k=w11.heap.size) w24 w24:=(Chg.refl (fun k=>k=w11.heap.size) w24)
    refine zh (hw:=hX5) hT380 [(0,104,(vP w12.heap.size 1))] 1 1 ?_
    have hK17:=(((((hkhR314.ext hEw22)).chg hCw23 (fun hs=>by have h:_=_:=hs;omega))).ext hEw24)
    refine zg (hw:=hX5) hT380 1 3 (some 105) (.slice (pA w11.heap.size 0) (tot n) (tot n)) (zi (Instr.loadAt 42 (vP w12.heap.size 1)) (fun w' hC=>zk ((hK17.chg hC (fun hs=>by have h:_=_:=hs;omega)).cell rfl))) (zh (hw:=hX5) hT380 [(2,106,(vI i))] 1 7 (zg (hw:=hX5) hT380 3 15 (some 107) (vI (i/4)) (zaa .i64 (IntKind.i64.wrap (((i:Nat):Int).tdiv ((4:Nat):Int))) (zA (zdP _ _) (by omega) (by omega))) (zh (hw:=hX5) hT380 [(4,108,(vI i))] 1 31 (zg (hw:=hX5) hT380 5 63 (some 109) (vI (i%4)) (zaa .i64 (((i:Nat):Int).tmod ((4:Nat):Int)) (zcF _ _)) (zg (hw:=hX5) hT380 6 127 (some 110) (vA (zM (l.getD i Rec.zero))) (zi (Instr.loadAt 68 (vP w21.heap.size 0)) (fun w' hC=>zw (vs:=zM (l.getD i Rec.zero)) (((hBw23.ext hEw24).chg hC (fun hs=>by have h:_=_:=hs;omega)).all) (by rw [zab];kernel_rfl))) (zg (hw:=hX5) hT380 7 255 (some 111) (vP w11.heap.size (0+(i/4)*274)) (zi (Instr.indexAt 42 (.slice (pA w11.heap.size 0) (tot n) (tot n)) (vI (i/4))) (fun w' hC=>zP (E:=74) (sz:=274) (by omega))) (zh (hw:=hX5) hT380 [(8,112,(vP w11.heap.size (0+(i/4)*274+2)))] 1 511 (zg (hw:=hX5) hT380 9 1023 (some 113) (vP w11.heap.size (0+(i/4)*274+2+(i%4)*35)) (zi (Instr.indexAt 69 (vP w11.heap.size (0+(i/4)*274+2)) (vI (i%4))) (fun w' hC=>zag (E:=68) (sz:=35) (m:=4) (by omega))) ?_))))))))
    have hK18:=(((((hR3.ext hEw22)).chg hCw23 (fun hs=>by have h:_=_:=hs;omega))).ext hEw24)
    refine zz 10 2047 (zv 68 w11.heap.size (0+(i/4)*274+2+(i%4)*35) 74 (vA (zM (l.getD i Rec.zero))) ((TX n (gB l s i 1 0)).flatMap zH) (zM (l.getD i Rec.zero)) hK18 (by rw [zab];kernel_rfl) (by (try simp only [List.length_append]);rw [zaz zV];have:=(show List.length (TX n (gB l s i 1 0))=tot n from zbw _ _);have hq:i/4<List.length (TX n (gB l s i 1 0)):=(by rw [zbw];try omega);rw [zab];omega) (za2 _) ?_)
    have hK19:=(((((hR3.ext hEw22)).chg hCw23 (fun hs=>by have h:_=_:=hs;omega))).ext hEw24)
    intro w25 hBw25 hCw25
    have hzw25:=hCw25.size
    rw [show (zac ((TX n (gB l s i 1 0)).flatMap zH) (0+(i/4)*274+2+(i%4)*35) (zM (l.getD i Rec.zero)):List Value)=(TX n (gB l s (i+1) 1 0)).flatMap zH from ((show zac ((TX n (gB l s i 1 0)).flatMap zH) (0+(i/4)*274+2+(i%4)*35) (zM (l.getD i Rec.zero))=((TX n (gB l s i 1 0)).set (i/4) (((TX n (gB l s i 1 0)).getD (i/4) Nod.zero).setR (i%4) (l.getD i Rec.zero))).flatMap zH from by have hz:=(zb1 zV Nod.zero (((TX n (gB l s i 1 0)).getD (i/4) Nod.zero).setR (i%4) (l.getD i Rec.zero)) (TX n (gB l s i 1 0)) (i/4) (2+(i%4)*35) (zM (l.getD i Rec.zero)) [] (by rw [zbw];try omega) (nod_setR (by omega)) (by rw [zab];omega));rw [List.append_nil,List.append_nil] at hz;rw [show 0+(i/4)*274+2+(i%4)*35=(i/4)*274+(2+(i%4)*35) from by omega];exact hz)).trans (congrArg (fun z=>List.flatMap zH z) (show ((TX n (gB l s i 1 0)).set (i/4) (((TX n (gB l s i 1 0)).getD (i/4) Nod.zero).setR (i%4) (l.getD i Rec.zero)))=(TX n (gB l s (i+1) 1 0)) from zrv hi4))] at hBw25
    have hmw25:Ms zH 274 w11.heap.size (w11.heap.size+1) w25 (pA w11.heap.size 0) (tot n) (tot n) (TX n (gB l s (i+1) 1 0)):=Ms.of_pre (r:= []) (by rw [List.append_nil];exact hBw25) zV (by rw [zbw];try omega) (by omega) (by simp only [maxLen];omega) (by omega) (by omega)
    have hX6:Chg (fun k=>k=w11.heap.size) w24 w25:=(Chg.then (Chg.refl (fun k=>k=w11.heap.size) w24) hCw25 (fun k hk hs=>by have h:k=_:=hs;first | exact hs | exact .inl h | exact .inr h |(exfalso;omega)))
    refine ⟨.inr hX6, ?_⟩
    refine zJ (zp (zb (zd (za (zt (some 114) .i64 (IntKind.i64.wrap (((i:Nat):Int)+((1:Nat):Int))) (i+1) (zA (by omega) (by omega) (by omega)) ?_)))))
    refine zc 1 [(99,(vI (i+1)))] (zf (zF ?_))
    have hK20:=(((((((hkhR36.ext hEw22)).chg hCw23 (fun hs=>by have h:_=_:=hs;omega))).ext hEw24)).chg hCw25 (fun hs=>by have h:_=_:=hs;omega))
    have hK21:=(((((((hkhR38.ext hEw22)).chg hCw23 (fun hs=>by have h:_=_:=hs;omega))).ext hEw24)).chg hCw25 (fun hs=>by have h:_=_:=hs;omega))
    have hK22:=(((((((hs1hR3.ext hEw22)).chg hCw23 (fun k h1 h2 hs=>by have h:k=_:=hs;omega))).ext hEw24)).chg hCw25 (fun k h1 h2 hs=>by have h:k=_:=hs;omega))
    have hK23:=(((((((hs2hR3.ext hEw22)).chg hCw23 (fun k h1 h2 hs=>by have h:k=_:=hs;omega))).ext hEw24)).chg hCw25 (fun k h1 h2 hs=>by have h:k=_:=hs;omega))
    have hX7:Ext w w25:=(Ext.own ((Ext.own (hEhR3.trans hEw22) hCw23 (by omega)).trans hEw24) hCw25 (by omega))
    refine zR (i+1) ?_ ?_
    ·exact ⟨by omega,by exact hBw25,hK20,hK21,((hK17).chg hCw25 (fun hs=>by have h:_=_:=hs;omega)),hK22,hK23,hX7⟩
    ·first | omega |(dsimp only;omega)
   ·replace hc100:¬(i<n_l):=by have:=zae hc100;omega
    obtain rfl:n=i:=by omega
    refine zf (zb (ze (zn (zW (zx (zx (zL (zb (ze ?_)))))))))
    refine ze (zd (zc 1 [(20,(vI 1))] (zf (zb (zy (zY (X:=Nat) (fun v=> [(20,(vI v))]) [21,22,23,24,25,26,115,116,117,118,119,120,121,122,123,124,125,126,127,128,129,130,131,132,133,134,135,136,137,138,139,140,141,142,143,144,145,146,147,148,149,150,151,152,153,154,155,156,157,158,159,160,161,162,163,164,165,166,167,168,169,170,171,172,173,174,175] (fun v w26=>(1≤v∧v≤hgt n+1)∧Blk w26 w11.heap.size ((TX n (gB l s n v 0)).flatMap zH) 74∧Blk w26 w.heap.size ([(vI 0),(.slice none 0 0)]) 44∧Blk w26 w2.heap.size ([(vI n),(.slice a1 (hgt n+1) ca1),(.slice a2 (hgt n+1) ca2)]) 128∧Blk w26 w12.heap.size ([(vI n),(.slice (pA w11.heap.size 0) (tot n) (tot n))]) 44∧Es (nv .i64) w1.heap.size w2.heap.size w26 a1 (hgt n+1) ca1 (zaI n (hgt n+1))∧Es (nv .i64) w1.heap.size w2.heap.size w26 a2 (hgt n+1) ca2 (za0 n (hgt n+1))∧Ext w w26) (fun v=>hgt n+1-v) 1 (by kernel_rfl) ⟨⟨Nat.le_refl _,by omega⟩,by exact hR3,hkhR36,hkhR38,hkhR314,hs1hR3,hs2hR3,hEhR3⟩ ?_))))))
    rintro v dw26 w26 ⟨hv,hR4,hkhR46,hkhR48,hkhR414,hs1hR4,hs2hR4,hEhR4⟩
    have hzhR4:=hEhR4.size;have hlhR4:=hR4.lt
    have hmhR4:=Ms.of_row hR4 zV (len:=tot n) (zbw _ _).symm (by simp only [maxLen];omega)
    have hlkhR46:=hkhR46.lt
    have hlkhR48:=hkhR48.lt
    have hlkhR414:=hkhR414.lt
    have hcm:=zbf n (v-1)
    have hcn:=zbf n v
    have hup:=zcn (n:=n) (l:=v) (by omega)
    have hgc:gt (zaI n (hgt n+1)) (v-1)=cnt n (v-1):=zeN (by omega)
    refine ze (ze (zd (zc 2 [(116,(vP w2.heap.size 1)),(115,(vI v))] (za (zj (some 117) (Instr.loadAt 29 (vP w2.heap.size 1)) (.slice a1 (hgt n+1) ca1) (zk (hkhR48.cell rfl)) ?_)))))
    refine zc 1 [(118,(vI (hgt n+1)))] (za (zK (some 119) (decide (((v:Nat):Int)<((hgt n+1:Nat):Int))) (fun hc119=> ?_) (fun hc119=> ?_)))
    ·replace hc119:v<hgt n+1:=by have:=zaf hc119;omega
     refine zf (zb (zC (zu (zb (ze (zy (ze (zd (zc 1 [(122,(vP w2.heap.size 1))] ?_)))))))))
     refine za (zj (some 123) (Instr.loadAt 29 (vP w2.heap.size 1)) (.slice a1 (hgt n+1) ca1) (zk (hkhR48.cell rfl)) ?_)
     refine zc 1 [(124,(vI v))] (za (zt (some 125) .i64 (IntKind.i64.wrap (((v:Nat):Int)-((1:Nat):Int))) (v-1) (zA (by omega) (by omega) (by omega)) ?_))
     obtain ⟨b4,o4,rfl⟩:=hs1hR4.addr (by omega)
     refine za (zj (some 126) (Instr.indexAt 29 (.slice (pA b4 o4) (hgt n+1) ca1) (vI (v-1))) (vP b4 (o4+(v-1)*1)) (zP (E:=3) (sz:=1) (by omega)) ?_)
     refine za (zj (some 127) (Instr.loadAt 3 (vP b4 (o4+(v-1)*1))) (vI (gt (zaI n (hgt n+1)) (v-1))) (zk (hs1hR4.celln (by omega))) ?_)
     refine zc 1 [(128,(vI 0))] (zf (zb (zy (zY (X:=Nat) (fun c=> [(128,(vI c))]) [21,22,23,24,25,26,129,130,131,132,133,134,135,136,137,138,139,140,141,142,143,144,145,146,147,148,149,150,151,152,153,154,155,156,157,158,159,160,161,162,163,164,165,166,167,168,169,170,171,172,173,174,175] (fun c w27=>c≤cnt n (v-1)∧Blk w27 w11.heap.size ((TX n (gB l s n v c)).flatMap zH) 74∧Blk w27 w.heap.size ([(vI 0),(.slice none 0 0)]) 44∧Blk w27 w2.heap.size ([(vI n),(.slice (pA b4 o4) (hgt n+1) ca1),(.slice a2 (hgt n+1) ca2)]) 128∧Blk w27 w12.heap.size ([(vI n),(.slice (pA w11.heap.size 0) (tot n) (tot n))]) 44∧Es (nv .i64) w1.heap.size w2.heap.size w27 (pA b4 o4) (hgt n+1) ca1 (zaI n (hgt n+1))∧Es (nv .i64) w1.heap.size w2.heap.size w27 a2 (hgt n+1) ca2 (za0 n (hgt n+1))∧Ext w w27) (fun c=>cnt n (v-1)-c) 0 (by kernel_rfl) ⟨Nat.zero_le _,by exact hR4,hkhR46,hkhR48,hkhR414,hs1hR4,hs2hR4,hEhR4⟩ ?_))))
     rintro c dw27 w27 ⟨hc,hR5,hkhR56,hkhR58,hkhR514,hs1hR5,hs2hR5,hEhR5⟩
     have hzhR5:=hEhR5.size;have hlhR5:=hR5.lt
     have hmhR5:=Ms.of_row hR5 zV (len:=tot n) (zbw _ _).symm (by simp only [maxLen];omega)
     have hlkhR56:=hkhR56.lt
     have hlkhR58:=hkhR58.lt
     have hlkhR514:=hkhR514.lt
     refine ze (zd (za (zK (some 129) (decide (((c:Nat):Int)<((gt (zaI n (hgt n+1)) (v-1):Nat):Int))) (fun hc129=> ?_) (fun hc129=> ?_))))
     ·replace hc129:c<gt (zaI n (hgt n+1)) (v-1):=by have:=zaf hc129;omega
      have hcc:c<cnt n (v-1):=by omega
      have hplc:=zaC (n:=n) (l:=v-1) (j:=c) (by omega) hcc
      have hnd:((TX n (gB l s n v c)).getD (num n (v-1)+c) Nod.zero)=zaq l s (v-1) c:=zrm hnl (by omega) (by omega) hcc
      have hus:=zqq (l:=v-1) hp0 hnl (by omega) hcc
      rw [←hnd] at hus
      have hchk:zay ((TX n (gB l s n v c)).getD (num n (v-1)+c) Nod.zero)=0:=by rw [hnd];exact zj4 hp0 (by rw [←hnl];omega) (by rw [←hnl];exact hcc)
      have hc4:c/4<cnt n v:=zix.2 (by rw [hup];omega)
      have hpl4:=zaC (n:=n) (l:=v) (j:=c/4) (by omega) hc4
      have hsl:gt s (num n (v-1)+c)≤1:=hp0.sl _
      refine zf (zb (ze (zC (zu (zb (ze (zy (ze (zd ?_)))))))))
      refine zc 2 [(21,(vI c)),(130,(vI c))] (zf (zb (ze (zd (za (zj (some 131) (Instr.loadAt 128 (vP w2.heap.size 0)) (vA [(vI n),(.slice (pA b4 o4) (hgt n+1) ca1),(.slice a2 (hgt n+1) ca2)]) (zw (vs:= [(vI n),(.slice (pA b4 o4) (hgt n+1) ca1),(.slice a2 (hgt n+1) ca2)]) (hkhR58.all)) ?_))))))
      refine zc 1 [(132,(vI v))] (za (zt (some 133) .i64 (IntKind.i64.wrap (((v:Nat):Int)-((1:Nat):Int))) (v-1) (zA (by omega) (by omega) (by omega)) ?_))
      refine zc 1 [(134,(vI c))] (za (zl (some 135) (zem n (v-1) c _ hs1hR5 hs2hR5 (by first | rfl | assumption) (by first | rfl | assumption) (by omega) (by omega) (by omega) (by omega)) ?_))
      rintro _ w28 ⟨rfl,hEw28⟩
      have hzw28:=hEw28.size
      refine zc 1 [(22,(vI (num n (v-1)+c)))] (zf (zb (ze (zd (zc 1 [(136,(vP w12.heap.size 1))] (za (zj (some 137) (Instr.loadAt 42 (vP w12.heap.size 1)) (.slice (pA w11.heap.size 0) (tot n) (tot n)) (zk ((hkhR514.ext hEw28).cell rfl)) ?_)))))))
      refine zc 1 [(138,(vI (num n (v-1)+c)))] (za (zj (some 139) (Instr.indexAt 42 (.slice (pA w11.heap.size 0) (tot n) (tot n)) (vI (num n (v-1)+c))) (vP w11.heap.size (0+(num n (v-1)+c)*274)) (zP (E:=74) (sz:=274) (by omega)) ?_))
      refine za (zj (some 140) (Instr.loadAt 74 (vP w11.heap.size (0+(num n (v-1)+c)*274))) (vA (zH ((TX n (gB l s n v c)).getD (num n (v-1)+c) Nod.zero))) (zw (vs:=zH ((TX n (gB l s n v c)).getD (num n (v-1)+c) Nod.zero)) ((hmhR5.ext hEw28).at Nod.zero (by omega)) (by rw [zV];kernel_rfl)) ?_)
      refine za (zl (some 141) (zkB ((TX n (gB l s n v c)).getD (num n (v-1)+c) Nod.zero) _) ?_)
      rintro _ w29 ⟨rfl,hEw29⟩
      have hzw29:=hEw29.size
      refine za (zK (some 142) (decide (((usd ((TX n (gB l s n v c)).getD (num n (v-1)+c) Nod.zero) 4:Nat):Int)>((0:Nat):Int))) (fun hc142=> ?_) (fun hc142=> ?_))
      ·replace hc142:usd ((TX n (gB l s n v c)).getD (num n (v-1)+c) Nod.zero) 4>0:=by have:=zaf hc142;omega
       have hem:=hus.1 hc142
       refine zf (zb (zC (ze (zd (zc 1 [(144,(vP w12.heap.size 1))] (za (zj (some 145) (Instr.loadAt 42 (vP w12.heap.size 1)) (.slice (pA w11.heap.size 0) (tot n) (tot n)) (zk ((((hkhR514.ext hEw28)).ext hEw29).cell rfl)) ?_)))))))
       refine zc 1 [(146,(vI (num n (v-1)+c)))] (za (zj (some 147) (Instr.indexAt 42 (.slice (pA w11.heap.size 0) (tot n) (tot n)) (vI (num n (v-1)+c))) (vP w11.heap.size (0+(num n (v-1)+c)*274)) (zP (E:=74) (sz:=274) (by omega)) ?_))
       refine za (zj (some 148) (Instr.loadAt 74 (vP w11.heap.size (0+(num n (v-1)+c)*274))) (vA (zH ((TX n (gB l s n v c)).getD (num n (v-1)+c) Nod.zero))) (zw (vs:=zH ((TX n (gB l s n v c)).getD (num n (v-1)+c) Nod.zero)) ((((hmhR5.ext hEw28)).ext hEw29).at Nod.zero (by omega)) (by rw [zV];kernel_rfl)) ?_)
       have hK24:=(((((hg0.ext hEhR5)).ext hEw28)).ext hEw29)
       have hK25:=(((((hg1.ext hEhR5)).ext hEw28)).ext hEw29)
       have hK26:=(((((hg2.ext hEhR5)).ext hEw28)).ext hEw29)
       refine za (zl (some 149) (zeU ((TX n (gB l s n v c)).getD (num n (v-1)+c) Nod.zero) _ (by assumption) hK24 hK25 hK26) ?_)
       rintro _ w30 ⟨rfl,hEw30⟩
       have hzw30:=hEw30.size
       refine zc 3 [(151,(vI 0)),(150,(vA (zO (zU (zS ((TX n (gB l s n v c)).getD (num n (v-1)+c) Nod.zero)))))),(143,(.tuple #[(vA (zO (zU (zS ((TX n (gB l s n v c)).getD (num n (v-1)+c) Nod.zero))))),(vI 0)]))] (za (zo (some 23) (Instr.alloc 59 true (.tuple #[])) (vP w30.heap.size 0) (zO Dig.zero) 59 ?_))
       intro w31 hBw31 hEw31
       have hzw31:=hEw31.size;have hlw31:=hBw31.lt
       refine za (zv 59 w30.heap.size 0 59 (vA (zO (zU (zS ((TX n (gB l s n v c)).getD (num n (v-1)+c) Nod.zero))))) (zO Dig.zero) (zO (zU (zS ((TX n (gB l s n v c)).getD (num n (v-1)+c) Nod.zero)))) hBw31 (by rw [zal];kernel_rfl) (by first |(simp;done)|(simp;omega)) (zbH _) ?_)
       intro w32 hBw32 hCw32
       have hzw32:=hCw32.size
       rw [zm _ _ (by simp)] at hBw32
       refine zc 1 [(24,(vI 0))] (zf (zb (ze (zd (zc 2 [(154,(vI (num n (v-1)+c))),(153,(.slice a_s n_s c_s))] ?_)))))
       obtain ⟨b5,o5,rfl⟩:=h_s.addr (by omega)
       refine za (zj (some 155) (Instr.indexAt 29 (.slice (pA b5 o5) n_s c_s) (vI (num n (v-1)+c))) (vP b5 (o5+(num n (v-1)+c)*1)) (zP (E:=3) (sz:=1) (by omega)) ?_)
       have hK27:=(((((((((((h_s.ext hEhR5)).ext hEw28)).ext hEw29)).ext hEw30)).ext hEw31)).chg hCw32 (fun k h1 h2 hs=>by have h:k=_:=hs;omega))
       refine za (zj (some 156) (Instr.loadAt 3 (vP b5 (o5+(num n (v-1)+c)*1))) (vI (gt s (num n (v-1)+c))) (zk (hK27.celln (by omega))) ?_)
       refine za (zl (some 157) (zgj (gt s (num n (v-1)+c)) _ (by omega)) ?_)
       rintro _ w33 ⟨rfl,hEw33⟩
       have hzw33:=hEw33.size
       refine zc 5 [(26,(vI 0)),(25,(vB ((gt s (num n (v-1)+c))+1))),(159,(vI 0)),(158,(vB ((gt s (num n (v-1)+c))+1))),(152,(.tuple #[(vB ((gt s (num n (v-1)+c))+1)),(vI 0)]))] (zf (zb (zT (Chg (fun k=>k=w11.heap.size) w33.drew) 16 [(161,16384,0),(162,1461501637330902918203684832716283019655932542976,1),(163,256,0),(164,1048576,0),(165,2097152,0),(166,23384026197294446691258957323460528314494920687616,16),(167,64306072042559728400962132639516452864861031890944,44),(168,2097152,0),(169,187072209578355573530071658587684226515959365500928,128),(170,33554432,0),(171,8388608,0),(172,2244866514940266882360859903052210718191512386011136,1536),(173,96459108063839592601443198959274679297291547836416,66),(174,5986310706507378352962293074805895248510699696029696,4096),(175,12346765832171467852984729466787158950053318123061248,12287),(0,26938398179283202588330318836626528618298148632133632,20479)] (fun hT576=> ?_))))
       have hEw34:Ext w33 w33.drew:=Ext.drew w33
       generalize w33.drew=w34 at hEw34⊢
       have hzw34:=hEw34.size
       have hX8:Chg (fun k=>k=w11.heap.size) w34 w34:=(Chg.refl (fun k=>k=w11.heap.size) w34)
       refine zh (hw:=hX8) hT576 [(0,160,(vP w12.heap.size 1))] 1 1 ?_
       have hK28:=(((((((((((((hkhR514.ext hEw28)).ext hEw29)).ext hEw30)).ext hEw31)).chg hCw32 (fun hs=>by have h:_=_:=hs;omega))).ext hEw33)).ext hEw34)
       refine zg (hw:=hX8) hT576 1 3 (some 161) (.slice (pA w11.heap.size 0) (tot n) (tot n)) (zi (Instr.loadAt 42 (vP w12.heap.size 1)) (fun w' hC=>zk ((hK28.chg hC (fun hs=>by have h:_=_:=hs;omega)).cell rfl))) ?_
       have hK29:=(((((((((((((hkhR58.ext hEw28)).ext hEw29)).ext hEw30)).ext hEw31)).chg hCw32 (fun hs=>by have h:_=_:=hs;omega))).ext hEw33)).ext hEw34)
       refine zg (hw:=hX8) hT576 2 7 (some 162) (vA [(vI n),(.slice (pA b4 o4) (hgt n+1) ca1),(.slice a2 (hgt n+1) ca2)]) (zi (Instr.loadAt 128 (vP w2.heap.size 0)) (fun w' hC=>zw (vs:= [(vI n),(.slice (pA b4 o4) (hgt n+1) ca1),(.slice a2 (hgt n+1) ca2)]) ((hK29.chg hC (fun hs=>by have h:_=_:=hs;omega)).all))) (zh (hw:=hX8) hT576 [(3,163,(vI v)),(4,164,(vI c))] 2 31 (zg (hw:=hX8) hT576 5 63 (some 165) (vI (c/4)) (zaa .i64 (IntKind.i64.wrap (((c:Nat):Int).tdiv ((4:Nat):Int))) (zA (zdP _ _) (by omega) (by omega))) (zh (hw:=hX8) hT576 [(7,167,(vI c))] 1 191 (zg (hw:=hX8) hT576 8 447 (some 168) (vI (c%4)) (zaa .i64 (((c:Nat):Int).tmod ((4:Nat):Int)) (zcF _ _)) (zh (hw:=hX8) hT576 [(9,169,(vB ((gt s (num n (v-1)+c))+1)))] 1 959 (zg (hw:=hX8) hT576 10 1983 (some 170) (vA (zO (zU (zS ((TX n (gB l s n v c)).getD (num n (v-1)+c) Nod.zero))))) (zi (Instr.loadAt 59 (vP w30.heap.size 0)) (fun w' hC=>zw (vs:=zO (zU (zS ((TX n (gB l s n v c)).getD (num n (v-1)+c) Nod.zero)))) (((((hBw32.ext hEw33)).ext hEw34).chg hC (fun hs=>by have h:_=_:=hs;omega)).all) (by rw [zal];kernel_rfl))) ?_))))))
       refine zg (hw:=hX8) hT576 11 4031 (some 171) (vA (zad (⟨(gt s (num n (v-1)+c))+1,(zU (zS ((TX n (gB l s n v c)).getD (num n (v-1)+c) Nod.zero))),by omega⟩))) (zi (Instr.build 71 #[(0,(vB ((gt s (num n (v-1)+c))+1))),(1,(vA (zO (zU (zS ((TX n (gB l s n v c)).getD (num n (v-1)+c) Nod.zero))))))]) (fun w' hC=>zcm ((gt s (num n (v-1)+c))+1) (zU (zS ((TX n (gB l s n v c)).getD (num n (v-1)+c) Nod.zero))) (by omega))) ?_
       have hK30:=(((((((((((((hs1hR5.ext hEw28)).ext hEw29)).ext hEw30)).ext hEw31)).chg hCw32 (fun k h1 h2 hs=>by have h:k=_:=hs;omega))).ext hEw33)).ext hEw34)
       have hK31:=(((((((((((((hs2hR5.ext hEw28)).ext hEw29)).ext hEw30)).ext hEw31)).chg hCw32 (fun k h1 h2 hs=>by have h:k=_:=hs;omega))).ext hEw33)).ext hEw34)
       refine zz 6 4095 (zl (some 166) (zem n v (c/4) _ hK30 hK31 (by first | rfl | assumption) (by first | rfl | assumption) (by omega) (by omega) (by omega) (by omega)) ?_)
       rintro _ w35 ⟨rfl,hEw35⟩
       have hzw35:=hEw35.size
       have hX9:Chg (fun k=>k=w11.heap.size) w34 w35:=((Chg.refl (fun k=>k=w11.heap.size) w34).trans hEw35.chg)
       refine ⟨.inr hX9, ?_⟩
       refine zg (hw:=hX9) hT576 12 8191 (some 172) (vP w11.heap.size (0+(num n v+(c/4))*274)) (zi (Instr.indexAt 42 (.slice (pA w11.heap.size 0) (tot n) (tot n)) (vI (num n v+(c/4)))) (fun w' hC=>zP (E:=74) (sz:=274) (by omega))) (zh (hw:=hX9) hT576 [(13,173,(vP w11.heap.size (0+(num n v+(c/4))*274+142)))] 1 16383 (zg (hw:=hX9) hT576 14 32767 (some 174) (vP w11.heap.size (0+(num n v+(c/4))*274+142+(c%4)*33)) (zi (Instr.indexAt 72 (vP w11.heap.size (0+(num n v+(c/4))*274+142)) (vI (c%4))) (fun w' hC=>zag (E:=71) (sz:=33) (m:=4) (by omega))) ?_))
       have hK32:=(((((((((((((((hR5.ext hEw28)).ext hEw29)).ext hEw30)).ext hEw31)).chg hCw32 (fun hs=>by have h:_=_:=hs;omega))).ext hEw33)).ext hEw34)).ext hEw35)
       refine zz 15 65535 (zv 71 w11.heap.size (0+(num n v+(c/4))*274+142+(c%4)*33) 74 (vA (zad (⟨(gt s (num n (v-1)+c))+1,(zU (zS ((TX n (gB l s n v c)).getD (num n (v-1)+c) Nod.zero))),by omega⟩))) ((TX n (gB l s n v c)).flatMap zH) (zad (⟨(gt s (num n (v-1)+c))+1,(zU (zS ((TX n (gB l s n v c)).getD (num n (v-1)+c) Nod.zero))),by omega⟩)) hK32 (by rw [zaF];kernel_rfl) (by (try simp only [List.length_append]);rw [zaz zV];have:=(show List.length (TX n (gB l s n v c))=tot n from zbw _ _);have hq:num n v+(c/4)<List.length (TX n (gB l s n v c)):=(by rw [zbw];try omega);rw [zaF];omega) (zcy _) ?_)
       have hK33:=(((((((((((((((hR5.ext hEw28)).ext hEw29)).ext hEw30)).ext hEw31)).chg hCw32 (fun hs=>by have h:_=_:=hs;omega))).ext hEw33)).ext hEw34)).ext hEw35)
       intro w36 hBw36 hCw36
       have hzw36:=hCw36.size
       rw [show (zac ((TX n (gB l s n v c)).flatMap zH) (0+(num n v+(c/4))*274+142+(c%4)*33) (zad (⟨(gt s (num n (v-1)+c))+1,(zU (zS ((TX n (gB l s n v c)).getD (num n (v-1)+c) Nod.zero))),by omega⟩)):List Value)=(TX n (gB l s n v (c+1))).flatMap zH from ((show zac ((TX n (gB l s n v c)).flatMap zH) (0+(num n v+(c/4))*274+142+(c%4)*33) (zad (⟨(gt s (num n (v-1)+c))+1,(zU (zS ((TX n (gB l s n v c)).getD (num n (v-1)+c) Nod.zero))),by omega⟩))=((TX n (gB l s n v c)).set (num n v+(c/4)) (((TX n (gB l s n v c)).getD (num n v+(c/4)) Nod.zero).setE (c%4) (⟨(gt s (num n (v-1)+c))+1,(zU (zS ((TX n (gB l s n v c)).getD (num n (v-1)+c) Nod.zero))),by omega⟩))).flatMap zH from by have hz:=(zb1 zV Nod.zero (((TX n (gB l s n v c)).getD (num n v+(c/4)) Nod.zero).setE (c%4) (⟨(gt s (num n (v-1)+c))+1,(zU (zS ((TX n (gB l s n v c)).getD (num n (v-1)+c) Nod.zero))),by omega⟩)) (TX n (gB l s n v c)) (num n v+(c/4)) (142+(c%4)*33) (zad (⟨(gt s (num n (v-1)+c))+1,(zU (zS ((TX n (gB l s n v c)).getD (num n (v-1)+c) Nod.zero))),by omega⟩)) [] (by rw [zbw];try omega) (nod_setE (by omega)) (by rw [zaF];omega));rw [List.append_nil,List.append_nil] at hz;rw [show 0+(num n v+(c/4))*274+142+(c%4)*33=(num n v+(c/4))*274+(142+(c%4)*33) from by omega];exact hz)).trans (congrArg (fun z=>List.flatMap zH z) (show ((TX n (gB l s n v c)).set (num n v+(c/4)) (((TX n (gB l s n v c)).getD (num n v+(c/4)) Nod.zero).setE (c%4) (⟨(gt s (num n (v-1)+c))+1,(zU (zS ((TX n (gB l s n v c)).getD (num n (v-1)+c) Nod.zero))),by omega⟩)))=(TX n (gB l s n v (c+1))) from zqS (by omega) (by omega) hc4 (zqM hnl hem rfl (by rw [hnd]))))] at hBw36
       have hmw36:Ms zH 274 w11.heap.size (w11.heap.size+1) w36 (pA w11.heap.size 0) (tot n) (tot n) (TX n (gB l s n v (c+1))):=Ms.of_pre (r:= []) (by rw [List.append_nil];exact hBw36) zV (by rw [zbw];try omega) (by omega) (by simp only [maxLen];omega) (by omega) (by omega)
       have hX10:Chg (fun k=>k=w11.heap.size) w34 w36:=(Chg.then ((Chg.refl (fun k=>k=w11.heap.size) w34).trans hEw35.chg) hCw36 (fun k hk hs=>by have h:k=_:=hs;first | exact hs | exact .inl h | exact .inr h |(exfalso;omega)))
       refine ⟨.inr hX10, ?_⟩
       refine zJ (zp (zb (zd (za (zt (some 175) .i64 (IntKind.i64.wrap (((c:Nat):Int)+((1:Nat):Int))) (c+1) (zA (by omega) (by omega) (by omega)) ?_)))))
       refine zc 1 [(128,(vI (c+1)))] (zf (zF ?_))
       have hK34:=(((((((((((((((((hkhR56.ext hEw28)).ext hEw29)).ext hEw30)).ext hEw31)).chg hCw32 (fun hs=>by have h:_=_:=hs;omega))).ext hEw33)).ext hEw34)).ext hEw35)).chg hCw36 (fun hs=>by have h:_=_:=hs;omega))
       have hX11:Ext w w36:=(Ext.own ((((Ext.own ((((hEhR5.trans hEw28).trans hEw29).trans hEw30).trans hEw31) hCw32 (by omega)).trans hEw33).trans hEw34).trans hEw35) hCw36 (by omega))
       refine zR (c+1) ?_ ?_
       ·exact ⟨by omega,by exact hBw36,hK34,(((hK29.ext hEw35)).chg hCw36 (fun hs=>by have h:_=_:=hs;omega)),(((hK28.ext hEw35)).chg hCw36 (fun hs=>by have h:_=_:=hs;omega)),(((hK30.ext hEw35)).chg hCw36 (fun k h1 h2 hs=>by have h:k=_:=hs;omega)),(((hK31.ext hEw35)).chg hCw36 (fun k h1 h2 hs=>by have h:k=_:=hs;omega)),hX11⟩
       ·first | omega |(dsimp only;omega)
      ·replace hc142:¬(usd ((TX n (gB l s n v c)).getD (num n (v-1)+c) Nod.zero) 4>0):=by have:=zae hc142;omega
       have hem:=hus.2 (by omega)
       refine zf (zb (zn (zu (zp (zb (zd (za (zt (some 175) .i64 (IntKind.i64.wrap (((c:Nat):Int)+((1:Nat):Int))) (c+1) (zA (by omega) (by omega) (by omega)) ?_))))))))
       refine zc 1 [(128,(vI (c+1)))] (zf (zF (zR (c+1) ?_ ?_)))
       ·exact ⟨by omega,by rw [←zrR (zgi hem)];exact (((hR5.ext hEw28)).ext hEw29),(((hkhR56.ext hEw28)).ext hEw29),(((hkhR58.ext hEw28)).ext hEw29),(((hkhR514.ext hEw28)).ext hEw29),(((hs1hR5.ext hEw28)).ext hEw29),(((hs2hR5.ext hEw28)).ext hEw29),((hEhR5.trans hEw28).trans hEw29)⟩
       ·first | omega |(dsimp only;omega)
     ·replace hc129:¬(c<gt (zaI n (hgt n+1)) (v-1)):=by have:=zae hc129;omega
      obtain rfl:c=cnt n (v-1):=by omega
      refine zf (zb (ze (zn (zW (zx (zx (zL (zp (zb ?_)))))))))
      refine zd (zc 1 [(120,(vI v))] (za (zt (some 121) .i64 (IntKind.i64.wrap (((v:Nat):Int)+((1:Nat):Int))) (v+1) (zA (by omega) (by omega) (by omega)) ?_)))
      refine zc 1 [(20,(vI (v+1)))] (zf (zF (zR (v+1) ?_ ?_)))
      ·exact ⟨by omega,by rw [←zns hnl (by omega)];exact hR5,hkhR56,hkhR58,hkhR514,hs1hR5,hs2hR5,hEhR5⟩
      ·first | omega |(dsimp only;omega)
    ·replace hc119:¬(v<hgt n+1):=by have:=zae hc119;omega
     obtain rfl:v=hgt n+1:=by omega
     refine zf (zb (zn (zW (zx (zx (zL (zb (ze (zd ?_)))))))))
     refine za (zj (some 176) (Instr.loadAt 44 (vP w12.heap.size 0)) (vA [(vI n),(.slice (pA w11.heap.size 0) (tot n) (tot n))]) (zw (vs:= [(vI n),(.slice (pA w11.heap.size 0) (tot n) (tot n))]) (hkhR414.all)) ?_)
     refine za (zv 44 w.heap.size 0 44 (vA [(vI n),(.slice (pA w11.heap.size 0) (tot n) (tot n))]) ([(vI 0),(.slice none 0 0)]) ([(vI n),(.slice (pA w11.heap.size 0) (tot n) (tot n))]) hkhR46 (by kernel_rfl) (by first | decide |(simp;done)|(simp;omega)) (by simp [Value.oneCell']) ?_)
     intro w37 hBw37 hCw37
     have hzw37:=hCw37.size
     rw [zm _ _ (by kernel_rfl)] at hBw37
     exact zc 1 [(7,(vI 0))] (zf (zb (zq (zaX (show zZ Tryz.prog 177 _ _ (.cell 6 44) (vA [(vI n),(.slice (pA w11.heap.size 0) (tot n) (tot n))]) from ⟨⟨w.heap.size,0,none⟩,(by kernel_rfl),zN (T:=44) (vs:= [(vI n),(.slice (pA w11.heap.size 0) (tot n) (tot n))]) (hBw37).all (by kernel_rfl)⟩) (show zZ Tryz.prog 177 _ _ (.tmp 7) (vI 0) by (show _=_;kernel_rfl)) (⟨_,rfl,OwM.of_full (by rw [←zpY hnl];exact ((hR4).chg hCw37 (fun hs=>by have h:_=_:=hs;omega))) zV (by rw [zgA,←hnl]) (by simp only [maxLen];omega) (by omega) (by omega),(Ext.own hEhR4 hCw37 (by omega))⟩)))))
end Go.Proofs.YtkmhgepdhilllaaGreatDoor
namespace Go.Proofs.YtkmhgepdhilllaaGreatDoor
open Go Go.RowKit Go.Cs
set_option maxRecDepth 100000
theorem zjO (n:Nat) (w:World) (hp0:1≤n) (hp1:n≤4096):
  Calls Tryz.prog 76 #[(vI n)] w (Ret fun r w'=>∃a0 ca0 a1 ca1,r=(.tuple #[(vA [(.slice a0 (hgt n+1) ca0),(.slice a1 (hgt n+1) ca1)]),(vI 0)])∧Es (nv .i64) w.heap.size w'.heap.size w' a0 (hgt n+1) ca0 (zaI n (hgt n+1))∧Es (nv .i64) w.heap.size w'.heap.size w' a1 (hgt n+1) ca1 (za0 n (hgt n+1))∧Ext w w'):=by
 refine zI (n:=46) (σ:= [(0,(vI n))]) Tryz.func76 rfl ?_
 have h5:=zat n
 refine ze (zd (za (zo (some 2) (Instr.alloc 114 true (.tuple #[])) (vP w.heap.size 0) ([(.slice none 0 0),(.slice none 0 0)]) 114 ?_)))
 intro w1 hBw1 hEw1
 have hzw1:=hEw1.size;have hlw1:=hBw1.lt
 refine zc 1 [(3,(vI 0))] (zf (zb (ze (zd (zc 1 [(10,(vI n))] (za (zl (some 11) (zjL n _ (by omega) (by omega)) ?_)))))))
 rintro _ w2 ⟨rfl,hEw2⟩
 have hzw2:=hEw2.size
 refine zc 5 [(3,(vI 0)),(4,(vI (hgt n))),(13,(vI 0)),(12,(vI (hgt n))),(9,(.tuple #[(vI (hgt n)),(vI 0)]))] (zf (zb (ze (ze (zd (zc 2 [(15,vF),(14,(vI 0))] (zf (zb (zn ?_)))))))))
 refine zu (zb (ze (zd (zc 1 [(5,(vI 0))] (zf (zb (ze (ze (zd ?_)))))))))
 refine zc 1 [(18,(vI (hgt n)))] (za (zt (some 19) .i64 (IntKind.i64.wrap (((hgt n:Nat):Int)+((1:Nat):Int))) (hgt n+1) (zA (by omega) (by omega) (by omega)) ?_))
 refine zc 1 [(20,(vI 0))] (zf (zb (zy (zY (X:=Nat×Nat×Nat×Option Addr×Option Addr×Nat×Nat) (fun ⟨v,g1,g2,ao,aq,cp,cq⟩=> [(5,(vI (num n v))),(20,(vI v))]) [6,7,8,21,22,23,24,25,26,27,28,29,30,31,32,33,34,35,36,37,38,39,40,41,42,43,44] (fun ⟨v,g1,g2,ao,aq,cp,cq⟩ w3=>v≤hgt n+1∧(Cs.Own (nv .i64) g1 (g1+1) w3 ao v cp 3 (zaI n v))∧(Cs.Own (nv .i64) g2 (g2+1) w3 aq v cq 3 (za0 n v))∧Blk w3 w.heap.size ([(.slice ao v cp),(.slice aq v cq)]) 114∧(g1≠g2∧g1≠w.heap.size∧g2≠w.heap.size∧w.heap.size≤g1∧w.heap.size≤g2∧g1≤w3.heap.size∧g2≤w3.heap.size+1)∧Ext w w3) (fun ⟨v,g1,g2,ao,aq,cp,cq⟩=>hgt n+1-v) (0,w2.heap.size,w2.heap.size+1,none,none,0,0) (by kernel_rfl) ⟨by omega,Cs.Own.nil _ _ _ _ _,Cs.Own.nil _ _ _ _ _,(hBw1.ext hEw2),by omega,(hEw1.trans hEw2)⟩ ?_))))
 rintro ⟨v,g1,g2,ao,aq,cp,cq⟩ dw3 w3 ⟨hv,hO1,hO2,hB2,hg,hEl⟩
 have hzl:=hEl.size;have hl2:=hB2.lt
 have hns:=zbJ (n:=n) (l:=v) hp1 (by omega)
 have hcn:=zbf n v
 have hnx:=zgf n v
 refine ze (zd (za (zK (some 21) (decide (((v:Nat):Int)<((hgt n+1:Nat):Int))) (fun hc21=> ?_) (fun hc21=> ?_))))
 ·replace hc21:v<hgt n+1:=by have:=zaf hc21;omega
  refine zf (zb (ze (zC (zu (zb (ze (zy (ze (zd ?_)))))))))
  refine zc 2 [(6,(vI v)),(22,(vI v))] (zf (zb (ze (zd (zc 2 [(25,(vI v)),(24,(vI n))] (za (zl (some 26) (zl9 n v _ (by omega) (by omega) (by omega)) ?_)))))))
  rintro _ w4 ⟨rfl,hEw4⟩
  have hzw4:=hEw4.size
  refine zc 5 [(8,(vI 0)),(7,(vI (cnt n v))),(28,(vI 0)),(27,(vI (cnt n v))),(23,(.tuple #[(vI (cnt n v)),(vI 0)]))] (zf (zb (ze (zd (zc 1 [(29,(vP w.heap.size 0))] (za (zj (some 30) (Instr.loadAt 29 (vP w.heap.size 0)) (.slice ao v cp) (zk ((hB2.ext hEw4).cell rfl)) ?_)))))))
  refine zc 1 [(31,(vI (cnt n v)))] (za (zo (some 32) (Instr.buildSlice 29 1 #[(0,(vI (cnt n v)))]) (.slice (pA w4.heap.size 0) 1 1) [(vI (cnt n v))] 3 ?_))
  intro w5 hBw5 hEw5
  have hzw5:=hEw5.size;have hlw5:=hBw5.lt
  have hSw5:Es (nv .i64) w4.heap.size (w4.heap.size+1) w5 (pA w4.heap.size 0) 1 1 ([cnt n v]):=Es.of_blk hBw5 rfl rfl (Nat.le_refl _) (by decide) (Nat.le_refl _) (Nat.lt_succ_self _)
  have hsm1:=fun (k:Nat) (hk:zdx aq k)=>((((hO2.ext hEw4)).ext hEw5)).ltk hk
  refine za (zfb (some 33) 29 29 3 8 (vI 0) (((hO1.ext hEw4)).ext hEw5) hSw5 (fun _=>rfl) ?_)
  intro b1 c1 w6 hOw6 hCw6 hqb1
  replace hqb1:=hqb1.imp_left ((((hO1.ext hEw4)).ext hEw5)).ltk
  have hlb1:b1<w6.heap.size:=(hOw6.row.lt b1 rfl).2
  have hzw6:=hCw6.size
  have hSw6:=hOw6.es
  refine zc 1 [(34,(vP w.heap.size 0))] ?_
  have hK1:=(((((hB2.ext hEw4)).ext hEw5)).chg hCw6 (fun hs=>by have hn:=(((hO1.ext hEw4)).ext hEw5).ne hs;omega))
  refine za (zah 29 w.heap.size 0 114 (.slice (pA b1 0) (v+1) c1) ([(.slice ao v cp),(.slice aq v cq)]) hK1 (by first | decide |(simp;done)|(simp;omega)) ?_)
  have hK2:=(((((hB2.ext hEw4)).ext hEw5)).chg hCw6 (fun hs=>by have hn:=(((hO1.ext hEw4)).ext hEw5).ne hs;omega))
  intro w7 hBw7 hCw7
  have hzw7:=hCw7.size
  rw [show (([(.slice ao v cp),(.slice aq v cq)]).set 0 (.slice (pA b1 0) (v+1) c1):List Value)= [(.slice (pA b1 0) (v+1) c1),(.slice aq v cq)] from rfl] at hBw7
  refine zf (zb (ze (zd (zc 1 [(35,(vP w.heap.size 1))] (za (zj (some 36) (Instr.loadAt 29 (vP w.heap.size 1)) (.slice aq v cq) (zk (hBw7.cell rfl)) ?_))))))
  refine zc 1 [(37,(vI (num n v)))] (za (zo (some 38) (Instr.buildSlice 29 1 #[(0,(vI (num n v)))]) (.slice (pA w7.heap.size 0) 1 1) [(vI (num n v))] 3 ?_))
  intro w8 hBw8 hEw8
  have hzw8:=hEw8.size;have hlw8:=hBw8.lt
  have hSw8:Es (nv .i64) w7.heap.size (w7.heap.size+1) w8 (pA w7.heap.size 0) 1 1 ([num n v]):=Es.of_blk hBw8 rfl rfl (Nat.le_refl _) (by decide) (Nat.le_refl _) (Nat.lt_succ_self _)
  have hK3:=(((((((((hO2.ext hEw4)).ext hEw5)).chg hCw6 (fun k h1 h2 hs=>by have hn:=(((hO1.ext hEw4)).ext hEw5).ne hs;omega))).chg hCw7 (fun k h1 h2 hs=>by have h:k=_:=hs;omega))).ext hEw8)
  refine za (zfb (some 39) 29 29 3 8 (vI 0) hK3 hSw8 (fun _=>rfl) ?_)
  intro b2 c2 w9 hOw9 hCw9 hqb2
  replace hqb2:=hqb2.imp_left (hsm1 _)
  have hlb2:b2<w9.heap.size:=(hOw9.row.lt b2 rfl).2
  have hzw9:=hCw9.size
  have hSw9:=hOw9.es
  refine zc 1 [(40,(vP w.heap.size 1))] (za (zah 29 w.heap.size 1 114 (.slice (pA b2 0) (v+1) c2) ([(.slice (pA b1 0) (v+1) c1),(.slice aq v cq)]) (((hBw7.ext hEw8)).chg hCw9 (fun hs=>by have hn:=(hsm1 _) hs;omega)) (by first | decide |(simp;done)|(simp;omega)) ?_))
  intro w10 hBw10 hCw10
  have hzw10:=hCw10.size
  rw [show (([(.slice (pA b1 0) (v+1) c1),(.slice aq v cq)]).set 1 (.slice (pA b2 0) (v+1) c2):List Value)= [(.slice (pA b1 0) (v+1) c1),(.slice (pA b2 0) (v+1) c2)] from rfl] at hBw10
  refine zf (zb (zd (zc 2 [(42,(vI (cnt n v))),(41,(vI (num n v)))] (za (zt (some 43) .i64 (IntKind.i64.wrap (((num n v:Nat):Int)+((cnt n v:Nat):Int))) (num n (v+1)) (zA (by omega) (by omega) (by omega)) ?_)))))
  refine zc 1 [(5,(vI (num n (v+1))))] (zf (zp (zb (zd (za (zt (some 44) .i64 (IntKind.i64.wrap (((v:Nat):Int)+((1:Nat):Int))) (v+1) (zA (by omega) (by omega) (by omega)) ?_))))))
  refine zc 1 [(20,(vI (v+1)))] (zf (zF ?_))
  have hK4:=((((((((hOw6).chg hCw7 (fun k h1 h2 hs=>by have h:k=_:=hs;omega))).ext hEw8)).chg hCw9 (fun k h1 h2 hs=>by have hn:=(hsm1 _) hs;omega))).chg hCw10 (fun k h1 h2 hs=>by have h:k=_:=hs;omega))
  have hK5:=(((((((((hO2.ext hEw4)).ext hEw5)).chg hCw6 (fun k h1 h2 hs=>by have hn:=(((hO1.ext hEw4)).ext hEw5).ne hs;omega))).chg hCw7 (fun k h1 h2 hs=>by have h:k=_:=hs;omega))).ext hEw8)
  have hX1:Ext w w10:=(Ext.own (Ext.ownS ((Ext.own (Ext.ownS ((hEl.trans hEw4).trans hEw5) hCw6 (fun k hs hk=>by have hn:=(((hO1.ext hEw4)).ext hEw5).ne hs;omega)) hCw7 (by omega)).trans hEw8) hCw9 (fun k hs hk=>by have hn:=hK5.ne hs;omega)) hCw10 (by omega))
  refine zR (v+1,b1,b2,(pA b1 0),(pA b2 0),c1,c2) ?_ ?_
  ·exact ⟨by omega,by rw [zje];exact hK4,by rw [zjd];exact ((hOw9).chg hCw10 (fun k h1 h2 hs=>by have h:k=_:=hs;omega)),hBw10,by omega,hX1⟩
  ·first | omega |(dsimp only;omega)
 ·replace hc21:¬(v<hgt n+1):=by have:=zae hc21;omega
  refine zf (zb (ze (zn (zW (zx (zx (zL (zb (ze ?_)))))))))
  refine zd (za (zj (some 45) (Instr.loadAt 114 (vP w.heap.size 0)) (vA [(.slice ao v cp),(.slice aq v cq)]) (zw (vs:= [(.slice ao v cp),(.slice aq v cq)]) (hB2.all)) ?_))
  refine za (zv 114 w.heap.size 0 114 (vA [(.slice ao v cp),(.slice aq v cq)]) ([(.slice ao v cp),(.slice aq v cq)]) ([(.slice ao v cp),(.slice aq v cq)]) hB2 (by kernel_rfl) (by first | decide |(simp;done)|(simp;omega)) (by simp [Value.oneCell']) ?_)
  intro w11 hBw11 hCw11
  have hzw11:=hCw11.size
  rw [zm _ _ (by kernel_rfl)] at hBw11
  refine zc 1 [(3,(vI 0))] (zf (zb (zq (zaX (show zZ Tryz.prog 46 _ _ (.cell 2 114) (vA [(.slice ao v cp),(.slice aq v cq)]) from ⟨⟨w.heap.size,0,none⟩,(by kernel_rfl),zN (T:=114) (vs:= [(.slice ao v cp),(.slice aq v cq)]) (hBw11).all (by kernel_rfl)⟩) (show zZ Tryz.prog 46 _ _ (.tmp 3) (vI 0) by (show _=_;kernel_rfl)) ?_))))
  obtain rfl:v=hgt n+1:=by omega
  exact ⟨_,_,_,_,rfl,(((hO1).chg hCw11 (fun k h1 h2 hs=>by have h:k=_:=hs;omega))).es.now.mono (by omega) (Nat.le_refl _),(((hO2).chg hCw11 (fun k h1 h2 hs=>by have h:k=_:=hs;omega))).es.now.mono (by omega) (Nat.le_refl _),(Ext.own hEl hCw11 (by omega))⟩
theorem zoo (n:Int) (w:World) (hp0:¬(1≤n∧n≤4096)):
  Calls Tryz.prog 76 #[(.int .i64 n)] w (Ret fun r w'=>r=(.tuple #[(vA [(.slice none 0 0),(.slice none 0 0)]),(vI 1)])∧Ext w w'):=by
 refine zI (n:=46) (σ:= [(0,(.int .i64 n))]) Tryz.func76 rfl ?_
 refine ze (zd (za (zo (some 2) (Instr.alloc 114 true (.tuple #[])) (vP w.heap.size 0) ([(.slice none 0 0),(.slice none 0 0)]) 114 ?_)))
 intro w1 hBw1 hEw1
 have hzw1:=hEw1.size;have hlw1:=hBw1.lt
 refine zc 1 [(3,(vI 0))] (zf (zb (ze (zd (zc 1 [(10,(.int .i64 n))] (za (zl (some 11) (zhs n _ (by omega)) ?_)))))))
 rintro _ w2 ⟨rfl,hEw2⟩
 have hzw2:=hEw2.size
 refine zc 5 [(3,(vI 1)),(4,(vI 0)),(13,(vI 1)),(12,(vI 0)),(9,(.tuple #[(vI 0),(vI 1)]))] (zf (zb (ze (ze (zd (zc 2 [(15,vT),(14,(vI 1))] (zf (zb (zC ?_)))))))))
 refine ze (zd (za (zj (some 16) (Instr.loadAt 114 (vP w.heap.size 0)) (vA ([(.slice none 0 0),(.slice none 0 0)])) (zw (vs:= [(.slice none 0 0),(.slice none 0 0)]) ((hBw1.ext hEw2).all)) ?_)))
 refine zc 1 [(17,(vI 1))] (za (zv 114 w.heap.size 0 114 (vA ([(.slice none 0 0),(.slice none 0 0)])) ([(.slice none 0 0),(.slice none 0 0)]) ([(.slice none 0 0),(.slice none 0 0)]) (hBw1.ext hEw2) (by kernel_rfl) (by first | decide |(simp;done)|(simp;omega)) (by simp [Value.oneCell']) ?_))
 intro w3 hBw3 hCw3
 have hzw3:=hCw3.size
 rw [zm _ _ (by kernel_rfl)] at hBw3
 exact zc 1 [(3,(vI 1))] (zf (zb (zq (zD (zaX (show zZ Tryz.prog 46 _ _ (.cell 2 114) (vA ([(.slice none 0 0),(.slice none 0 0)])) from ⟨⟨w.heap.size,0,none⟩,(by kernel_rfl),zN (T:=114) (vs:= [(.slice none 0 0),(.slice none 0 0)]) (hBw3).all (by kernel_rfl)⟩) (show zZ Tryz.prog 46 _ _ (.tmp 3) (vI 1) by (show _=_;kernel_rfl)) (⟨rfl,(Ext.own (hEw1.trans hEw2) hCw3 (by omega))⟩))))))
theorem zhz {lo_c hi_c:Nat} {a_c:Option Addr} {n_c c_c:Nat} {c:List Nat} {lo_f hi_f:Nat} {a_f:Option Addr} {n_f c_f:Nat} {f:List Nat} (n:Nat) (w:World) (h_c:Es (nv .i64) lo_c hi_c w a_c n_c c_c c) (h_f:Es (nv .i64) lo_f hi_f w a_f n_f c_f f) (hp0:c=zaI n (hgt n+1)) (hp1:f=za0 n (hgt n+1)) (hp2:1≤n) (hp3:n≤4096):
  Calls Tryz.prog 77 #[(vA [(.slice a_c n_c c_c),(.slice a_f n_f c_f)])] w (Ret fun r w'=>r=(vI (tot n))∧Ext w w'):=by
 refine zI (n:=12) (σ:= [(0,(vA [(.slice a_c n_c c_c),(.slice a_f n_f c_f)]))]) Tryz.func77 rfl ?_
 replace h_c:=h_c.now;have hle_c:=h_c.le
 replace h_f:=h_f.now;have hle_f:=h_f.le
 have hlc:=h_c.len_eq;rw [hp0,zbL] at hlc
 have hlf:=h_f.len_eq;rw [hp1,zb6] at hlf
 have h5:=zat n
 have hts:=zaw hp3
 have htt:=zcC hp2 hp3
 have hgf:gt f (n_f-1)=num n (hgt n):=by rw [show n_f-1=hgt n from by omega,hp1];exact zci (by omega)
 refine ze (zd (za (zo (some 1) (Instr.box 114 (vA [(.slice a_c n_c c_c),(.slice a_f n_f c_f)])) (vP w.heap.size 0) ([(.slice a_c n_c c_c),(.slice a_f n_f c_f)]) 114 ?_)))
 intro w1 hBw1 hEw1
 have hzw1:=hEw1.size;have hlw1:=hBw1.lt
 refine zc 1 [(2,(vI 0))] (zf (zb (ze (zd (zc 1 [(3,(vP w.heap.size 1))] (za (zj (some 4) (Instr.loadAt 29 (vP w.heap.size 1)) (.slice a_f n_f c_f) (zk (hBw1.cell rfl)) ?_)))))))
 refine zc 1 [(5,(vP w.heap.size 1))] (za (zj (some 6) (Instr.loadAt 29 (vP w.heap.size 1)) (.slice a_f n_f c_f) (zk (hBw1.cell rfl)) ?_))
 refine zc 1 [(7,(vI n_f))] (za (zt (some 8) .i64 (IntKind.i64.wrap (((n_f:Nat):Int)-((1:Nat):Int))) (n_f-1) (zA (by omega) (by omega) (by omega)) ?_))
 obtain ⟨b1,o1,rfl⟩:=h_f.addr (by omega)
 refine za (zj (some 9) (Instr.indexAt 29 (.slice (pA b1 o1) n_f c_f) (vI (n_f-1))) (vP b1 (o1+(n_f-1)*1)) (zP (E:=3) (sz:=1) (by omega)) ?_)
 refine za (zj (some 10) (Instr.loadAt 3 (vP b1 (o1+(n_f-1)*1))) (vI (gt f (n_f-1))) (zk ((h_f.ext hEw1).celln (by omega))) ?_)
 refine za (zt (some 11) .i64 (IntKind.i64.wrap (((gt f (n_f-1):Nat):Int)+((1:Nat):Int))) (tot n) (zA (by omega) (by omega) (by omega)) ?_)
 exact zc 1 [(2,(vI (tot n)))] (zf (zb (zq (zr (vI (tot n)) (⟨rfl,hEw1⟩)))))
theorem zmc (x:Un) (w:World) (hp0:x.sl=0∨x.sl=1):
  Calls Tryz.prog 49 #[(vA (unC x))] w (Ret fun r w'=>r=(.int .i64 (slU x))∧Ext w w'):=by
 refine zI (n:=10) (σ:= [(0,(vA (unC x)))]) Tryz.func49 rfl ?_
 refine ze (zd (za (zo (some 1) (Instr.box 77 (vA (unC x))) (vP w.heap.size 0) (unC x) 77 ?_)))
 intro w1 hBw1 hEw1
 have hzw1:=hEw1.size;have hlw1:=hBw1.lt
 refine zc 1 [(2,(vI 0))] (zf (zb (ze (ze (zd (zc 1 [(3,(vP w.heap.size 275))] ?_))))))
 rcases Bool.eq_false_or_eq_true (x.dt) with hb4 | hb4
 ·refine za (zj (some 4) (Instr.loadAt 4 (vP w.heap.size 275)) vT (zk (Eq.trans (hBw1.cell (zdc _)) (congrArg (fun z=>some (Value.bool z)) hb4))) ?_)
  refine zf (zb (zC (ze (zd (zc 1 [(5,(vP w.heap.size 274))] (za (zj (some 6) (Instr.loadAt 3 (vP w.heap.size 274)) (.int .i64 x.sl) (zk (hBw1.cell (zbk _))) ?_)))))))
  refine za (zhp (some 7) .i64 (IntKind.i64.wrap (((1:Nat):Int)-x.sl)) (((1:Nat):Int)-x.sl) (zA rfl (by omega) (by omega)) ?_)
  exact zc 1 [(2,(.int .i64 (((1:Nat):Int)-x.sl)))] (zf (zb (zq (zD (zr (.int .i64 (((1:Nat):Int)-x.sl)) (⟨by unfold slU;rw [if_pos hb4];first | rfl | done,hEw1⟩))))))
 ·refine za (zj (some 4) (Instr.loadAt 4 (vP w.heap.size 275)) vF (zk (Eq.trans (hBw1.cell (zdc _)) (congrArg (fun z=>some (Value.bool z)) hb4))) ?_)
  refine zf (zb (zn (zu (zb (ze (zd (zc 1 [(8,(vP w.heap.size 274))] (za (zj (some 9) (Instr.loadAt 3 (vP w.heap.size 274)) (.int .i64 x.sl) (zk (hBw1.cell (zbk _))) ?_)))))))))
  exact zc 1 [(2,(.int .i64 x.sl))] (zf (zb (zq (zr (.int .i64 x.sl) (⟨by unfold slU;rw [if_neg (by rw [hb4];decide)];first | rfl | done,hEw1⟩)))))
theorem zri (s:Nat) (w:World) (hp0:1≤s∧s≤2):
  Calls Tryz.prog 74 #[(vB s)] w (Ret fun r w'=>r=(.tuple #[(vI (s-1)),(vI 0)])∧Ext w w'):=by
 refine zI (n:=13) (σ:= [(0,(vB s))]) Tryz.func74 rfl ?_
 refine ze (zd (zc 2 [(3,(vI 0)),(2,(vI 0))] (zf (zb (ze (ze (zd (zc 1 [(4,(vB s))] (zf ?_)))))))))
 refine zb (zy (ze (zd (za (zai (some 6) (((s:Nat):Int)==((0:Nat):Int)) false (zcc (by omega)) ?_)))))
 refine zc 1 [(5,vF)] (zf (zb (zn (ze (ze (zd (za (zK (some 8) ((((s:Nat):Int)==((1:Nat):Int))) (fun hc8=> ?_) (fun hc8=> ?_)))))))))
 ·replace hc8:s=1:=by have:=zbp hc8;omega
  refine zc 1 [(7,vT)] (zf (zb (zC (zu (zb (zC (ze (zd (zc 1 [(10,(vB s))] ?_)))))))))
  refine za (zt (some 11) .i64 (IntKind.i64.wrap ((s:Nat):Int)) s (zA rfl (by omega) (by omega)) ?_)
  refine za (zt (some 12) .i64 (IntKind.i64.wrap (((s:Nat):Int)-((1:Nat):Int))) (s-1) (zA (by omega) (by omega) (by omega)) ?_)
  exact zc 2 [(3,(vI 0)),(2,(vI (s-1)))] (zf (zb (zq (zG (zD (zr (.tuple #[(vI (s-1)),(vI 0)]) (⟨rfl,(Ext.refl _)⟩)))))))
 ·replace hc8:¬(s=1):=by have:=zbo hc8;omega
  refine zc 1 [(7,vF)] (zf (zb (zn (zd (za (zai (some 9) (((s:Nat):Int)==((2:Nat):Int)) true (zas (by omega)) ?_))))))
  refine zc 1 [(7,vT)] (zf (zb (zC (ze (zd (zc 1 [(10,(vB s))] (za (zt (some 11) .i64 (IntKind.i64.wrap ((s:Nat):Int)) s (zA rfl (by omega) (by omega)) ?_))))))))
  refine za (zt (some 12) .i64 (IntKind.i64.wrap (((s:Nat):Int)-((1:Nat):Int))) (s-1) (zA (by omega) (by omega) (by omega)) ?_)
  exact zc 2 [(3,(vI 0)),(2,(vI (s-1)))] (zf (zb (zq (zG (zD (zr (.tuple #[(vI (s-1)),(vI 0)]) (⟨rfl,(Ext.refl _)⟩)))))))
theorem zpp (s:Nat) (w:World) (hp0:s=0∨2<s):
  Calls Tryz.prog 74 #[(vB s)] w (Ret fun r w'=>∃(a1:Nat),r=(.tuple #[(vI 0),(vI a1)])∧a1≠0∧Ext w w'):=by
 refine zI (n:=13) (σ:= [(0,(vB s))]) Tryz.func74 rfl ?_
 refine ze (zd (zc 2 [(3,(vI 0)),(2,(vI 0))] (zf (zb (ze (ze (zd (zc 1 [(4,(vB s))] (zf ?_)))))))))
 refine zb (zy (ze (zd (za (zK (some 6) ((((s:Nat):Int)==((0:Nat):Int))) (fun hc6=> ?_) (fun hc6=> ?_))))))
 ·replace hc6:s=0:=by have:=zbp hc6;omega
  refine zc 1 [(5,vT)] (zf (zb (zC (ze (zd (zc 2 [(3,(vI 11)),(2,(vI 0))] (zf (zb (zq ?_)))))))))
  exact zG (zD (zr (.tuple #[(vI 0),(vI 11)]) (⟨_,rfl,by decide,(Ext.refl _)⟩)))
 ·replace hc6:¬(s=0):=by have:=zbo hc6;omega
  refine zc 1 [(5,vF)] (zf (zb (zn (ze (ze (zd (za (zai (some 8) (((s:Nat):Int)==((1:Nat):Int)) false (zcc (by omega)) ?_))))))))
  refine zc 1 [(7,vF)] (zf (zb (zn (zd (za (zai (some 9) (((s:Nat):Int)==((2:Nat):Int)) false (zcc (by omega)) ?_))))))
  refine zc 1 [(7,vF)] (zf (zb (zn (zu (zp (zb (ze (zd (zc 2 [(3,(vI 1)),(2,(vI 0))] ?_)))))))))
  exact zf (zb (zq (zr (.tuple #[(vI 0),(vI 1)]) (⟨_,rfl,by decide,(Ext.refl _)⟩))))
theorem zoe (x:Un) (k:Nat) (w:World) (hp0:k<4):
  Calls Tryz.prog 51 #[(vA (unC x)),(vI k)] w (Ret fun r w'=>r=(vI (zaT x k))∧Ext w w'):=by
 refine zI (n:=28) (σ:= [(0,(vA (unC x))),(1,(vI k))]) Tryz.func51 rfl ?_
 refine ze (zd (za (zo (some 2) (Instr.box 77 (vA (unC x))) (vP w.heap.size 0) (unC x) 77 ?_)))
 intro w1 hBw1 hEw1
 have hzw1:=hEw1.size;have hlw1:=hBw1.lt
 refine zc 1 [(4,(vI 0))] (zf (zb (ze (zd (zc 3 [(10,(vP w.heap.size 2)),(9,(vP w.heap.size 0)),(8,(vI k))] (za (zj (some 11) (Instr.indexAt 69 (vP w.heap.size 2) (vI k)) (vP w.heap.size (2+k*35)) (zag (E:=68) (sz:=35) (m:=4) (by omega)) ?_)))))))
 refine zc 1 [(12,(vP w.heap.size (2+k*35)))] (za (zj (some 13) (Instr.loadAt 5 (vP w.heap.size (2+k*35))) (vB ((x.nd.rs.get k).st)) (zk (hBw1.cell (znF (by omega)))) ?_))
 rcases Classical.em ((x.nd.rs.get k).st=0∨2<(x.nd.rs.get k).st) with hst | hst
 ·refine za (zl (some 14) (zpp ((x.nd.rs.get k).st) _ (by omega)) ?_)
  rintro _ w2 ⟨a1,rfl,hFz1_0,hEw2⟩
  have hzw2:=hEw2.size
  refine zc 5 [(6,(vI a1)),(5,(vI 0)),(16,(vI a1)),(15,(vI 0)),(7,(.tuple #[(vI 0),(vI a1)]))] (zf (zb (ze (zy (ze (zd (zc 1 [(18,(vI a1))] (za (zai (some 19) (((a1:Nat):Int) !=((0:Nat):Int)) true (zcp (by omega)) ?_)))))))))
  refine zc 1 [(17,vT)] (zf (zb (zC (ze (zd (zc 1 [(4,(vI 0))] (zf (zb (zq ?_)))))))))
  exact zG (zD (zr (vI 0) (⟨by unfold zaT;rw [if_pos hst],(hEw1.trans hEw2)⟩)))
 ·refine za (zl (some 14) (zri ((x.nd.rs.get k).st) _ (by omega)) ?_)
  rintro _ w3 ⟨rfl,hEw3⟩
  have hzw3:=hEw3.size
  refine zc 5 [(6,(vI 0)),(5,(vI (((x.nd.rs.get k).st)-1))),(16,(vI 0)),(15,(vI (((x.nd.rs.get k).st)-1))),(7,(.tuple #[(vI (((x.nd.rs.get k).st)-1)),(vI 0)]))] (zf (zb (ze (zy (ze (zd (zc 1 [(18,(vI 0))] (za (zai (some 19) (((0:Nat):Int) !=((0:Nat):Int)) false (zaA (by omega)) ?_)))))))))
  refine zc 1 [(17,vF)] (zf (zb (zn (ze (zd (zc 2 [(22,(vP w.heap.size 276)),(21,(vI k))] (za (zj (some 23) (Instr.indexAt 75 (vP w.heap.size 276) (vI k)) (vP w.heap.size (276+k*1)) (zag (E:=4) (sz:=1) (m:=4) (by omega)) ?_))))))))
  rcases Bool.eq_false_or_eq_true (x.g k) with hb24 | hb24
  ·refine za (zj (some 24) (Instr.loadAt 4 (vP w.heap.size (276+k*1))) vT (zk (Eq.trans ((hBw1.ext hEw3).cell (zqd (by omega))) (congrArg (fun z=>some (Value.bool z)) hb24))) ?_)
   refine zc 1 [(20,vT)] (zf (zb (zC (ze (zd (zc 2 [(4,(vI (((x.nd.rs.get k).st)-1))),(25,(vI (((x.nd.rs.get k).st)-1)))] (zf (zb (zq ?_)))))))))
   exact zG (zD (zr (vI (((x.nd.rs.get k).st)-1)) (⟨by unfold zaT;rw [if_neg hst,if_pos hb24],(hEw1.trans hEw3)⟩)))
  ·refine za (zj (some 24) (Instr.loadAt 4 (vP w.heap.size (276+k*1))) vF (zk (Eq.trans ((hBw1.ext hEw3).cell (zqd (by omega))) (congrArg (fun z=>some (Value.bool z)) hb24))) ?_)
   refine zc 1 [(20,vF)] (zf (zb (zn (zu (zp (zb (ze (zd (zc 1 [(26,(vI (((x.nd.rs.get k).st)-1)))] ?_)))))))))
   refine za (zt (some 27) .i64 (IntKind.i64.wrap (((1:Nat):Int)-((((x.nd.rs.get k).st)-1:Nat):Int))) (2-(x.nd.rs.get k).st) (zA (by omega) (by omega) (by omega)) ?_)
   exact zc 1 [(4,(vI (2-(x.nd.rs.get k).st)))] (zf (zb (zq (zr (vI (2-(x.nd.rs.get k).st)) (⟨by unfold zaT;rw [if_neg hst,if_neg (by rw [hb24];decide)],(hEw1.trans hEw3)⟩)))))
theorem zjJ (x:Un) (w:World) (hp0:x.sl=0∨x.sl=1) (hp1:zay x.nd=0) (hg0:Gl 0 [vI 45,vI 33] w) (hg1:Gl 1 (w8C za6) w) (hg2:Gl 3 (zar kA) w):
  Calls Tryz.prog 54 #[(vA (unC x))] w (Ret fun r w'=>r=(vA (zad (enU x)))∧Ext w w'):=by
 refine zI (n:=27) (σ:= [(0,(vA (unC x)))]) Tryz.func54 rfl ?_
 have hgl0:=hg0.lt
 have hgl1:=hg1.lt
 have hgl2:=hg2.lt
 refine ze (zd (za (zo (some 1) (Instr.box 77 (vA (unC x))) (vP w.heap.size 0) (unC x) 77 ?_)))
 intro w1 hBw1 hEw1
 have hzw1:=hEw1.size;have hlw1:=hBw1.lt
 refine za (zo (some 2) (Instr.alloc 71 true (.tuple #[])) (vP w1.heap.size 0) (zad Ent.zero) 71 ?_)
 intro w2 hBw2 hEw2
 have hzw2:=hEw2.size;have hlw2:=hBw2.lt
 refine zf (zb (ze (ze (zd (zc 1 [(7,(vP w.heap.size 0))] (za (zj (some 8) (Instr.loadAt 74 (vP w.heap.size 0)) (vA (zH x.nd)) (zw (vs:=zH x.nd) ((hBw1.ext hEw2).at 0 (zH x.nd) (zdw _)) (by rw [zV];kernel_rfl)) ?_)))))))
 refine za (zl (some 9) (zkB x.nd _) ?_)
 rintro _ w3 ⟨rfl,hEw3⟩
 have hzw3:=hEw3.size
 refine za (zK (some 10) ((((usd x.nd 4:Nat):Int)==((0:Nat):Int))) (fun hc10=> ?_) (fun hc10=> ?_))
 ·replace hc10:usd x.nd 4=0:=by have:=zbp hc10;omega
  refine zf (zb (zC (ze (zd (zc 1 [(11,(vA (zad Ent.zero)))] (za (zv 71 w1.heap.size 0 71 (vA (zad Ent.zero)) (zad Ent.zero) (zad Ent.zero) (hBw2.ext hEw3) (by rw [zaF];kernel_rfl) (by first |(simp;done)|(simp;omega)) (zcy _) ?_)))))))
  intro w4 hBw4 hCw4
  have hzw4:=hCw4.size
  rw [zm _ _ (by simp)] at hBw4
  refine zf (zb (zq (zD (zaB (show zZ Tryz.prog 27 _ _ (.cell 2 71) (vA (zad Ent.zero)) from ⟨⟨w1.heap.size,0,none⟩,(by kernel_rfl),zN (T:=71) (vs:=zad Ent.zero) (hBw4).all (by rw [zaF];kernel_rfl)⟩) ?_))))
  have hX1:Ext w w4:=(Ext.own ((hEw1.trans hEw2).trans hEw3) hCw4 (by omega))
  exact ⟨by unfold enU;rw [if_pos hc10],hX1⟩
 ·replace hc10:¬(usd x.nd 4=0):=by have:=zbo hc10;omega
  refine zf (zb (zn (zu (zb (ze (zd (zc 1 [(13,(vP w.heap.size 0))] (za (zj (some 14) (Instr.loadAt 74 (vP w.heap.size 0)) (vA (zH x.nd)) (zw (vs:=zH x.nd) ((((hBw1.ext hEw2)).ext hEw3).at 0 (zH x.nd) (zdw _)) (by rw [zV];kernel_rfl)) ?_)))))))))
  have hK1:=(((((hg0.ext hEw1)).ext hEw2)).ext hEw3)
  have hK2:=(((((hg1.ext hEw1)).ext hEw2)).ext hEw3)
  have hK3:=(((((hg2.ext hEw1)).ext hEw2)).ext hEw3)
  refine za (zl (some 15) (zeU x.nd _ (by assumption) hK1 hK2 hK3) ?_)
  rintro _ w5 ⟨rfl,hEw5⟩
  have hzw5:=hEw5.size
  refine zc 3 [(17,(vI 0)),(16,(vA (zO (zU (zS x.nd))))),(12,(.tuple #[(vA (zO (zU (zS x.nd)))),(vI 0)]))] (za (zo (some 3) (Instr.alloc 59 true (.tuple #[])) (vP w5.heap.size 0) (zO Dig.zero) 59 ?_))
  intro w6 hBw6 hEw6
  have hzw6:=hEw6.size;have hlw6:=hBw6.lt
  refine za (zv 59 w5.heap.size 0 59 (vA (zO (zU (zS x.nd)))) (zO Dig.zero) (zO (zU (zS x.nd))) hBw6 (by rw [zal];kernel_rfl) (by first |(simp;done)|(simp;omega)) (zbH _) ?_)
  intro w7 hBw7 hCw7
  have hzw7:=hCw7.size
  rw [zm _ _ (by simp)] at hBw7
  refine zc 1 [(4,(vI 0))] (zf (zb (ze (zd ?_))))
  have hK4:=(((((((((hBw1.ext hEw2)).ext hEw3)).ext hEw5)).ext hEw6)).chg hCw7 (fun hs=>by have h:_=_:=hs;omega))
  refine za (zj (some 19) (Instr.loadAt 77 (vP w.heap.size 0)) (vA (unC x)) (zw (vs:=unC x) (hK4.all) (by rw [zQ];kernel_rfl)) ?_)
  refine za (zl (some 20) (zmc x _ (by assumption)) ?_)
  rintro _ w8 ⟨rfl,hEw8⟩
  have hzw8:=hEw8.size
  rcases zjH hp0 with hs | hs
  ·rw [show slU x=((0:Nat):Int) from hs]
   refine za (zl (some 21) (zgj 0 _ (by first | omega | decide)) ?_)
   rintro _ w9 ⟨rfl,hEw9⟩
   have hzw9:=hEw9.size
   rw [show 0+1=1 from by kernel_rfl]
   refine zc 5 [(6,(vI 0)),(5,(vB 1)),(23,(vI 0)),(22,(vB 1)),(18,(.tuple #[(vB 1),(vI 0)]))] (zf (zb (ze (zd (zc 1 [(24,(vB 1))] (za (zj (some 25) (Instr.loadAt 59 (vP w5.heap.size 0)) (vA (zO (zU (zS x.nd)))) (zw (vs:=zO (zU (zS x.nd))) ((((hBw7.ext hEw8)).ext hEw9).all) (by rw [zal];kernel_rfl)) ?_)))))))
   refine za (zj (some 26) (Instr.build 71 #[(0,(vB 1)),(1,(vA (zO (zU (zS x.nd)))))]) (vA (zad (⟨1,(zU (zS x.nd)),by omega⟩))) (zcm 1 (zU (zS x.nd)) (by omega)) ?_)
   have hK5:=(((((((((((hBw2.ext hEw3)).ext hEw5)).ext hEw6)).chg hCw7 (fun hs=>by have h:_=_:=hs;omega))).ext hEw8)).ext hEw9)
   refine za (zv 71 w1.heap.size 0 71 (vA (zad (⟨1,(zU (zS x.nd)),by omega⟩))) (zad Ent.zero) (zad (⟨1,(zU (zS x.nd)),by omega⟩)) hK5 (by rw [zaF];kernel_rfl) (by first |(simp;done)|(simp;omega)) (zcy _) ?_)
   have hK6:=(((((((((((hBw2.ext hEw3)).ext hEw5)).ext hEw6)).chg hCw7 (fun hs=>by have h:_=_:=hs;omega))).ext hEw8)).ext hEw9)
   intro w10 hBw10 hCw10
   have hzw10:=hCw10.size
   rw [zm _ _ (by simp)] at hBw10
   refine zf (zb (zq (zaB (show zZ Tryz.prog 27 _ _ (.cell 2 71) (vA (zad (⟨1,(zU (zS x.nd)),by omega⟩))) from ⟨⟨w1.heap.size,0,none⟩,(by kernel_rfl),zN (T:=71) (vs:=zad (⟨1,(zU (zS x.nd)),by omega⟩)) (hBw10).all (by rw [zaF];kernel_rfl)⟩) ?_)))
   have hX2:Ext w w10:=(Ext.own (((Ext.own ((((hEw1.trans hEw2).trans hEw3).trans hEw5).trans hEw6) hCw7 (by omega)).trans hEw8).trans hEw9) hCw10 (by omega))
   exact ⟨by unfold enU;rw [if_neg hc10];exact congrArg (fun z=>vA (zad z)) (Ent.ext' (by show _=(slU x+1).toNat%2^8;rw [hs];rfl) rfl),hX2⟩
  ·rw [show slU x=((1:Nat):Int) from hs]
   refine za (zl (some 21) (zgj 1 _ (by first | omega | decide)) ?_)
   rintro _ w11 ⟨rfl,hEw11⟩
   have hzw11:=hEw11.size
   rw [show 1+1=2 from by kernel_rfl]
   refine zc 5 [(6,(vI 0)),(5,(vB 2)),(23,(vI 0)),(22,(vB 2)),(18,(.tuple #[(vB 2),(vI 0)]))] (zf (zb (ze (zd (zc 1 [(24,(vB 2))] (za (zj (some 25) (Instr.loadAt 59 (vP w5.heap.size 0)) (vA (zO (zU (zS x.nd)))) (zw (vs:=zO (zU (zS x.nd))) ((((hBw7.ext hEw8)).ext hEw11).all) (by rw [zal];kernel_rfl)) ?_)))))))
   refine za (zj (some 26) (Instr.build 71 #[(0,(vB 2)),(1,(vA (zO (zU (zS x.nd)))))]) (vA (zad (⟨2,(zU (zS x.nd)),by omega⟩))) (zcm 2 (zU (zS x.nd)) (by omega)) ?_)
   have hK7:=(((((((((((hBw2.ext hEw3)).ext hEw5)).ext hEw6)).chg hCw7 (fun hs=>by have h:_=_:=hs;omega))).ext hEw8)).ext hEw11)
   refine za (zv 71 w1.heap.size 0 71 (vA (zad (⟨2,(zU (zS x.nd)),by omega⟩))) (zad Ent.zero) (zad (⟨2,(zU (zS x.nd)),by omega⟩)) hK7 (by rw [zaF];kernel_rfl) (by first |(simp;done)|(simp;omega)) (zcy _) ?_)
   have hK8:=(((((((((((hBw2.ext hEw3)).ext hEw5)).ext hEw6)).chg hCw7 (fun hs=>by have h:_=_:=hs;omega))).ext hEw8)).ext hEw11)
   intro w12 hBw12 hCw12
   have hzw12:=hCw12.size
   rw [zm _ _ (by simp)] at hBw12
   refine zf (zb (zq (zaB (show zZ Tryz.prog 27 _ _ (.cell 2 71) (vA (zad (⟨2,(zU (zS x.nd)),by omega⟩))) from ⟨⟨w1.heap.size,0,none⟩,(by kernel_rfl),zN (T:=71) (vs:=zad (⟨2,(zU (zS x.nd)),by omega⟩)) (hBw12).all (by rw [zaF];kernel_rfl)⟩) ?_)))
   have hX3:Ext w w12:=(Ext.own (((Ext.own ((((hEw1.trans hEw2).trans hEw3).trans hEw5).trans hEw6) hCw7 (by omega)).trans hEw8).trans hEw11) hCw12 (by omega))
   exact ⟨by unfold enU;rw [if_neg hc10];exact congrArg (fun z=>vA (zad z)) (Ent.ext' (by show _=(slU x+1).toNat%2^8;rw [hs];rfl) rfl),hX3⟩
end Go.Proofs.YtkmhgepdhilllaaGreatDoor
namespace Go.Proofs.YtkmhgepdhilllaaGreatDoor
open Go Go.RowKit Go.Cs
set_option maxRecDepth 100000
theorem zoU {bq lc hc2 lf hf2 nc cc nf cf:Nat} {ac af:Option Addr} (n B lp:Nat) (U:Nat→Prop) (J Jx:Nat→World→Prop) (w:World) (hp0:1≤n) (hp1:n≤4096) (hB1:Blk w bq [(.slice ac nc cc),(.slice af nf cf)] 114) (hc:Es (nv .i64) lc hc2 w ac nc cc (zaI n (hgt n+1))) (hf:Es (nv .i64) lf hf2 w af nf cf (za0 n (hgt n+1))) (hU:∀b,(B≤b∨U b)→b≠bq∧¬(lc≤b∧b<hc2)∧¬(lf≤b∧b<hf2)) (hJ:∀k W W',J k W→Ext W W'→J k W') (hY:∀k W,k<tot n→J k W→Yat Tryz.prog lp [vI (lvK n k),vI (k)] W (fun v W'=>(v= .bool true∧J (k+1) W'∧Chg (fun b=>B≤b∨U b) W W')∨(v= .bool false∧Chg (fun b=>B≤b∨U b) W W'∧Jx k W'))) (h0:J 0 w):
  Calls Tryz.prog 91 #[(.func (.yield lp) #[] #[]),(vP bq 0)] w (Ret fun r w'=>J (tot n) w'∨∃k,k<tot n∧Jx k w'):=by
 refine zI (n:=31) (σ:= [(0,(.func (.yield lp) #[] #[])),(1,(vP bq 0))]) Tryz.func91 rfl ?_
 have hlc:=hc.len_eq;rw [zbL] at hlc
 have hlf:=hf.len_eq;rw [zb6] at hlf
 have h5:=zat n
 have hts:=zaw hp1
 have htt:=zcC hp0 hp1
 have hle0:=hc.le;have hle1:=hf.le
 refine ze (zd (zc 1 [(6,(vP bq 0))] (za (zj (some 7) (Instr.loadAt 29 (vP bq 0)) (.slice ac nc cc) (zk (hB1.cell rfl)) ?_))))
 refine zc 2 [(9,(vI 0)),(8,(vI nc))] (zf (zb (zy (zY (X:=Nat) (fun v=> [(9,(vI v))]) [3,4,5,10,11,12,13,14,15,16,17,18,19,20,21,22,23,24,25,26,27,28,29,30] (fun v w1=>v≤hgt n+1∧J (num n v) w1∧Blk w1 bq ([(.slice ac nc cc),(.slice af nf cf)]) 114∧Es (nv .i64) lc hc2 w1 ac nc cc (zaI n (hgt n+1))∧Es (nv .i64) lf hf2 w1 af nf cf (za0 n (hgt n+1))) (fun v=>hgt n+1-v) 0 (by kernel_rfl) ⟨by omega,h0,hB1,hc,hf⟩ ?_))))
 rintro v dw1 w1 ⟨hv,hJv,hB1a,hca,hfa⟩
 have hbl:=hB1a.lt
 have hcn:=zbf n v
 have hgc:v<hgt n+1→gt (zaI n (hgt n+1)) v=cnt n v:=fun hh=>zeN hh
 have hgf:v<hgt n+1→gt (za0 n (hgt n+1)) v=num n v:=fun hh=>zci hh
 refine ze (zd (za (zK (some 10) (decide (((v:Nat):Int)<((nc:Nat):Int))) (fun hc10=> ?_) (fun hc10=> ?_))))
 ·replace hc10:v<nc:=by have:=zaf hc10;omega
  replace hgc:=hgc (by omega);replace hgf:=hgf (by omega)
  refine zf (zb (ze (zC (zu (zb (ze (zy (ze (zd ?_)))))))))
  refine zc 1 [(11,(vI v))] ?_
  obtain ⟨b1,o1,rfl⟩:=hca.addr (by omega)
  refine za (zj (some 12) (Instr.indexAt 29 (.slice (pA b1 o1) nc cc) (vI v)) (vP b1 (o1+v*1)) (zP (E:=3) (sz:=1) (by omega)) ?_)
  refine za (zj (some 13) (Instr.loadAt 3 (vP b1 (o1+v*1))) (vI (gt (zaI n (hgt n+1)) v)) (zk (hca.celln (by omega))) ?_)
  refine zc 2 [(4,(vI (gt (zaI n (hgt n+1)) v))),(3,(vI v))] (zf (zb (ze (zd (zc 2 [(15,(vI 0)),(14,(vI (gt (zaI n (hgt n+1)) v)))] (zf (zb (zy (zY (X:=Nat) (fun j=> [(15,(vI j))]) [5,16,17,18,19,20,21,22,23,24,25,26,27,28,29] (fun j w2=>j≤cnt n v∧J (num n v+j) w2∧Blk w2 bq ([(.slice (pA b1 o1) nc cc),(.slice af nf cf)]) 114∧Es (nv .i64) lc hc2 w2 (pA b1 o1) nc cc (zaI n (hgt n+1))∧Es (nv .i64) lf hf2 w2 af nf cf (za0 n (hgt n+1))) (fun j=>cnt n v-j) 0 (by kernel_rfl) ⟨Nat.zero_le _,hJv,hB1a,hca,hfa⟩ ?_)))))))))
  rintro j dw2 w2 ⟨hj,hJj,hB1b,hcb,hfb⟩
  have hbl2:=hB1b.lt
  refine ze (zd (za (zK (some 16) (decide (((j:Nat):Int)<((gt (zaI n (hgt n+1)) v:Nat):Int))) (fun hc16=> ?_) (fun hc16=> ?_))))
  ·replace hc16:j<gt (zaI n (hgt n+1)) v:=by have:=zaf hc16;omega
   have hjc:j<cnt n v:=by omega
   have hpl:=zaC (n:=n) (l:=v) (j:=j) (by omega) hjc
   refine zf (zb (ze (zC (zu (zb (ze (zy (ze (zd ?_)))))))))
   refine zc 2 [(5,(vI j)),(17,(vI j))] (zf (zb (ze (zd (zc 3 [(20,(vP bq 1)),(19,(vI v)),(18,(.func (.yield lp) #[] #[]))] (za (zj (some 21) (Instr.loadAt 29 (vP bq 1)) (.slice af nf cf) (zk (hB1b.cell rfl)) ?_)))))))
   refine zc 1 [(22,(vI v))] ?_
   obtain ⟨b2,o2,rfl⟩:=hfb.addr (by omega)
   refine za (zj (some 23) (Instr.indexAt 29 (.slice (pA b2 o2) nf cf) (vI v)) (vP b2 (o2+v*1)) (zP (E:=3) (sz:=1) (by omega)) ?_)
   refine za (zj (some 24) (Instr.loadAt 3 (vP b2 (o2+v*1))) (vI (gt (za0 n (hgt n+1)) v)) (zk (hfb.celln (by omega))) ?_)
   refine zc 1 [(25,(vI j))] (za (zt (some 26) .i64 (IntKind.i64.wrap (((gt (za0 n (hgt n+1)) v:Nat):Int)+((j:Nat):Int))) (num n v+j) (zA (by omega) (by omega) (by omega)) ?_))
   refine za (zlh (some 27) lp [(vI v),(vI (num n v+j))] (by have hz:=hY (num n v+j) _ hpl hJj;rw [ziu (by omega) hjc] at hz;exact hz) ?_)
   rintro _ w3 (⟨rfl,hJw3,hCw3⟩|⟨rfl,hCw3,hXw3⟩)
   ·have hzw3:=hCw3.size
    refine zc 1 [(28,vF)] (zf (zb (zn (zu (zp (zb (zd (za (zt (some 29) .i64 (IntKind.i64.wrap (((j:Nat):Int)+((1:Nat):Int))) (j+1) (zA (by omega) (by omega) (by omega)) ?_)))))))))
    refine zc 1 [(15,(vI (j+1)))] (zf (zF (zR (j+1) ?_ ?_)))
    ·exact ⟨by omega,hJw3,((hB1b).chg hCw3 (fun hs=>by have hu:=hU _ hs;omega)),((hcb).chg hCw3 (fun k h1 h2 hs=>by have hu:=hU _ hs;omega)),((hfb).chg hCw3 (fun k h1 h2 hs=>by have hu:=hU _ hs;omega))⟩
    ·first | omega |(dsimp only;omega)
   ·have hzw3:=hCw3.size
    refine zc 1 [(28,vT)] (zf (zb (zC (zq (zG (zD (zD (zG (zG ?_)))))))))
    exact zD (zD (zG (zr (.tuple #[]) (.inr ⟨num n v+j,hpl,hXw3⟩))))
  ·replace hc16:¬(j<gt (zaI n (hgt n+1)) v):=by have:=zae hc16;omega
   obtain rfl:j=cnt n v:=by omega
   refine zf (zb (ze (zn (zW (zx (zx (zL (zp (zb ?_)))))))))
   refine zd (za (zt (some 30) .i64 (IntKind.i64.wrap (((v:Nat):Int)+((1:Nat):Int))) (v+1) (zA (by omega) (by omega) (by omega)) ?_))
   refine zc 1 [(9,(vI (v+1)))] (zf (zF (zR (v+1) ?_ ?_)))
   ·exact ⟨by omega,hJj,hB1b,hcb,hfb⟩
   ·first | omega |(dsimp only;omega)
 ·replace hc10:¬(v<nc):=by have:=zae hc10;omega
  obtain rfl:v=hgt n+1:=by omega
  exact zf (zb (ze (zn (zW (zx (zx (zL (zky (.inl hJv)))))))))
theorem znp {lo_c hi_c:Nat} {a_c:Option Addr} {n_c c_c:Nat} {c:List Nat} {lo_f hi_f:Nat} {a_f:Option Addr} {n_f c_f:Nat} {f:List Nat} (w:World) (h_c:Es (nv .i64) lo_c hi_c w a_c n_c c_c c) (h_f:Es (nv .i64) lo_f hi_f w a_f n_f c_f f):
  Calls Tryz.prog 67 #[(vA [(.slice a_c n_c c_c),(.slice a_f n_f c_f)])] w (Ret fun r w'=>∃a0,r=(.func (.func 91) #[] #[(vP a0 0)])∧w.heap.size≤a0∧Blk w' a0 [(.slice a_c n_c c_c),(.slice a_f n_f c_f)] 114∧Ext w w'):=by
 refine zI (n:=4) (σ:= [(0,(vA [(.slice a_c n_c c_c),(.slice a_f n_f c_f)]))]) Tryz.func67 rfl ?_
 replace h_c:=h_c.now;have hle_c:=h_c.le
 replace h_f:=h_f.now;have hle_f:=h_f.le
 refine ze (zd (za (zo (some 1) (Instr.box 114 (vA [(.slice a_c n_c c_c),(.slice a_f n_f c_f)])) (vP w.heap.size 0) ([(.slice a_c n_c c_c),(.slice a_f n_f c_f)]) 114 ?_)))
 intro w1 hBw1 hEw1
 have hzw1:=hEw1.size;have hlw1:=hBw1.lt
 refine zc 1 [(2, .nilFunc)] (zf (zb (ze (zd (zc 2 [(2,(.func (.func 91) #[] #[(vP w.heap.size 0)])),(3,(.func (.func 91) #[] #[(vP w.heap.size 0)]))] (zf (zb (zq (zr (.func (.func 91) #[] #[(vP w.heap.size 0)]) ?_)))))))))
 exact ⟨_,rfl,by omega,hBw1,hEw1⟩
end Go.Proofs.YtkmhgepdhilllaaGreatDoor
namespace Go.Proofs.YtkmhgepdhilllaaGreatDoor
open Go Go.RowKit Go.Cs
set_option maxRecDepth 100000
theorem zqe (x:Un) (w:World) (hp0:x.sl=0∨x.sl=1):
  Calls Tryz.prog 79 #[(vA (unC x))] w (Ret fun r w'=>r=vF∧Ext w w'):=by
 refine zI (n:=11) (σ:= [(0,(vA (unC x)))]) Tryz.func79 rfl ?_
 refine ze (zd (za (zo (some 1) (Instr.box 77 (vA (unC x))) (vP w.heap.size 0) (unC x) 77 ?_)))
 intro w1 hBw1 hEw1
 have hzw1:=hEw1.size;have hlw1:=hBw1.lt
 refine zc 1 [(2,vF)] (zf (zb (ze (zd (zc 1 [(3,(vP w.heap.size 274))] (za (zj (some 4) (Instr.loadAt 3 (vP w.heap.size 274)) (.int .i64 x.sl) (zk (hBw1.cell (zbk _))) ?_)))))))
 refine za (zK (some 5) ((x.sl !=((0:Nat):Int))) (fun hc5=> ?_) (fun hc5=> ?_))
 ·replace hc5:¬(x.sl=((0:Nat):Int)):=by have:=zbE hc5;omega
  refine zc 2 [(7,(vP w.heap.size 274)),(6,vT)] (za (zj (some 8) (Instr.loadAt 3 (vP w.heap.size 274)) (.int .i64 x.sl) (zk (hBw1.cell (zbk _))) ?_))
  refine za (zai (some 9) (x.sl !=((1:Nat):Int)) false (zaA (by omega)) ?_)
  exact zc 2 [(2,vF),(10,vF)] (zf (zb (zq (zr vF (⟨rfl,hEw1⟩)))))
 ·replace hc5:x.sl=((0:Nat):Int):=by have:=zbG hc5;omega
  exact zc 6 [(2,vF),(10,vF),(9,undef),(8,undef),(7,undef),(6,vF)] (zf (zb (zq (zr vF (⟨rfl,hEw1⟩)))))
theorem ztK (x:Un) (w:World) (hp0:¬(x.sl=0∨x.sl=1)):
  Calls Tryz.prog 79 #[(vA (unC x))] w (Ret fun r w'=>r=vT∧Ext w w'):=by
 refine zI (n:=11) (σ:= [(0,(vA (unC x)))]) Tryz.func79 rfl ?_
 refine ze (zd (za (zo (some 1) (Instr.box 77 (vA (unC x))) (vP w.heap.size 0) (unC x) 77 ?_)))
 intro w1 hBw1 hEw1
 have hzw1:=hEw1.size;have hlw1:=hBw1.lt
 refine zc 1 [(2,vF)] (zf (zb (ze (zd (zc 1 [(3,(vP w.heap.size 274))] (za (zj (some 4) (Instr.loadAt 3 (vP w.heap.size 274)) (.int .i64 x.sl) (zk (hBw1.cell (zbk _))) ?_)))))))
 refine za (zai (some 5) (x.sl !=((0:Nat):Int)) true (zcp (by omega)) ?_)
 refine zc 2 [(7,(vP w.heap.size 274)),(6,vT)] (za (zj (some 8) (Instr.loadAt 3 (vP w.heap.size 274)) (.int .i64 x.sl) (zk (hBw1.cell (zbk _))) ?_))
 refine za (zai (some 9) (x.sl !=((1:Nat):Int)) true (zcp (by omega)) ?_)
 exact zc 2 [(2,vT),(10,vT)] (zf (zb (zq (zr vT (⟨rfl,hEw1⟩)))))
theorem zmR (x:Un) (w:World):
  Calls Tryz.prog 98 #[(vA (unC x))] w (Ret fun r w'=>r=(.bool x.dt)∧Ext w w'):=by
 refine zI (n:=5) (σ:= [(0,(vA (unC x)))]) Tryz.func98 rfl ?_
 refine ze (zd (za (zo (some 1) (Instr.box 77 (vA (unC x))) (vP w.heap.size 0) (unC x) 77 ?_)))
 intro w1 hBw1 hEw1
 have hzw1:=hEw1.size;have hlw1:=hBw1.lt
 refine zc 1 [(2,vF)] (zf (zb (ze (zd (zc 1 [(3,(vP w.heap.size 275))] (za (zj (some 4) (Instr.loadAt 4 (vP w.heap.size 275)) (.bool x.dt) (zk (hBw1.cell (zdc _))) ?_)))))))
 exact zc 1 [(2,(.bool x.dt))] (zf (zb (zq (zr (.bool x.dt) (⟨rfl,hEw1⟩)))))
theorem zr6 {lo_t hi_t:Nat} {a_t:Option Addr} {n_t c_t:Nat} {t:List Un} (w:World) (h_t:Ms unC 280 lo_t hi_t w a_t n_t c_t t) (hp0:∀i,i<t.length→((t.getD i Un.zero).sl=0∨(t.getD i Un.zero).sl=1)):
  Calls Tryz.prog 94 #[(.slice a_t n_t c_t),(.func (.func 79) #[] #[])] w (Ret fun r w'=>r=(.int .i64 (-1))∧Ext w w'):=by
 refine zI (n:=19) (σ:= [(0,(.slice a_t n_t c_t)),(1,(.func (.func 79) #[] #[]))]) Tryz.func94 rfl ?_
 replace h_t:=h_t.now;have hle_t:=h_t.le
 have hlt:=h_t.len_eq
 refine ze (zd (zc 1 [(4,(vI 0))] (zf (zb (ze (ze (zd (zc 3 [(8,(vI 0)),(7,(vI n_t)),(6,(.slice a_t n_t c_t))] (zf ?_)))))))))
 refine zb (zy (zY (X:=Nat) (fun k=> [(8,(vI k))]) [4,5,9,10,11,12,13,14,15,16,17,18] (fun k w1=>k≤n_t∧Ext w w1) (fun k=>n_t-k) 0 (by kernel_rfl) ⟨Nat.zero_le _,(Ext.refl _)⟩ ?_))
 rintro k dw1 w1 ⟨hk,hEl⟩
 have hzl:=hEl.size
 refine ze (zd (za (zK (some 9) (decide (((k:Nat):Int)<((n_t:Nat):Int))) (fun hc9=> ?_) (fun hc9=> ?_))))
 ·replace hc9:k<n_t:=by have:=zaf hc9;omega
  have hx:((t.getD k Un.zero).sl=0∨(t.getD k Un.zero).sl=1):=hp0 k (by omega)
  refine zf (zb (ze (zC (zu (zb (ze (zy (ze (zd ?_)))))))))
  refine zc 2 [(5,(vI k)),(10,(vI k))] (zf (zb (ze (zd (zc 3 [(13,(vI k)),(12,(.slice a_t n_t c_t)),(11,(.func (.func 79) #[] #[]))] ?_)))))
  obtain ⟨b1,o1,rfl⟩:=h_t.addr (by omega) (by decide)
  refine za (zj (some 14) (Instr.indexAt 36 (.slice (pA b1 o1) n_t c_t) (vI k)) (vP b1 (o1+k*280)) (zP (E:=77) (sz:=280) (by omega)) ?_)
  refine za (zj (some 15) (Instr.loadAt 77 (vP b1 (o1+k*280))) (vA (unC (t.getD k Un.zero))) (zw (vs:=unC (t.getD k Un.zero)) ((h_t.ext hEl).at Un.zero (by omega)) (by rw [zQ];kernel_rfl)) ?_)
  refine za (zl (some 16) (zqe (t.getD k Un.zero) _ (hx)) ?_)
  rintro _ w2 ⟨rfl,hEw2⟩
  have hzw2:=hEw2.size
  refine zf (zb (zn (zu (zp (zb (zd (za (zt (some 18) .i64 (IntKind.i64.wrap (((k:Nat):Int)+((1:Nat):Int))) (k+1) (zA (by omega) (by omega) (by omega)) ?_))))))))
  refine zc 1 [(8,(vI (k+1)))] (zf (zF (zR (k+1) ?_ ?_)))
  ·exact ⟨by omega,(hEl.trans hEw2)⟩
  ·first | omega |(dsimp only;omega)
 ·replace hc9:¬(k<n_t):=by have:=zae hc9;omega
  refine zf (zb (ze (zn (zW (zx (zx (zL (zb (ze ?_)))))))))
  exact zd (zc 1 [(4,(.int .i64 (-1)))] (zf (zb (zq (zr (.int .i64 (-1)) (⟨rfl,hEl⟩))))))
theorem zrH {lo_t hi_t:Nat} {a_t:Option Addr} {n_t c_t:Nat} {t:List Un} (w:World) (h_t:Ms unC 280 lo_t hi_t w a_t n_t c_t t) (hp0:¬∀i,i<t.length→((t.getD i Un.zero).sl=0∨(t.getD i Un.zero).sl=1)):
  Calls Tryz.prog 94 #[(.slice a_t n_t c_t),(.func (.func 79) #[] #[])] w (Ret fun r w'=>∃(a0:Nat),r=(vI a0)∧Ext w w'):=by
 refine zI (n:=19) (σ:= [(0,(.slice a_t n_t c_t)),(1,(.func (.func 79) #[] #[]))]) Tryz.func94 rfl ?_
 replace h_t:=h_t.now;have hle_t:=h_t.le
 have hlt:=h_t.len_eq
 refine ze (zd (zc 1 [(4,(vI 0))] (zf (zb (ze (ze (zd (zc 3 [(8,(vI 0)),(7,(vI n_t)),(6,(.slice a_t n_t c_t))] (zf ?_)))))))))
 refine zb (zy (zY (X:=Nat) (fun k=> [(8,(vI k))]) [4,5,9,10,11,12,13,14,15,16,17,18] (fun k w1=>k≤n_t∧(∀i,i<k→((t.getD i Un.zero).sl=0∨(t.getD i Un.zero).sl=1))∧Ext w w1) (fun k=>n_t-k) 0 (by kernel_rfl) ⟨Nat.zero_le _,fun i h=>absurd h (Nat.not_lt_zero _),(Ext.refl _)⟩ ?_))
 rintro k dw1 w1 ⟨hk,hal,hEl⟩
 have hzl:=hEl.size
 refine ze (zd (za (zK (some 9) (decide (((k:Nat):Int)<((n_t:Nat):Int))) (fun hc9=> ?_) (fun hc9=> ?_))))
 ·replace hc9:k<n_t:=by have:=zaf hc9;omega
  refine zf (zb (ze (zC (zu (zb (ze (zy (ze (zd ?_)))))))))
  refine zc 2 [(5,(vI k)),(10,(vI k))] (zf (zb (ze (zd (zc 3 [(13,(vI k)),(12,(.slice a_t n_t c_t)),(11,(.func (.func 79) #[] #[]))] ?_)))))
  obtain ⟨b1,o1,rfl⟩:=h_t.addr (by omega) (by decide)
  refine za (zj (some 14) (Instr.indexAt 36 (.slice (pA b1 o1) n_t c_t) (vI k)) (vP b1 (o1+k*280)) (zP (E:=77) (sz:=280) (by omega)) ?_)
  refine za (zj (some 15) (Instr.loadAt 77 (vP b1 (o1+k*280))) (vA (unC (t.getD k Un.zero))) (zw (vs:=unC (t.getD k Un.zero)) ((h_t.ext hEl).at Un.zero (by omega)) (by rw [zQ];kernel_rfl)) ?_)
  rcases Classical.em ((t.getD k Un.zero).sl=0∨(t.getD k Un.zero).sl=1) with hx | hx
  ·refine za (zl (some 16) (zqe (t.getD k Un.zero) _ (hx)) ?_)
   rintro _ w2 ⟨rfl,hEw2⟩
   have hzw2:=hEw2.size
   refine zf (zb (zn (zu (zp (zb (zd (za (zt (some 18) .i64 (IntKind.i64.wrap (((k:Nat):Int)+((1:Nat):Int))) (k+1) (zA (by omega) (by omega) (by omega)) ?_))))))))
   refine zc 1 [(8,(vI (k+1)))] (zf (zF (zR (k+1) ?_ ?_)))
   ·exact ⟨by omega,fun i hi=>by rcases Nat.lt_succ_iff_lt_or_eq.1 hi with h1 | rfl;exact hal i h1;exact hx,(hEl.trans hEw2)⟩
   ·first | omega |(dsimp only;omega)
  ·refine za (zl (some 16) (ztK (t.getD k Un.zero) _ (hx)) ?_)
   rintro _ w3 ⟨rfl,hEw3⟩
   have hzw3:=hEw3.size
   refine zf (zb (zC (ze (zd (zc 2 [(4,(vI k)),(17,(vI k))] (zf (zb (zq (zG ?_)))))))))
   exact zD (zD (zG (zD (zr (vI k) (⟨_,rfl,(hEl.trans hEw3)⟩)))))
 ·replace hc9:¬(k<n_t):=by have:=zae hc9;omega
  refine zf (zb (ze (zn (zW (zx (zx (zL (zb (ze ?_)))))))))
  exact zd (zc 1 [(4,(.int .i64 (-1)))] (zf (zb (zq (zr (.int .i64 (-1)) (absurd (fun i hi=>hal i (by omega)) hp0))))))
theorem zrZ {lo_t hi_t:Nat} {a_t:Option Addr} {n_t c_t:Nat} {t:List Un} (w:World) (h_t:Ms unC 280 lo_t hi_t w a_t n_t c_t t) (hp0:∀i,i<t.length→(t.getD i Un.zero).dt=false):
  Calls Tryz.prog 94 #[(.slice a_t n_t c_t),(.func (.func 98) #[] #[])] w (Ret fun r w'=>r=(.int .i64 (-1))∧Ext w w'):=by
 refine zI (n:=19) (σ:= [(0,(.slice a_t n_t c_t)),(1,(.func (.func 98) #[] #[]))]) Tryz.func94 rfl ?_
 replace h_t:=h_t.now;have hle_t:=h_t.le
 have hlt:=h_t.len_eq
 refine ze (zd (zc 1 [(4,(vI 0))] (zf (zb (ze (ze (zd (zc 3 [(8,(vI 0)),(7,(vI n_t)),(6,(.slice a_t n_t c_t))] (zf ?_)))))))))
 refine zb (zy (zY (X:=Nat) (fun k=> [(8,(vI k))]) [4,5,9,10,11,12,13,14,15,16,17,18] (fun k w1=>k≤n_t∧Ext w w1) (fun k=>n_t-k) 0 (by kernel_rfl) ⟨Nat.zero_le _,(Ext.refl _)⟩ ?_))
 rintro k dw1 w1 ⟨hk,hEl⟩
 have hzl:=hEl.size
 refine ze (zd (za (zK (some 9) (decide (((k:Nat):Int)<((n_t:Nat):Int))) (fun hc9=> ?_) (fun hc9=> ?_))))
 ·replace hc9:k<n_t:=by have:=zaf hc9;omega
  have hx:(t.getD k Un.zero).dt=false:=hp0 k (by omega)
  refine zf (zb (ze (zC (zu (zb (ze (zy (ze (zd ?_)))))))))
  refine zc 2 [(5,(vI k)),(10,(vI k))] (zf (zb (ze (zd (zc 3 [(13,(vI k)),(12,(.slice a_t n_t c_t)),(11,(.func (.func 98) #[] #[]))] ?_)))))
  obtain ⟨b1,o1,rfl⟩:=h_t.addr (by omega) (by decide)
  refine za (zj (some 14) (Instr.indexAt 36 (.slice (pA b1 o1) n_t c_t) (vI k)) (vP b1 (o1+k*280)) (zP (E:=77) (sz:=280) (by omega)) ?_)
  refine za (zj (some 15) (Instr.loadAt 77 (vP b1 (o1+k*280))) (vA (unC (t.getD k Un.zero))) (zw (vs:=unC (t.getD k Un.zero)) ((h_t.ext hEl).at Un.zero (by omega)) (by rw [zQ];kernel_rfl)) ?_)
  refine za (zl (some 16) (zmR (t.getD k Un.zero) _) ?_)
  rintro _ w2 ⟨rfl,hEw2⟩
  have hzw2:=hEw2.size
  rw [show (t.getD k Un.zero).dt=false from hx]
  refine zf (zb (zn (zu (zp (zb (zd (za (zt (some 18) .i64 (IntKind.i64.wrap (((k:Nat):Int)+((1:Nat):Int))) (k+1) (zA (by omega) (by omega) (by omega)) ?_))))))))
  refine zc 1 [(8,(vI (k+1)))] (zf (zF (zR (k+1) ?_ ?_)))
  ·exact ⟨by omega,(hEl.trans hEw2)⟩
  ·first | omega |(dsimp only;omega)
 ·replace hc9:¬(k<n_t):=by have:=zae hc9;omega
  refine zf (zb (ze (zn (zW (zx (zx (zL (zb (ze ?_)))))))))
  exact zd (zc 1 [(4,(.int .i64 (-1)))] (zf (zb (zq (zr (.int .i64 (-1)) (⟨rfl,hEl⟩))))))
theorem zqE {lo_t hi_t:Nat} {a_t:Option Addr} {n_t c_t:Nat} {t:List Un} (w:World) (h_t:Ms unC 280 lo_t hi_t w a_t n_t c_t t) (hp0:¬∀i,i<t.length→(t.getD i Un.zero).dt=false):
  Calls Tryz.prog 94 #[(.slice a_t n_t c_t),(.func (.func 98) #[] #[])] w (Ret fun r w'=>∃(a0:Nat),r=(vI a0)∧Ext w w'):=by
 refine zI (n:=19) (σ:= [(0,(.slice a_t n_t c_t)),(1,(.func (.func 98) #[] #[]))]) Tryz.func94 rfl ?_
 replace h_t:=h_t.now;have hle_t:=h_t.le
 have hlt:=h_t.len_eq
 refine ze (zd (zc 1 [(4,(vI 0))] (zf (zb (ze (ze (zd (zc 3 [(8,(vI 0)),(7,(vI n_t)),(6,(.slice a_t n_t c_t))] (zf ?_)))))))))
 refine zb (zy (zY (X:=Nat) (fun k=> [(8,(vI k))]) [4,5,9,10,11,12,13,14,15,16,17,18] (fun k w1=>k≤n_t∧(∀i,i<k→(t.getD i Un.zero).dt=false)∧Ext w w1) (fun k=>n_t-k) 0 (by kernel_rfl) ⟨Nat.zero_le _,fun i h=>absurd h (Nat.not_lt_zero _),(Ext.refl _)⟩ ?_))
 rintro k dw1 w1 ⟨hk,hal,hEl⟩
 have hzl:=hEl.size
 refine ze (zd (za (zK (some 9) (decide (((k:Nat):Int)<((n_t:Nat):Int))) (fun hc9=> ?_) (fun hc9=> ?_))))
 ·replace hc9:k<n_t:=by have:=zaf hc9;omega
  refine zf (zb (ze (zC (zu (zb (ze (zy (ze (zd ?_)))))))))
  refine zc 2 [(5,(vI k)),(10,(vI k))] (zf (zb (ze (zd (zc 3 [(13,(vI k)),(12,(.slice a_t n_t c_t)),(11,(.func (.func 98) #[] #[]))] ?_)))))
  obtain ⟨b1,o1,rfl⟩:=h_t.addr (by omega) (by decide)
  refine za (zj (some 14) (Instr.indexAt 36 (.slice (pA b1 o1) n_t c_t) (vI k)) (vP b1 (o1+k*280)) (zP (E:=77) (sz:=280) (by omega)) ?_)
  refine za (zj (some 15) (Instr.loadAt 77 (vP b1 (o1+k*280))) (vA (unC (t.getD k Un.zero))) (zw (vs:=unC (t.getD k Un.zero)) ((h_t.ext hEl).at Un.zero (by omega)) (by rw [zQ];kernel_rfl)) ?_)
  rcases Bool.eq_false_or_eq_true (t.getD k Un.zero).dt with hx | hx
  ·refine za (zl (some 16) (zmR (t.getD k Un.zero) _) ?_)
   rintro _ w2 ⟨rfl,hEw2⟩
   have hzw2:=hEw2.size
   rw [show (t.getD k Un.zero).dt=true from hx]
   refine zf (zb (zC (ze (zd (zc 2 [(4,(vI k)),(17,(vI k))] (zf (zb (zq (zG ?_)))))))))
   exact zD (zD (zG (zD (zr (vI k) (⟨_,rfl,(hEl.trans hEw2)⟩)))))
  ·refine za (zl (some 16) (zmR (t.getD k Un.zero) _) ?_)
   rintro _ w3 ⟨rfl,hEw3⟩
   have hzw3:=hEw3.size
   rw [show (t.getD k Un.zero).dt=false from hx]
   refine zf (zb (zn (zu (zp (zb (zd (za (zt (some 18) .i64 (IntKind.i64.wrap (((k:Nat):Int)+((1:Nat):Int))) (k+1) (zA (by omega) (by omega) (by omega)) ?_))))))))
   refine zc 1 [(8,(vI (k+1)))] (zf (zF (zR (k+1) ?_ ?_)))
   ·exact ⟨by omega,fun i hi=>by rcases Nat.lt_succ_iff_lt_or_eq.1 hi with h1 | rfl;exact hal i h1;exact hx,(hEl.trans hEw3)⟩
   ·first | omega |(dsimp only;omega)
 ·replace hc9:¬(k<n_t):=by have:=zae hc9;omega
  refine zf (zb (ze (zn (zW (zx (zx (zL (zb (ze ?_)))))))))
  exact zd (zc 1 [(4,(.int .i64 (-1)))] (zf (zb (zq (zr (.int .i64 (-1)) (absurd (fun i hi=>hal i (by omega)) hp0))))))
theorem zrW {lo_t hi_t:Nat} {a_t:Option Addr} {n_t c_t:Nat} {t:List Un} (w:World) (h_t:Ms unC 280 lo_t hi_t w a_t n_t c_t t) (hp0:∀i,i<t.length→((t.getD i Un.zero).sl=0∨(t.getD i Un.zero).sl=1)):
  Calls Tryz.prog 78 #[(.slice a_t n_t c_t),(.func (.func 79) #[] #[])] w (Ret fun r w'=>r=vF∧Ext w w'):=by
 refine zI (n:=9) (σ:= [(0,(.slice a_t n_t c_t)),(1,(.func (.func 79) #[] #[]))]) Tryz.func78 rfl ?_
 replace h_t:=h_t.now;have hle_t:=h_t.le
 refine ze (zd (zc 1 [(4,vF)] (zf (zb (ze (zd (zc 2 [(6,(.func (.func 79) #[] #[])),(5,(.slice a_t n_t c_t))] (za (zl (some 7) (zr6 _ h_t (by assumption)) ?_)))))))))
 rintro _ w1 ⟨rfl,hEw1⟩
 have hzw1:=hEw1.size
 refine za (zai (some 8) (decide (-1≥((0:Nat):Int))) false (zcu (by omega)) ?_)
 exact zc 1 [(4,vF)] (zf (zb (zq (zr vF (⟨rfl,hEw1⟩)))))
theorem zqP {lo_t hi_t:Nat} {a_t:Option Addr} {n_t c_t:Nat} {t:List Un} (w:World) (h_t:Ms unC 280 lo_t hi_t w a_t n_t c_t t) (hp0:¬∀i,i<t.length→((t.getD i Un.zero).sl=0∨(t.getD i Un.zero).sl=1)):
  Calls Tryz.prog 78 #[(.slice a_t n_t c_t),(.func (.func 79) #[] #[])] w (Ret fun r w'=>r=vT∧Ext w w'):=by
 refine zI (n:=9) (σ:= [(0,(.slice a_t n_t c_t)),(1,(.func (.func 79) #[] #[]))]) Tryz.func78 rfl ?_
 replace h_t:=h_t.now;have hle_t:=h_t.le
 refine ze (zd (zc 1 [(4,vF)] (zf (zb (ze (zd (zc 2 [(6,(.func (.func 79) #[] #[])),(5,(.slice a_t n_t c_t))] (za (zl (some 7) (zrH _ h_t (by assumption)) ?_)))))))))
 rintro _ w1 ⟨a1,rfl,hEw1⟩
 have hzw1:=hEw1.size
 refine za (zai (some 8) (decide (((a1:Nat):Int)≥((0:Nat):Int))) true (zfJ (by omega)) ?_)
 exact zc 1 [(4,vT)] (zf (zb (zq (zr vT (⟨rfl,hEw1⟩)))))
theorem zqv {lo_t hi_t:Nat} {a_t:Option Addr} {n_t c_t:Nat} {t:List Un} (w:World) (h_t:Ms unC 280 lo_t hi_t w a_t n_t c_t t) (hp0:∀i,i<t.length→(t.getD i Un.zero).dt=false):
  Calls Tryz.prog 78 #[(.slice a_t n_t c_t),(.func (.func 98) #[] #[])] w (Ret fun r w'=>r=vF∧Ext w w'):=by
 refine zI (n:=9) (σ:= [(0,(.slice a_t n_t c_t)),(1,(.func (.func 98) #[] #[]))]) Tryz.func78 rfl ?_
 replace h_t:=h_t.now;have hle_t:=h_t.le
 refine ze (zd (zc 1 [(4,vF)] (zf (zb (ze (zd (zc 2 [(6,(.func (.func 98) #[] #[])),(5,(.slice a_t n_t c_t))] (za (zl (some 7) (zrZ _ h_t (by assumption)) ?_)))))))))
 rintro _ w1 ⟨rfl,hEw1⟩
 have hzw1:=hEw1.size
 refine za (zai (some 8) (decide (-1≥((0:Nat):Int))) false (zcu (by omega)) ?_)
 exact zc 1 [(4,vF)] (zf (zb (zq (zr vF (⟨rfl,hEw1⟩)))))
theorem zqF {lo_t hi_t:Nat} {a_t:Option Addr} {n_t c_t:Nat} {t:List Un} (w:World) (h_t:Ms unC 280 lo_t hi_t w a_t n_t c_t t) (hp0:¬∀i,i<t.length→(t.getD i Un.zero).dt=false):
  Calls Tryz.prog 78 #[(.slice a_t n_t c_t),(.func (.func 98) #[] #[])] w (Ret fun r w'=>r=vT∧Ext w w'):=by
 refine zI (n:=9) (σ:= [(0,(.slice a_t n_t c_t)),(1,(.func (.func 98) #[] #[]))]) Tryz.func78 rfl ?_
 replace h_t:=h_t.now;have hle_t:=h_t.le
 refine ze (zd (zc 1 [(4,vF)] (zf (zb (ze (zd (zc 2 [(6,(.func (.func 98) #[] #[])),(5,(.slice a_t n_t c_t))] (za (zl (some 7) (zqE _ h_t (by assumption)) ?_)))))))))
 rintro _ w1 ⟨a1,rfl,hEw1⟩
 have hzw1:=hEw1.size
 refine za (zai (some 8) (decide (((a1:Nat):Int)≥((0:Nat):Int))) true (zfJ (by omega)) ?_)
 exact zc 1 [(4,vT)] (zf (zb (zq (zr vT (⟨rfl,hEw1⟩)))))
end Go.Proofs.YtkmhgepdhilllaaGreatDoor
namespace Go.Proofs.YtkmhgepdhilllaaGreatDoor
open Go Go.RowKit Go.Cs
set_option maxRecDepth 100000
theorem zhe (b n l j:Nat) {lo_c hi_c lo_f hi_f lo_t hi_t n_c c_c n_f c_f n_t c_t:Nat} {a_c a_f a_t:Option Addr} {c f:List Nat} {t:List Un} (w:World) (hX:Blk w b [(.slice a_c n_c c_c),(.slice a_f n_f c_f),(vI n),(.slice a_t n_t c_t),(vI (num n l+j)),(vI l)] 146) (h_c:Es (nv .i64) lo_c hi_c w a_c n_c c_c c) (h_f:Es (nv .i64) lo_f hi_f w a_f n_f c_f f) (h_t:Ms unC 280 lo_t hi_t w a_t n_t c_t t) (hp0:c=zaI n (hgt n+1)) (hp1:f=za0 n (hgt n+1)) (hp2:1≤n) (hp3:n≤4096) (hp4:n_t=tot n) (hp5:l≤hgt n) (hp6:j<cnt n l):
  Calls Tryz.prog 95 #[(vP b 0)] w (Ret fun r w'=>r=(vA (unC (t.getD (num n l+j) Un.zero)))∧Ext w w'):=by
 refine zI (n:=14) (σ:= [(0,(vP b 0))]) Tryz.func95 rfl ?_
 replace h_c:=h_c.now;replace h_f:=h_f.now;replace h_t:=h_t.now
 have hbl:=hX.lt
 have hle1:=h_c.le;have hle2:=h_f.le
 have hlc:=h_c.len_eq;rw [hp0,zbL] at hlc
 have hlf:=h_f.len_eq;rw [hp1,zb6] at hlf
 have hlt:=h_t.len_eq
 have hlet:=h_t.le
 have h5:=zat n
 have hts:=zaw hp3
 have hpl:=zaC (n:=n) (l:=l) (j:=j) hp5 hp6
 have hcn:=zbf n l
 have hgf:gt f l=num n l:=by rw [hp1];exact zci (by omega)
 refine ze (zd (za (zo (some 2) (Instr.alloc 77 true (.tuple #[])) (vP w.heap.size 0) (unC Un.zero) 77 ?_)))
 intro w1 hBw1 hEw1
 have hzw1:=hEw1.size;have hlw1:=hBw1.lt
 refine zf (zb (ze (zT (Ext w1.drew) 12 [(4,1,0),(5,8,1),(6,16,2),(7,32,4),(8,64,8),(9,1,0),(10,256,32),(11,512,64),(12,1024,128),(13,2176,272),(14,4096,512),(0,8196,2047)] (fun hT23=> ?_))))
 have hEw2:Ext w1 w1.drew:=Ext.drew w1
 generalize w1.drew=w2 at hEw2⊢
 have hzw2:=hEw2.size
 refine zh hT23 [(0,3,(vP b 0)),(1,4,(vP b 0)),(2,5,(vP b 2)),(3,6,(vP b 3))] 4 15 (zg hT23 4 31 (some 7) (.slice a_t n_t c_t) (zi (Instr.loadAt 36 (vP b 3)) (fun w' hC=>zk (((((hX.ext hEw1)).ext hEw2).ext hC).cell rfl))) (zh hT23 [(5,8,(vP b 0)),(6,9,(vP b 0)),(7,10,(vP b 4))] 3 255 (zg hT23 8 511 (some 11) (vI (num n l+j)) (zi (Instr.loadAt 3 (vP b 4)) (fun w' hC=>zk (((((hX.ext hEw1)).ext hEw2).ext hC).cell rfl))) ?_)))
 obtain ⟨b1,o1,rfl⟩:=h_t.addr (by omega) (by decide)
 refine zg hT23 9 1023 (some 12) (vP b1 (o1+(num n l+j)*280)) (zi (Instr.indexAt 36 (.slice (pA b1 o1) n_t c_t) (vI (num n l+j))) (fun w' hC=>zP (E:=77) (sz:=280) (by omega))) (zg hT23 10 2047 (some 13) (vA (unC (t.getD (num n l+j) Un.zero))) (zi (Instr.loadAt 77 (vP b1 (o1+(num n l+j)*280))) (fun w' hC=>zw (vs:=unC (t.getD (num n l+j) Un.zero)) (((((h_t.ext hEw1)).ext hEw2).ext hC).at Un.zero (by omega)) (by rw [zQ];kernel_rfl))) (zz 11 4095 (zv 77 w.heap.size 0 77 (vA (unC (t.getD (num n l+j) Un.zero))) (unC Un.zero) (unC (t.getD (num n l+j) Un.zero)) (hBw1.ext hEw2) (by rw [zQ];kernel_rfl) (by first |(simp;done)|(simp;omega)) (za4 _) ?_)))
 intro w3 hBw3 hCw3
 have hzw3:=hCw3.size
 rw [zm _ _ (by simp)] at hBw3
 refine ⟨.inl (by kernel_rfl), ?_⟩
 exact zJ (zb (zq (zaB (show zZ Tryz.prog 14 _ _ (.cell 2 77) (vA (unC (t.getD (num n l+j) Un.zero))) from ⟨⟨w.heap.size,0,none⟩,(by kernel_rfl),zN (T:=77) (vs:=unC (t.getD (num n l+j) Un.zero)) (hBw3).all (by rw [zQ];kernel_rfl)⟩) (⟨rfl,(Ext.own (hEw1.trans hEw2) hCw3 (by omega))⟩))))
theorem zqa (b n l j:Nat) {lo_c hi_c lo_f hi_f lo_t hi_t n_c c_c n_f c_f n_t c_t:Nat} {a_c a_f a_t:Option Addr} {c f:List Nat} {t:List Un} (w:World) (hX:Blk w b [(.slice a_c n_c c_c),(.slice a_f n_f c_f),(vI n),(.slice a_t n_t c_t),(vI (num n l+j)),(vI l)] 146) (h_c:Es (nv .i64) lo_c hi_c w a_c n_c c_c c) (h_f:Es (nv .i64) lo_f hi_f w a_f n_f c_f f) (h_t:Ms unC 280 lo_t hi_t w a_t n_t c_t t) (hp0:c=zaI n (hgt n+1)) (hp1:f=za0 n (hgt n+1)) (hp2:1≤n) (hp3:n≤4096) (hp4:n_t=tot n) (hp5:l≤hgt n) (hp6:j<cnt n l) (hp7:l≠0):
  Calls Tryz.prog 97 #[(vP b 0)] w (Ret fun r w'=>r=(.tuple #[(vI (4*j+num n (l-1))),(vI (min (4*j+4) (cnt n (l-1))+num n (l-1)))])∧Ext w w'):=by
 refine zI (n:=64) (σ:= [(0,(vP b 0))]) Tryz.func97 rfl ?_
 replace h_c:=h_c.now;replace h_f:=h_f.now;replace h_t:=h_t.now
 have hbl:=hX.lt
 have hle1:=h_c.le;have hle2:=h_f.le
 have hlc:=h_c.len_eq;rw [hp0,zbL] at hlc
 have hlf:=h_f.len_eq;rw [hp1,zb6] at hlf
 have hlt:=h_t.len_eq
 have hlet:=h_t.le
 have h5:=zat n
 have hts:=zaw hp3
 have hpl:=zaC (n:=n) (l:=l) (j:=j) hp5 hp6
 have hcn:=zbf n l
 have hgf:gt f l=num n l:=by rw [hp1];exact zci (by omega)
 have hgc:gt c (l-1)=cnt n (l-1):=by rw [hp0];exact zeN (by omega)
 have hgm:gt f (l-1)=num n (l-1):=by rw [hp1];exact zci (by omega)
 have hcm:=zbf n (l-1)
 have hns:=zbJ (n:=n) (l:=l-1) hp3 (by omega)
 refine ze (zd (zc 2 [(3,(vI 0)),(2,(vI 0))] (zf (zb (ze (zT (Ext w.drew) 18 [(5,1,0),(6,16,1),(7,32,2),(8,64,4),(9,1,0),(10,256,16),(11,512,32),(12,1024,64),(13,2048,128),(14,1,0),(15,8192,512),(16,16384,1024),(17,32768,2048),(18,69632,4352),(19,131072,8192),(20,262272,16392),(21,524288,32768),(3,1048576,131071)] (fun hT56=> ?_)))))))
 have hEw1:Ext w w.drew:=Ext.drew w
 generalize w.drew=w1 at hEw1⊢
 have hzw1:=hEw1.size
 refine zh hT56 [(0,4,(vP b 0)),(1,5,(vP b 0)),(2,6,(vP b 4))] 3 7 (zg hT56 3 15 (some 7) (vI (num n l+j)) (zi (Instr.loadAt 3 (vP b 4)) (fun w' hC=>zk (((hX.ext hEw1).ext hC).cell rfl))) (zh hT56 [(4,8,(vP b 0)),(5,9,(vP b 0)),(6,10,(vP b 0)),(7,11,(vP b 1))] 4 255 (zg hT56 8 511 (some 12) (.slice a_f n_f c_f) (zi (Instr.loadAt 29 (vP b 1)) (fun w' hC=>zk (((hX.ext hEw1).ext hC).cell rfl))) (zh hT56 [(9,13,(vP b 0)),(10,14,(vP b 0)),(11,15,(vP b 5))] 3 4095 (zg hT56 12 8191 (some 16) (vI l) (zi (Instr.loadAt 3 (vP b 5)) (fun w' hC=>zk (((hX.ext hEw1).ext hC).cell rfl))) ?_)))))
 obtain ⟨b1,o1,rfl⟩:=h_f.addr (by omega)
 refine zg hT56 13 16383 (some 17) (vP b1 (o1+l*1)) (zi (Instr.indexAt 29 (.slice (pA b1 o1) n_f c_f) (vI l)) (fun w' hC=>zP (E:=3) (sz:=1) (by omega))) (zg hT56 14 32767 (some 18) (vI (gt f l)) (zi (Instr.loadAt 3 (vP b1 (o1+l*1))) (fun w' hC=>zk (((h_f.ext hEw1).ext hC).celln (by omega)))) (zg hT56 15 65535 (some 19) (vI j) (zaa .i64 (IntKind.i64.wrap (((num n l+j:Nat):Int)-((gt f l:Nat):Int))) (zA (by omega) (by omega) (by omega))) (zg hT56 16 131071 (some 20) (vI (4*j)) (zaa .i64 (IntKind.i64.wrap (((4:Nat):Int)*((j:Nat):Int))) (zA (by omega) (by omega) (by omega))) (zh hT56 [(17,2,(vI (4*j)))] 1 262143 (zJ (zb (ze (zT (Ext w1.drew) 16 [(22,4,0),(23,2097152,1),(24,1,0),(25,8388608,4),(26,16777216,8),(27,33554432,16),(28,67108864,32),(29,1,0),(30,268435456,128),(31,536870912,256),(32,1073741824,512),(33,2147483648,1024),(34,4429185024,2112),(35,8589934592,4096),(36,17184063488,8194),(4,34359738368,32767)] (fun hT75=> ?_)))))))))
 have hEw2:Ext w1 w1.drew:=Ext.drew w1
 generalize w1.drew=w2 at hEw2⊢
 have hzw2:=hEw2.size
 refine zh hT75 [(0,21,(vI (4*j)))] 1 1 (zg hT75 1 3 (some 22) (vI (4*j+4)) (zaa .i64 (IntKind.i64.wrap (((4*j:Nat):Int)+((4:Nat):Int))) (zA (by omega) (by omega) (by omega))) (zh hT75 [(2,23,(vP b 0)),(3,24,(vP b 0)),(4,25,(vP b 0)),(5,26,(vP b 0))] 4 63 (zg hT75 6 127 (some 27) (.slice a_c n_c c_c) (zi (Instr.loadAt 29 (vP b 0)) (fun w' hC=>zk (((((hX.ext hEw1)).ext hEw2).ext hC).cell rfl))) (zh hT75 [(7,28,(vP b 0)),(8,29,(vP b 0)),(9,30,(vP b 5))] 3 1023 (zg hT75 10 2047 (some 31) (vI l) (zi (Instr.loadAt 3 (vP b 5)) (fun w' hC=>zk (((((hX.ext hEw1)).ext hEw2).ext hC).cell rfl))) (zg hT75 11 4095 (some 32) (vI (l-1)) (zaa .i64 (IntKind.i64.wrap (((l:Nat):Int)-((1:Nat):Int))) (zA (by omega) (by omega) (by omega))) ?_))))))
 obtain ⟨b2,o2,rfl⟩:=h_c.addr (by omega)
 refine zg hT75 12 8191 (some 33) (vP b2 (o2+(l-1)*1)) (zi (Instr.indexAt 29 (.slice (pA b2 o2) n_c c_c) (vI (l-1))) (fun w' hC=>zP (E:=3) (sz:=1) (by omega))) (zg hT75 13 16383 (some 34) (vI (gt c (l-1))) (zi (Instr.loadAt 3 (vP b2 (o2+(l-1)*1))) (fun w' hC=>zk (((((h_c.ext hEw1)).ext hEw2).ext hC).celln (by omega)))) (zg hT75 14 32767 (some 35) (vI (min (4*j+4) (cnt n (l-1)))) (zqz (.int .i64 (if ((gt c (l-1):Nat):Int)<((4*j+4:Nat):Int) then ((gt c (l-1):Nat):Int) else ((4*j+4:Nat):Int))) (congrArg _ ((zjG _ _).trans (by rw [hgc])))) (zh hT75 [(15,3,(vI (min (4*j+4) (cnt n (l-1)))))] 1 65535 (zJ (zb (ze (zT (Ext w2.drew) 30 [(37,4,0),(38,1,0),(39,137438953472,2),(40,274877906944,4),(41,549755813888,8),(42,1099511627776,16),(43,1,0),(44,4398046511104,64),(45,8796093022208,128),(46,17592186044416,256),(47,35184372088832,512),(48,72567767433216,1056),(49,140737488355328,2048),(50,281543696187392,4097),(51,8,0),(52,1,0),(53,2251799813685248,32768),(54,4503599627370496,65536),(55,9007199254740992,131072),(56,18014398509481984,262144),(57,1,0),(58,72057594037927936,1048576),(59,144115188075855872,2097152),(60,288230376151711744,4194304),(61,576460752303423488,8388608),(62,1188950301625810944,17301504),(63,2305843009213693952,33554432),(64,4612811918334230528,67125248),(3,562949953421312,16383),(4,9223372036854775808,536870911)] (fun hT94=> ?_))))))))
 have hEw3:Ext w2 w2.drew:=Ext.drew w2
 generalize w2.drew=w3 at hEw3⊢
 have hzw3:=hEw3.size
 refine zh hT94 [(0,36,(vI (4*j))),(1,37,(vP b 0)),(2,38,(vP b 0)),(3,39,(vP b 0)),(4,40,(vP b 1))] 5 31 ?_
 have hK1:=(((((hX.ext hEw1)).ext hEw2)).ext hEw3)
 refine zg hT94 5 63 (some 41) (.slice (pA b1 o1) n_f c_f) (zi (Instr.loadAt 29 (vP b 1)) (fun w' hC=>zk ((hK1.ext hC).cell rfl))) (zh hT94 [(6,42,(vP b 0)),(7,43,(vP b 0)),(8,44,(vP b 5))] 3 511 (zg hT94 9 1023 (some 45) (vI l) (zi (Instr.loadAt 3 (vP b 5)) (fun w' hC=>zk ((hK1.ext hC).cell rfl))) (zg hT94 10 2047 (some 46) (vI (l-1)) (zaa .i64 (IntKind.i64.wrap (((l:Nat):Int)-((1:Nat):Int))) (zA (by omega) (by omega) (by omega))) (zg hT94 11 4095 (some 47) (vP b1 (o1+(l-1)*1)) (zi (Instr.indexAt 29 (.slice (pA b1 o1) n_f c_f) (vI (l-1))) (fun w' hC=>zP (E:=3) (sz:=1) (by omega))) ?_))))
 have hK2:=(((((h_f.ext hEw1)).ext hEw2)).ext hEw3)
 refine zg hT94 12 8191 (some 48) (vI (gt f (l-1))) (zi (Instr.loadAt 3 (vP b1 (o1+(l-1)*1))) (fun w' hC=>zk ((hK2.ext hC).celln (by omega)))) (zg hT94 13 16383 (some 49) (vI (4*j+num n (l-1))) (zaa .i64 (IntKind.i64.wrap (((4*j:Nat):Int)+((gt f (l-1):Nat):Int))) (zA (by omega) (by omega) (by omega))) (zh hT94 [(14,50,(vI (min (4*j+4) (cnt n (l-1))))),(15,51,(vP b 0)),(16,52,(vP b 0)),(17,53,(vP b 0)),(18,54,(vP b 1))] 5 524287 (zg hT94 19 1048575 (some 55) (.slice (pA b1 o1) n_f c_f) (zi (Instr.loadAt 29 (vP b 1)) (fun w' hC=>zk ((hK1.ext hC).cell rfl))) (zh hT94 [(20,56,(vP b 0)),(21,57,(vP b 0)),(22,58,(vP b 5))] 3 8388607 (zg hT94 23 16777215 (some 59) (vI l) (zi (Instr.loadAt 3 (vP b 5)) (fun w' hC=>zk ((hK1.ext hC).cell rfl))) (zg hT94 24 33554431 (some 60) (vI (l-1)) (zaa .i64 (IntKind.i64.wrap (((l:Nat):Int)-((1:Nat):Int))) (zA (by omega) (by omega) (by omega))) (zg hT94 25 67108863 (some 61) (vP b1 (o1+(l-1)*1)) (zi (Instr.indexAt 29 (.slice (pA b1 o1) n_f c_f) (vI (l-1))) (fun w' hC=>zP (E:=3) (sz:=1) (by omega))) (zg hT94 26 134217727 (some 62) (vI (gt f (l-1))) (zi (Instr.loadAt 3 (vP b1 (o1+(l-1)*1))) (fun w' hC=>zk ((hK2.ext hC).celln (by omega)))) ?_))))))))
 exact zg hT94 27 268435455 (some 63) (vI (min (4*j+4) (cnt n (l-1))+num n (l-1))) (zaa .i64 (IntKind.i64.wrap (((min (4*j+4) (cnt n (l-1)):Nat):Int)+((gt f (l-1):Nat):Int))) (zA (by omega) (by omega) (by omega))) (zh hT94 [(28,2,(vI (4*j+num n (l-1)))),(29,3,(vI (min (4*j+4) (cnt n (l-1))+num n (l-1))))] 2 1073741823 (zJ (zb (zq (zr (.tuple #[(vI (4*j+num n (l-1))),(vI (min (4*j+4) (cnt n (l-1))+num n (l-1)))]) (⟨rfl,((hEw1.trans hEw2).trans hEw3)⟩))))))
theorem ztk (b n l j:Nat) {lo_c hi_c lo_f hi_f lo_t hi_t n_c c_c n_f c_f n_t c_t:Nat} {a_c a_f a_t:Option Addr} {c f:List Nat} {t:List Un} (w:World) (hX:Blk w b [(.slice a_c n_c c_c),(.slice a_f n_f c_f),(vI n),(.slice a_t n_t c_t),(vI (num n l+j)),(vI l)] 146) (h_c:Es (nv .i64) lo_c hi_c w a_c n_c c_c c) (h_f:Es (nv .i64) lo_f hi_f w a_f n_f c_f f) (h_t:Ms unC 280 lo_t hi_t w a_t n_t c_t t) (hp0:c=zaI n (hgt n+1)) (hp1:f=za0 n (hgt n+1)) (hp2:1≤n) (hp3:n≤4096) (hp4:n_t=tot n) (hp5:l≤hgt n) (hp6:j<cnt n l):
  Calls Tryz.prog 80 #[(vP b 0)] w (Ret fun r w'=>r=(vI (zdz n t l j))∧Ext w w'):=by
 refine zI (n:=47) (σ:= [(0,(vP b 0))]) Tryz.func80 rfl ?_
 replace h_c:=h_c.now;replace h_f:=h_f.now;replace h_t:=h_t.now
 have hbl:=hX.lt
 have hle1:=h_c.le;have hle2:=h_f.le
 have hlc:=h_c.len_eq;rw [hp0,zbL] at hlc
 have hlf:=h_f.len_eq;rw [hp1,zb6] at hlf
 have hlt:=h_t.len_eq
 have hlet:=h_t.le
 have h5:=zat n
 have hts:=zaw hp3
 have hpl:=zaC (n:=n) (l:=l) (j:=j) hp5 hp6
 have hcn:=zbf n l
 have hgf:gt f l=num n l:=by rw [hp1];exact zci (by omega)
 have hxl:=(t.getD (num n l+j) Un.zero).nd.hlv;have hxi:=(t.getD (num n l+j) Un.zero).nd.hix
 refine ze (zd (zc 1 [(2,(vI 0))] (zf (zb (ze (zd (zc 1 [(4,(vP b 0))] (za (zl (some 5) (zhe b n l j _ hX h_c h_f h_t (by first | rfl | assumption) (by first | rfl | assumption) (by first | omega | decide) (by first | omega | decide) (by first | omega | decide) (by first | omega | decide) (by first | omega | decide)) ?_)))))))))
 rintro _ w1 ⟨rfl,hEw1⟩
 have hzw1:=hEw1.size
 refine za (zj (some 6) (Instr.field 77 (vA (unC (t.getD (num n l+j) Un.zero))) 0) (vA (zH (t.getD (num n l+j) Un.zero).nd)) (zj3 (F:=74) (us:=zH (t.getD (num n l+j) Un.zero).nd) (zdw _) (zV _)) ?_)
 refine za (zo (some 3) (Instr.alloc 74 true (.tuple #[])) (vP w1.heap.size 0) (zH Nod.zero) 74 ?_)
 intro w2 hBw2 hEw2
 have hzw2:=hEw2.size;have hlw2:=hBw2.lt
 refine za (zv 74 w1.heap.size 0 74 (vA (zH (t.getD (num n l+j) Un.zero).nd)) (zH Nod.zero) (zH (t.getD (num n l+j) Un.zero).nd) hBw2 (by rw [zV];kernel_rfl) (by first |(simp;done)|(simp;omega)) (zbZ _) ?_)
 intro w3 hBw3 hCw3
 have hzw3:=hCw3.size
 rw [zm _ _ (by simp)] at hBw3
 refine zf (zb (ze (ze (zT (Ext w3.drew) 40 [(8,8,0),(9,128,1),(10,256,2),(11,1,0),(12,1024,8),(13,2048,16),(14,4096,32),(15,8704,68),(16,16384,128),(17,32776,256),(18,98304,768),(19,163840,1280),(20,32769,256),(21,557056,4352),(22,1081344,8448),(23,2129920,16640),(24,32769,256),(25,8421376,65792),(26,16809984,131328),(27,33587200,262400),(28,67141632,524544),(29,32769,256),(30,268468224,2097408),(31,536903680,4194560),(32,1073774592,8388864),(33,2281734144,17826048),(34,4295000064,33554688),(35,8594161664,67141888),(36,17180164096,134220032),(37,34359771136,268435712),(38,68719476736,536871168),(39,137438953473,1073741824),(40,412316860416,3221225472),(41,687194767360,5368709120),(42,1236950581248,9663676416),(43,2336462209024,18253611008),(44,137438953480,1073741824),(45,13331578486784,104152956928),(46,17729624997888,138512695296),(47,35321811042304,275951648768)] (fun hT112=> ?_)))))
 have hEw4:Ext w3 w3.drew:=Ext.drew w3
 generalize w3.drew=w4 at hEw4⊢
 have hzw4:=hEw4.size
 refine zh hT112 [(0,7,(vP w1.heap.size 0))] 1 1 (zg hT112 1 3 (some 8) (vB (((t.getD (num n l+j) Un.zero).nd).lv)) (zi (Instr.loadAt 5 (vP w1.heap.size 0)) (fun w' hC=>zk (((hBw3.ext hEw4).ext hC).cell rfl))) (zg hT112 2 7 (some 9) (vI (((t.getD (num n l+j) Un.zero).nd).lv)) (zaa .i64 (IntKind.i64.wrap ((((t.getD (num n l+j) Un.zero).nd).lv:Nat):Int)) (zA rfl (by omega) (by omega))) (zh hT112 [(3,10,(vP b 0)),(4,11,(vP b 0)),(5,12,(vP b 5))] 3 63 ?_)))
 have hK1:=(((((((hX.ext hEw1)).ext hEw2)).chg hCw3 (fun hs=>by have h:_=_:=hs;omega))).ext hEw4)
 refine zg hT112 6 127 (some 13) (vI l) (zi (Instr.loadAt 3 (vP b 5)) (fun w' hC=>zk ((hK1.ext hC).cell rfl))) ?_
 rcases Classical.em ((t.getD (num n l+j) Un.zero).nd.lv=l) with hf14 | hf14
 ·refine zg hT112 7 255 (some 14) vF (zaD (((((t.getD (num n l+j) Un.zero).nd).lv:Nat):Int) !=((l:Nat):Int)) (zaA (by omega))) (zh hT112 [(8,15,vF),(9,16,(vP w1.heap.size 1))] 2 1023 (zg hT112 10 2047 (some 17) (vW (((t.getD (num n l+j) Un.zero).nd).ix)) (zi (Instr.loadAt 53 (vP w1.heap.size 1)) (fun w' hC=>zk (((hBw3.ext hEw4).ext hC).cell rfl))) (zg hT112 11 4095 (some 18) (vI (((t.getD (num n l+j) Un.zero).nd).ix)) (zaa .i64 (IntKind.i64.wrap ((((t.getD (num n l+j) Un.zero).nd).ix:Nat):Int)) (zA rfl (by omega) (by omega))) (zh hT112 [(12,19,(vP b 0)),(13,20,(vP b 0)),(14,21,(vP b 4))] 3 32767 (zg hT112 15 65535 (some 22) (vI (num n l+j)) (zi (Instr.loadAt 3 (vP b 4)) (fun w' hC=>zk ((hK1.ext hC).cell rfl))) (zh hT112 [(16,23,(vP b 0)),(17,24,(vP b 0)),(18,25,(vP b 0)),(19,26,(vP b 1))] 4 1048575 (zg hT112 20 2097151 (some 27) (.slice a_f n_f c_f) (zi (Instr.loadAt 29 (vP b 1)) (fun w' hC=>zk ((hK1.ext hC).cell rfl))) (zh hT112 [(21,28,(vP b 0)),(22,29,(vP b 0)),(23,30,(vP b 5))] 3 16777215 (zg hT112 24 33554431 (some 31) (vI l) (zi (Instr.loadAt 3 (vP b 5)) (fun w' hC=>zk ((hK1.ext hC).cell rfl))) ?_)))))))))
  obtain ⟨b1,o1,rfl⟩:=h_f.addr (by omega)
  refine zg hT112 25 67108863 (some 32) (vP b1 (o1+l*1)) (zi (Instr.indexAt 29 (.slice (pA b1 o1) n_f c_f) (vI l)) (fun w' hC=>zP (E:=3) (sz:=1) (by omega))) ?_
  have hK2:=(((((((h_f.ext hEw1)).ext hEw2)).chg hCw3 (fun k h1 h2 hs=>by have h:k=_:=hs;omega))).ext hEw4)
  refine zg hT112 26 134217727 (some 33) (vI (gt f l)) (zi (Instr.loadAt 3 (vP b1 (o1+l*1))) (fun w' hC=>zk ((hK2.ext hC).celln (by omega)))) (zg hT112 27 268435455 (some 34) (vI j) (zaa .i64 (IntKind.i64.wrap (((num n l+j:Nat):Int)-((gt f l:Nat):Int))) (zA (by omega) (by omega) (by omega))) ?_)
  rcases Classical.em ((t.getD (num n l+j) Un.zero).nd.ix=j) with hf35 | hf35
  ·refine zg hT112 28 536870911 (some 35) vF (zaD (((((t.getD (num n l+j) Un.zero).nd).ix:Nat):Int) !=((j:Nat):Int)) (zaA (by omega))) (zh hT112 [(29,36,vF),(30,37,vF),(31,38,(vP b 0)),(32,39,(vP b 0)),(33,40,(vP b 2)),(34,41,(vP b 2))] 6 34359738367 (zg hT112 35 68719476735 (some 42) (vI n) (zi (Instr.loadAt 3 (vP b 2)) (fun w' hC=>zk ((hK1.ext hC).cell rfl))) (zg hT112 36 137438953471 (some 43) (vA (zH (t.getD (num n l+j) Un.zero).nd)) (zi (Instr.loadAt 74 (vP w1.heap.size 0)) (fun w' hC=>zw (vs:=zH (t.getD (num n l+j) Un.zero).nd) (((hBw3.ext hEw4).ext hC).all) (by rw [zV];kernel_rfl))) (zz 37 274877906943 (zl (some 44) (zlD n ((t.getD (num n l+j) Un.zero).nd) _ (by omega) (by omega)) ?_)))))
   rintro _ w5 ⟨rfl,hEw5⟩
   have hzw5:=hEw5.size
   refine ⟨.inr hEw5, ?_⟩
   rcases Classical.em (zbT n (t.getD (num n l+j) Un.zero).nd=0) with hf45 | hf45
   ·refine zg (hw:=hEw5) hT112 38 549755813887 (some 45) vF (zaD (((zbT n ((t.getD (num n l+j) Un.zero).nd):Nat):Int) !=((0:Nat):Int)) (zaA (by omega))) (zh (hw:=hEw5) hT112 [(39,46,vF)] 1 1099511627775 (zJ (zb (zn (zu (zb (ze (zd (zc 1 [(2,(vI 0))] ?_)))))))))
    refine zf (zb (zq (zr (vI 0) ?_)))
    have hX1:Ext w w5:=(((Ext.own (hEw1.trans hEw2) hCw3 (by omega)).trans hEw4).trans hEw5)
    exact ⟨congrArg (fun z:Nat=>vI z) (if_neg (zkJ hf14 hf35 hf45)).symm,hX1⟩
   ·refine zg (hw:=hEw5) hT112 38 549755813887 (some 45) vT (zaD (((zbT n ((t.getD (num n l+j) Un.zero).nd):Nat):Int) !=((0:Nat):Int)) (zcp (by omega))) (zh (hw:=hEw5) hT112 [(39,46,vT)] 1 1099511627775 (zJ (zb (zC (ze (zd (zc 1 [(2,(vI 17))] (zf (zb ?_)))))))))
    refine zq (zD (zr (vI 17) ?_))
    have hX2:Ext w w5:=(((Ext.own (hEw1.trans hEw2) hCw3 (by omega)).trans hEw4).trans hEw5)
    exact ⟨congrArg (fun z:Nat=>vI z) (if_pos (show zbV n (t.getD (num n l+j) Un.zero).nd l j from fun hh=>hf45 hh.2.2)).symm,hX2⟩
  ·refine zg hT112 28 536870911 (some 35) vT (zaD (((((t.getD (num n l+j) Un.zero).nd).ix:Nat):Int) !=((j:Nat):Int)) (zcp (by omega))) (zh hT112 [(29,36,vT),(30,37,vT),(31,38,undef),(32,39,undef),(33,40,undef),(34,41,undef),(35,42,undef),(36,43,undef),(37,44,undef),(38,45,undef),(39,46,vT)] 11 1099511627775 (zJ (zb (zC (ze (zd (zc 1 [(2,(vI 17))] (zf (zb ?_)))))))))
   refine zq (zD (zr (vI 17) ?_))
   have hX3:Ext w w4:=((Ext.own (hEw1.trans hEw2) hCw3 (by omega)).trans hEw4)
   exact ⟨congrArg (fun z:Nat=>vI z) (if_pos (show zbV n (t.getD (num n l+j) Un.zero).nd l j from fun hh=>hf35 hh.2.1)).symm,hX3⟩
 ·refine zg hT112 7 255 (some 14) vT (zaD (((((t.getD (num n l+j) Un.zero).nd).lv:Nat):Int) !=((l:Nat):Int)) (zcp (by omega))) (zh hT112 [(8,15,vT),(9,16,undef),(10,17,undef),(11,18,undef),(12,19,undef),(13,20,undef),(14,21,undef),(15,22,undef),(16,23,undef),(17,24,undef),(18,25,undef),(19,26,undef),(20,27,undef),(21,28,undef),(22,29,undef),(23,30,undef),(24,31,undef),(25,32,undef),(26,33,undef),(27,34,undef),(28,35,undef),(29,36,vT),(30,37,vT),(31,38,undef),(32,39,undef),(33,40,undef),(34,41,undef),(35,42,undef),(36,43,undef),(37,44,undef),(38,45,undef),(39,46,vT)] 32 1099511627775 (zJ (zb (zC (ze (zd (zc 1 [(2,(vI 17))] (zf (zb ?_)))))))))
  refine zq (zD (zr (vI 17) ?_))
  have hX4:Ext w w4:=((Ext.own (hEw1.trans hEw2) hCw3 (by omega)).trans hEw4)
  exact ⟨congrArg (fun z:Nat=>vI z) (if_pos (show zbV n (t.getD (num n l+j) Un.zero).nd l j from fun hh=>hf14 hh.1)).symm,hX4⟩
end Go.Proofs.YtkmhgepdhilllaaGreatDoor
