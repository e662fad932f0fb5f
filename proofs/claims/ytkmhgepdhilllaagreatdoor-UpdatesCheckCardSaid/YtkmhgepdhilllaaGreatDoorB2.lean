/- Lemmas and walks: what each function does, by its own code. No condition beyond those of each statement. -/
import Derived.Test.YtkmhgepdhilllaaGreatDoorB1
set_option linter.all false
set_option linter.unusedVariables false
namespace Go.Proofs.YtkmhgepdhilllaaGreatDoor
open Go Go.RowKit Go.Cs
set_option maxRecDepth 100000
theorem zvx (s:Sta) (l:List UInt8) (w:World) (hp0:Sm s l) (hp1:l.length<1099511627776) (hg2:Gl 3 (zas kA) w):
  Calls Tryz.prog 121 #[(vA (stC s))] w (Ret fun r w'=>r=(vA (zK (zX l)))∧Ext w w'):=by
 refine zw (n:=37) (σ:= [(0,(vA (stC s)))]) Tryz.func121 rfl ?_
 have hgl2:=hg2.lt
 have hs0:s.many=l.length:=hp0.many
 refine wsr (za (zS (Instr.box 193 (vA (stC s))) (vP w.heap.size 0) (stC s) 193 ?_))
 intro w1 hBw1 hEw1 hzw1 hlw1
 refine za (zad (zK Dig.zero) 59 ?_)
 intro w2 hBw2 hEw2 hzw2 hlw2
 refine zz (zb 1 [(6,(vP w.heap.size 73))] (za (zm w.heap.size 73 ((hBw1.ext hEw2).cell (zim _)) ?_)))
 refine zb 1 [(3,(vQ s.many))] (zz (za (zQ w.heap.size 0 ((hBw1.ext hEw2).all) (zcF _) ?_)))
 refine za (zS (Instr.buildSlice 23 1 #[(0,(vB 128))]) (.slice (pA w2.heap.size 0) 1 1) [(vB 128)] 5 ?_)
 intro w3 hBw3 hEw3 hzw3 hlw3
 have hSw3:Bs w2.heap.size (w2.heap.size+1) w3 (pA w2.heap.size 0) 1 1 [128]:=Bs.of_blk hBw3 (by kernel_rfl) rfl (Nat.le_refl _) (by decide) (Nat.le_refl _) (Nat.lt_succ_self _)
 have hK1:=(((hg2.ext hEw1).ext hEw2).ext hEw3)
 refine za (zt (ziB s l _ hSw3 (hp0) (by first | omega |(simp;omega)) hK1) ?_)
 rintro _ w4 ⟨a1,rfl,hFz1_0,hEw4⟩
 have hzw4:=hEw4.size
 have hK2:=(((hBw1.ext hEw2).ext hEw3).ext hEw4)
 refine za (zC 193 w.heap.size 0 193 (vA (stC a1)) (stC s) (stC a1) hK2 (by rw [zcF];kernel_rfl) (by first |(simp;done)|(simp;omega)) (zfB _) ?_)
 have hK3:=(((hBw1.ext hEw2).ext hEw3).ext hEw4)
 intro w5 hBw5 hCw5
 have hzw5:=hCw5.size
 rw [zv _ _ (by simp)] at hBw5
 refine wEt (zd (zp ?_))
 have hK4:=(((hBw2.ext hEw3).ext hEw4).chg hCw5)
 have hX1:Ext w w5:=(Ext.own (((hEw1.trans hEw2).trans hEw3).trans hEw4) hCw5 (by omega))
 refine zU (X:=Nat×Sta) (fun ⟨z,y⟩=> []) [11,12,13,14,15,16,17] (fun ⟨z,y⟩ w6=>z≤zdV l.length∧Sm y (l++ [128]++List.replicate z 0)∧Blk w6 w.heap.size (stC y) 193∧Blk w6 w1.heap.size (zK Dig.zero) 59∧Ext w w6) (fun ⟨z,y⟩=>zdV l.length-z) (0,a1) (by kernel_rfl) ⟨Nat.zero_le _,by rw [List.replicate_zero,List.append_nil];exact hFz1_0,hBw5,hK4,hX1⟩ ?_
 rintro ⟨z,y⟩ dw6 w6 ⟨hz,hsm,hB1,hB2,hEl⟩
 have hzl:=hEl.size
 have hl1:=hB1.lt;have hl2:=hB2.lt
 have hmy:y.many=l.length+1+z:=hsm.many.trans (by simp;omega)
 have hpz:zdV l.length=(119-l.length%64)%64:=rfl
 refine zd (wsr (zb 1 [(11,(vP w.heap.size 73))] (za (zm w.heap.size 73 (hB1.cell (zim _)) ?_))))
 refine za (zae (some 13) .u64 (((y.many:Nat):Int).tmod ((64:Nat):Int)) (y.many%64) (zcX _ _) ?_)
 refine za (zbT 14 (y.many%64) 56 (fun hc14=> ?_) (fun hc14=> ?_))
 ·refine wEt (zk (zl (zc (zp (zg (za (zQ w.heap.size 0 (hB1.all) (zcF _) ?_)))))))
  refine za (zS (Instr.buildSlice 23 1 #[(0,(vB 0))]) (.slice (pA w6.heap.size 0) 1 1) [(vB 0)] 5 ?_)
  intro w7 hBw7 hEw7 hzw7 hlw7
  have hSw7:Bs w6.heap.size (w6.heap.size+1) w7 (pA w6.heap.size 0) 1 1 [0]:=Bs.of_blk hBw7 (by kernel_rfl) rfl (Nat.le_refl _) (by decide) (Nat.le_refl _) (Nat.lt_succ_self _)
  refine za (zt (ziB y (l++ [128]++List.replicate z 0) _ hSw7 (hsm) (by first | omega |(simp;omega)) ((hg2.ext hEl).ext hEw7)) ?_)
  rintro _ w8 ⟨a2,rfl,hFz2_0,hEw8⟩
  have hzw8:=hEw8.size
  refine za (zC 193 w.heap.size 0 193 (vA (stC a2)) (stC y) (stC a2) ((hB1.ext hEw7).ext hEw8) (by rw [zcF];kernel_rfl) (by first |(simp;done)|(simp;omega)) (zfB _) ?_)
  intro w9 hBw9 hCw9
  have hzw9:=hCw9.size
  rw [zv _ _ (by simp)] at hBw9
  refine zq (zi (zn ?_))
  have hK5:=(((hB2.ext hEw7).ext hEw8).chg hCw9)
  have hX2:Ext w w9:=(Ext.own ((hEl.trans hEw7).trans hEw8) hCw9 (by omega))
  refine zG (z+1,a2) ?_ ?_
  ·exact ⟨by omega,by have hz:=hFz2_0;rw [List.append_assoc] at hz;rw [List.replicate_succ'];exact hz,hBw9,hK5,hX2⟩
  ·first | omega |(dsimp only;omega)
 ·refine wEt (zf (zP (zo (zo (zD (zc (zd (zY 6 (fun w10 hEw10 hzw10 hT90=> ?_)))))))))
  refine zaq hT90 0 w.heap.size 0 (fun w' hC=>(((hB1.ext hEw10).ext hC).all)) (zcF _) (ze hT90 [(1,19,(vQ s.many))] 1 (zr hT90 2 (vQ (8*l.length%2^64)) (zac .u64 (IntKind.u64.wrap (((8:Nat):Int)*((s.many:Nat):Int))) (by rw [hs0];exact zcz rfl (by simp))) (zy 3 (zt (znz (8*l.length%2^64) _) ?_))))
  rintro _ w11 ⟨a3,rfl,hFz3_0,hEw11⟩
  have hzw11:=hEw11.size
  refine ⟨.inr hEw11, ?_⟩
  have hK6:=(((hg2.ext hEl).ext hEw10).ext hEw11)
  refine zy 4 (zt (ziB y (l++ [128]++List.replicate z 0) _ hFz3_0 (hsm) (by first | omega |(simp;omega)) hK6) ?_)
  rintro _ w12 ⟨a4,rfl,hFz4_0,hEw12⟩
  have hzw12:=hEw12.size
  have hX3:Ext w10 w12:=(hEw11.trans hEw12)
  refine ⟨.inr hX3, ?_⟩
  have hK7:=(((hB1.ext hEw10).ext hEw11).ext hEw12)
  refine zy 5 (zC 193 w.heap.size 0 193 (vA (stC a4)) (stC y) (stC a4) hK7 (by rw [zcF];kernel_rfl) (by first |(simp;done)|(simp;omega)) (zfB _) ?_)
  have hK8:=(((hB1.ext hEw10).ext hEw11).ext hEw12)
  intro w13 hBw13 hCw13
  have hzw13:=hCw13.size
  rw [zv _ _ (by simp)] at hBw13
  refine ⟨.inl (by kernel_rfl), ?_⟩
  refine zB (zc (zd (wsr (zb 1 [(23,(vP w.heap.size 1))] (za (zQ w.heap.size 1 (hBw13.at 1 (w8C a4.h) (zu7 _)) (zbV _) ?_))))))
  refine zb 1 [(25,(vI 0))] (wEt (zp ?_))
  obtain rfl:z=zdV l.length:=by omega
  have hfin:a4.h=zef (zcy l) ((zcy l).length/64):=by exact (show Sm _ (zcy l) from hFz4_0).h
  generalize hH:a4.h=H at hfin⊢
  have hK9:=((((hB2.ext hEw10).ext hEw11).ext hEw12).chg hCw13)
  have hX4:Ext w w13:=(Ext.own (((hEl.trans hEw10).trans hEw11).trans hEw12) hCw13 (by omega))
  refine zU (X:=Nat) (fun i=> [(25,(vI i))]) [4,5,26,27,28,29,30,31,32,33,34,35] (fun i w14=>i≤8∧Blk w14 w1.heap.size (u8s (dgP H i)) 59∧Ext w w14) (fun i=>8-i) 0 (by kernel_rfl) ⟨by omega,(zlE H).symm▸hK9,hX4⟩ ?_
  rintro i dw14 w14 ⟨hi,hBd,hEm⟩
  have hzm:=hEm.size
  have hld:=hBd.lt
  have hdl:=zku H hi
  refine wsr (za (zag 26 i 8 (fun hc26=> ?_) (fun hc26=> ?_)))
  ·refine wEt (zd (zk (zl (zc (zd (zp (wsr ?_)))))))
   refine zb 1 [(27,(vI i))] (za (zaN (Instr.index 168 (vA (w8C H)) (vI i)) (vW ((H.get i).toNat)) (zix (E:=53) (m:=8) (by omega) (zsi (by omega))) ?_))
   refine zb 2 [(5,(vW ((H.get i).toNat))),(4,(vI i))] (wEt (zbO (fun k=>k=w1.heap.size) 6 (fun w15 hEw15 hzw15 hT150=> ?_)))
   have hX5:Chg (fun k=>k=w1.heap.size) w15 w15:=(Chg.refl (fun k=>k=w1.heap.size) w15)
   refine ze (hw:=hX5) hT150 [(0,29,(vI i))] 1 (zr (hw:=hX5) hT150 1 (vI (4*i)) (zac .i64 (IntKind.i64.wrap (((4:Nat):Int)*((i:Nat):Int))) (zao)) (zr (hw:=hX5) hT150 2 (.slice (pA w1.heap.size (0+(4*i)*1)) (32-(4*i)) (32-(4*i))) (zai (Instr.sliceAt 59 (vP w1.heap.size 0) (some (vI (4*i))) none none) (fun w' hC=>zkb (len:=32) (E:=5) (sz:=1) (l:=4*i) (r:=32) (m:=32) (.inr ⟨_,rfl⟩) (.inl ⟨rfl,rfl⟩) (.inl ⟨rfl,rfl⟩) (by simp) (by omega) (by omega) (by omega) (by omega))) (ze (hw:=hX5) hT150 [(3,32,(vW ((H.get i).toNat)))] 1 (zy 4 (zt (zgg ((H.get i).toNat) _ (UInt32.toNat_lt _)) ?_)))))
   rintro _ w16 ⟨a5,rfl,hFz5_0,hEw16⟩
   have hzw16:=hEw16.size
   have hX6:Chg (fun k=>k=w1.heap.size) w15 w16:=((Chg.refl (fun k=>k=w1.heap.size) w15).trans hEw16.chg)
   refine ⟨.inr hX6, ?_⟩
   refine zy 5 (ziy (a:=(pA w1.heap.size (0+(4*i)*1))) (dl:=32-(4*i)) (dc:=32-(4*i)) (some 34) 23 23 3 5 w1.heap.size (i*4) ((hBd.ext hEw15).ext hEw16) (fun _=>by rw [Nat.zero_add,Nat.mul_one,Nat.mul_comm]) (by rw [zbd,hdl];omega) hFz5_0.es (fun _=>rfl) ?_)
   intro w17 hBw17 hCw17
   have hzw17:=hCw17.size
   rw [show zZ (u8s (dgP H i)) (i*4) (((be ((H.get i).toNat) 4).take (min 4 (32-(4*i)))).map u8v)=u8s (dgP H (i+1)) from by rw [show min 4 (32-(4*i))=4 from by omega,List.take_of_length_le (by simp)];exact zrk (by omega)] at hBw17
   have hX7:Chg (fun k=>k=w1.heap.size) w15 w17:=(Chg.then ((Chg.refl (fun k=>k=w1.heap.size) w15).trans hEw16.chg) hCw17 (fun k hk hs=>by have h:k=_:=hs;first | exact hs | exact .inl h | exact .inr h |(exfalso;omega)))
   refine ⟨.inr hX7, ?_⟩
   refine zB (zi (zc (zg (za (zJ 35 i 1 (i+1) ?_)))))
   refine zb 1 [(25,(vI (i+1)))] (zq (zn ?_))
   have hX8:Ext w w17:=(Ext.own ((hEm.trans hEw15).trans hEw16) hCw17 (by omega))
   refine zG (i+1) ?_ ?_
   ·exact ⟨by omega,hBw17,hX8⟩
   ·first | omega |(dsimp only;omega)
  ·refine wEt (zd (zf (zP (zo (zo (zD (zc (zd ?_))))))))
   refine zg ?_
   obtain rfl:i=8:=by omega
   have hBe:Blk w14 w1.heap.size (zK (zX l)) 59:=by have hq:=hBd;rw [hfin,znf] at hq;exact hq
   refine za (zQ w1.heap.size 0 hBe.all (zar _) ?_)
   refine za (zC 59 w1.heap.size 0 59 (vA (zK (zX l))) (zK (zX l)) (zK (zX l)) hBe (by rw [zar];kernel_rfl) (by first |(simp;done)|(simp;omega)) (zbK _) ?_)
   intro w18 hBw18 hCw18
   have hzw18:=hCw18.size
   rw [zv _ _ (by simp)] at hBw18
   exact zF (zaR (show zO Tryz.prog 37 _ _ (.cell 2 59) (vA (zK (zX l))) from ⟨⟨w1.heap.size,0,none⟩,(by kernel_rfl),zE (T:=59) (vs:=zK (zX l)) (hBw18).all (by rw [zar];kernel_rfl)⟩) (⟨rfl,(Ext.own hEm hCw18 (by omega))⟩))
theorem zwA {lo_ls hi_ls:Nat} {a_ls:Option Addr} {n_ls c_ls:Nat} {v_ls:List Value} {ls:List (List UInt8)} (w:World) (h_ls:Ps lo_ls hi_ls w a_ls n_ls c_ls v_ls ls) (hp0:zaa ls<1099511627776) (hg1:Gl 1 (w8C zaV) w) (hg2:Gl 3 (zas kA) w):
  Calls Tryz.prog 90 #[(.slice a_ls n_ls c_ls)] w (Ret fun r w'=>r=(vA (zK (zX ls.flatten)))∧Ext w w'):=by
 refine zw (n:=19) (σ:= [(0,(.slice a_ls n_ls c_ls))]) Tryz.func90 rfl ?_
 replace h_ls:=h_ls.now;have hle_ls:=h_ls.le
 have hgl1:=hg1.lt
 have hgl2:=hg2.lt
 refine wsr (za (zad (zK Dig.zero) 59 ?_))
 intro w1 hBw1 hEw1 hzw1 hlw1
 refine zz (za (zt (zwD _ (hg1.ext hEw1)) ?_))
 rintro _ w2 ⟨rfl,hEw2⟩
 have hzw2:=hEw2.size
 refine zal (stC Sta.new) 193 (zcF _) (zfB _) ?_
 intro w3 hBw3 hEw3 hzw3 hlw3
 refine zM (zb 3 [(9,(vI 0)),(8,(vI n_ls)),(7,(.slice a_ls n_ls c_ls))] (wEt (zp (zU (X:=Nat×Sta) (fun ⟨i,y⟩=> [(9,(vI i))]) [5,10,11,12,13,14,15,16] (fun ⟨i,y⟩ w4=>i≤n_ls∧Sm y (ls.take i).flatten∧Blk w4 w2.heap.size (stC y) 193∧Blk w4 w.heap.size (zK Dig.zero) 59∧Ext w w4) (fun ⟨i,y⟩=>n_ls-i) (0,Sta.new) (by kernel_rfl) ⟨by omega,Sm.new,hBw3,((hBw1.ext hEw2).ext hEw3),((hEw1.trans hEw2).trans hEw3)⟩ ?_))))
 rintro ⟨i,y⟩ dw4 w4 ⟨hi,hsm,hB3,hB2,hEl⟩
 have hzl:=hEl.size
 have hl3:=hB3.lt;have hl2:=hB2.lt
 have hlen:=h_ls.len_eq
 have hsl:=ze5 ls i
 have hsl1:=ze5 ls (i+1)
 have hfl:=zey (ls.take i)
 refine wsr (za (zag 10 i n_ls (fun hc10=> ?_) (fun hc10=> ?_)))
 ·refine wEt (zd (zk (zl (zc (zd (zp (wsr ?_)))))))
  obtain ⟨b1,o1,rfl⟩:=h_ls.addr (by omega)
  refine za (zan b1 o1 n_ls c_ls i 1 ?_)
  obtain ⟨a1,n1,cp1,hP1,hS1⟩:=((h_ls.ext hEl)).cell (i:=i) (by omega)
  have hlehS1:=hS1.le;have hlnhS1:=hS1.len_eq;have hsthS1:=zfR (ls:=ls) (i:=i) (by omega)
  refine za (zm b1 (o1+i*1) hP1 ?_)
  refine zb 1 [(5,(.slice a1 n1 cp1))] (zdx (za (zQ w2.heap.size 0 (hB3.all) (zcF _) ?_)))
  refine zb 1 [(14,(.slice a1 n1 cp1))] (za (zt (ziB y ((ls.take i).flatten) _ hS1 (hsm) (by first | omega | decide) (hg2.ext hEl)) ?_))
  rintro _ w5 ⟨a2,rfl,hFz2_0,hEw5⟩
  have hzw5:=hEw5.size
  refine za (zC 193 w2.heap.size 0 193 (vA (stC a2)) (stC y) (stC a2) (hB3.ext hEw5) (by rw [zcF];kernel_rfl) (by first |(simp;done)|(simp;omega)) (zfB _) ?_)
  intro w6 hBw6 hCw6
  have hzw6:=hCw6.size
  rw [zv _ _ (by simp)] at hBw6
  refine zq (zi (zc (zg (za (zJ 16 i 1 (i+1) ?_)))))
  refine zb 1 [(9,(vI (i+1)))] (zq (zn (zG (i+1,a2) ?_ ?_)))
  ·exact ⟨by omega,by rw [zh3 (by omega)];exact hFz2_0,hBw6,((hB2.ext hEw5).chg hCw6),(Ext.own (hEl.trans hEw5) hCw6 (by omega))⟩
  ·first | omega |(dsimp only;omega)
 ·obtain rfl:i=n_ls:=by omega
  rw [List.take_of_length_le (by omega)] at hsm hfl
  refine wEt (zd (zf (zP (zo (zo (zD (zc (zd ?_))))))))
  refine zg (za (zQ w2.heap.size 0 (hB3.all) (zcF _) ?_))
  refine za (zt (zvx y ls.flatten _ (hsm) (by first | omega | decide) (hg2.ext hEl)) ?_)
  rintro _ w7 ⟨rfl,hEw7⟩
  have hzw7:=hEw7.size
  refine za (zC 59 w.heap.size 0 59 (vA (zK (zX ls.flatten))) (zK Dig.zero) (zK (zX ls.flatten)) (hB2.ext hEw7) (by rw [zar];kernel_rfl) (by first |(simp;done)|(simp;omega)) (zbK _) ?_)
  intro w8 hBw8 hCw8
  have hzw8:=hCw8.size
  rw [zv _ _ (by simp)] at hBw8
  exact zF (zaR (show zO Tryz.prog 19 _ _ (.cell 2 59) (vA (zK (zX ls.flatten))) from ⟨⟨w.heap.size,0,none⟩,(by kernel_rfl),zE (T:=59) (vs:=zK (zX ls.flatten)) (hBw8).all (by rw [zar];kernel_rfl)⟩) (⟨rfl,(Ext.own (hEl.trans hEw7) hCw8 (by omega))⟩))
end Go.Proofs.YtkmhgepdhilllaaGreatDoor
namespace Go.Proofs.YtkmhgepdhilllaaGreatDoor
open Go Go.RowKit Go.Cs
set_option maxRecDepth 100000
theorem zvs {lo_b hi_b:Nat} {a_b:Option Addr} {n_b c_b:Nat} {b:List UInt8} (w:World) (h_b:Bs lo_b hi_b w a_b n_b c_b b) (hp0:n_b≤1099511627776):
  Calls Tryz.prog 83 #[(.slice a_b n_b c_b)] w (Ret fun r w'=>r=(vA (zK (zX b)))∧Ext w w'):=by
 refine zw (n:=69) (σ:= [(0,(.slice a_b n_b c_b))]) Tryz.func83 rfl ?_
 replace h_b:=h_b.now;have hle_b:=h_b.le
 refine wsr (za (zad (zK Dig.zero) 59 ?_))
 intro w1 hBw1 hEw1 hzw1 hlw1
 refine zz (za (zS (Instr.buildSlice 23 0 #[]) (.slice (pA w1.heap.size 0) 0 0) [] 5 ?_))
 intro w2 hBw2 hEw2 hzw2 hlw2
 have hSw2:Bs w1.heap.size (w1.heap.size+1) w2 (pA w1.heap.size 0) 0 0 []:=Bs.of_blk hBw2 (by kernel_rfl) rfl (Nat.le_refl _) (by decide) (Nat.le_refl _) (Nat.lt_succ_self _)
 refine zb 1 [(12,(.slice a_b n_b c_b))] ?_
 have hO1:Cs.Own u8v w1.heap.size (w1.heap.size+1) w2 (pA w1.heap.size 0) 0 0 5 ([]):=Cs.Own.of_blk hBw2 (by simp) (by first | rfl | exact rfl) hSw2.len_eq (Nat.le_refl _) (by simp only [maxLen];omega) (Nat.le_refl _) (Nat.lt_succ_self _)
 refine za (zbr (some 13) 23 23 5 1 (.int .u8 0) hO1 ((h_b.ext hEw1).ext hEw2).es (fun _=>rfl) ?_)
 intro a1 c1 w3 hOw3 hCw3
 have hzw3:=hCw3.size
 have hSw3:=hOw3.bs
 refine za (zS (Instr.buildSlice 23 1 #[(0,(vB 128))]) (.slice (pA w3.heap.size 0) 1 1) [(vB 128)] 5 ?_)
 intro w4 hBw4 hEw4 hzw4 hlw4
 have hSw4:Bs w3.heap.size (w3.heap.size+1) w4 (pA w3.heap.size 0) 1 1 [128]:=Bs.of_blk hBw4 (by kernel_rfl) rfl (Nat.le_refl _) (by decide) (Nat.le_refl _) (Nat.lt_succ_self _)
 refine za (zbr (some 15) 23 23 5 1 (.int .u8 0) (hOw3.ext hEw4) hSw4.es (fun _=>rfl) ?_)
 intro a2 c2 w5 hOw5 hCw5
 have hzw5:=hCw5.size
 have hSw5:=hOw5.bs
 refine zb 1 [(3,(.slice a2 (0+n_b+1) c2))] (wEt (zd (zp ?_)))
 have hK1:=((((((hBw1.ext hEw2)).chg hCw3 (fun hs=>by have hn:=hO1.ne hs;omega)).ext hEw4)).chg hCw5 (fun hs=>by have hn:=(hOw3.ext hEw4).ne hs;omega))
 have hX1:Ext w1 w5:=(Ext.ownS ((Ext.ownS hEw2 hCw3 (fun k hs hk=>by have hn:=hO1.ne hs;omega)).trans hEw4) hCw5 (fun k hs hk=>by have hn:=(hOw3.ext hEw4).ne hs;omega))
 refine zU (X:=Nat×Option Addr×Nat) (fun ⟨z,p,cp⟩=> [(3,(.slice p (0+n_b+1+z) cp))]) [16,17,18,19,20,21,22] (fun ⟨z,p,cp⟩ w6=>z≤zdV b.length∧Cs.Own u8v w1.heap.size w6.heap.size w6 p (0+n_b+1+z) cp 5 (b++ [128]++List.replicate z 0)∧Blk w6 w.heap.size (zK Dig.zero) 59∧Ext w1 w6) (fun ⟨z,p,cp⟩=>zdV b.length-z) (0,a2,c2) (by kernel_rfl) ⟨Nat.zero_le _,by rw [List.replicate_zero,List.append_nil];exact (hOw5).mono (by omega) (Nat.le_refl _),hK1,hX1⟩ ?_
 rintro ⟨z,p,cp⟩ dw6 w6 ⟨hz,hO,hB2,hEl⟩
 have hzl:=hEl.size
 have hlen:=h_b.len_eq
 have hl2:=hB2.lt
 have hle:=hO.es.le
 have hpz:zdV b.length=(119-b.length%64)%64:=rfl
 refine zd (wsr (zb 2 [(17,(vI (0+n_b+1+z))),(16,(.slice p (0+n_b+1+z) cp))] (za (zae (some 18) .i64 (((0+n_b+1+z:Nat):Int).tmod ((64:Nat):Int)) ((0+n_b+1+z)%64) (zcX _ _) ?_))))
 refine za (zbT 19 ((0+n_b+1+z)%64) 56 (fun hc19=> ?_) (fun hc19=> ?_))
 ·refine wEt (zk (zl (zc (zp (zg (zb 1 [(20,(.slice p (0+n_b+1+z) cp))] (za (zS (Instr.buildSlice 23 1 #[(0,(vB 0))]) (.slice (pA w6.heap.size 0) 1 1) [(vB 0)] 5 ?_))))))))
  intro w7 hBw7 hEw7 hzw7 hlw7
  have hSw7:Bs w6.heap.size (w6.heap.size+1) w7 (pA w6.heap.size 0) 1 1 [0]:=Bs.of_blk hBw7 (by kernel_rfl) rfl (Nat.le_refl _) (by decide) (Nat.le_refl _) (Nat.lt_succ_self _)
  refine za (zbr (some 22) 23 23 5 1 (.int .u8 0) (hO.ext hEw7) hSw7.es (fun _=>rfl) ?_)
  intro a3 c3 w8 hOw8 hCw8
  have hzw8:=hCw8.size
  have hSw8:=hOw8.bs
  refine zb 1 [(3,(.slice a3 (0+n_b+1+z+1) c3))] (zq (zi (zn (zG (z+1,a3,c3) ?_ ?_))))
  ·exact ⟨by omega,by have hz:=hOw8;rw [List.append_assoc] at hz;rw [List.replicate_succ'];exact hz,(((hB2.ext hEw7)).chg hCw8 (fun hs=>by have hn:=(hO.ext hEw7).ne hs;omega)),(Ext.ownS (hEl.trans hEw7) hCw8 (fun k hs hk=>by have hn:=(hO.ext hEw7).ne hs;omega))⟩
  ·first | omega |(dsimp only;omega)
 ·refine wEt (zf (zP (zo (zo (zD (zc (wsr ?_)))))))
  refine zb 3 [(25,(vI n_b)),(24,(.slice a_b n_b c_b)),(23,(.slice p (0+n_b+1+z) cp))] (za (zae (some 26) .u64 (IntKind.u64.wrap ((n_b:Nat):Int)) n_b (zbF rfl rfl (by show _<2^64;omega)) ?_))
  refine za (zae (some 27) .u64 (IntKind.u64.wrap (((8:Nat):Int)*((n_b:Nat):Int))) ((8*n_b)%2^64) (zcz rfl (by simp)) ?_)
  refine za (zt (zk7 ((8*n_b)%2^64) _ (Nat.mod_lt _ (by decide))) ?_)
  rintro _ w9 ⟨a4,rfl,hFz1_0,hFz1_1,hFz1_2,hFz1_3,hEw9⟩
  have hzw9:=hEw9.size
  have hla4:=hFz1_1.lt;have hna4:=hFz1_3
  have hSa4:Bs a4 (a4+1) w9 (pA a4 0) 8 8 (be ((8*n_b)%2^64) 8):=Bs.of_blk hFz1_1 rfl hFz1_2 (Nat.le_refl _) (zcI hna4) (Nat.le_refl _) (Nat.lt_succ_self _)
  refine za (zbr (some 29) 23 23 5 1 (.int .u8 0) (hO.ext hEw9) hSa4.es (fun _=>rfl) ?_)
  intro a5 c4 w10 hOw10 hCw10
  have hzw10:=hCw10.size
  have hSw10:=hOw10.bs
  refine zb 1 [(3,(.slice a5 (0+n_b+1+z+8) c4))] (zz (za (zt (zlK _) ?_)))
  rintro _ w11 ⟨rfl,hEw11⟩
  have hzw11:=hEw11.size
  refine zb 3 [(33,(vA (w8C zaV))),(32,(vA (zas kA))),(30,(.tuple #[(vA (zas kA)),(vA (w8C zaV))]))] (za (zad (zas (WA.zero 64)) 167 ?_))
  intro w12 hBw12 hEw12 hzw12 hlw12
  refine za (zad (w8C (WA.zero 8)) 168 ?_)
  intro w13 hBw13 hEw13 hzw13 hlw13
  refine za (zC 167 w11.heap.size 0 167 (vA (zas kA)) (zas (WA.zero 64)) (zas kA) (hBw12.ext hEw13) (by rw [zdW];kernel_rfl) (by first |(simp;done)|(simp;omega)) (zgv _) ?_)
  intro w14 hBw14 hCw14
  have hzw14:=hCw14.size
  rw [zv _ _ (by simp)] at hBw14
  refine za (zC 168 w12.heap.size 0 168 (vA (w8C zaV)) (w8C (WA.zero 8)) (w8C zaV) (hBw13.chg hCw14) (by rw [zbV];kernel_rfl) (by first |(simp;done)|(simp;omega)) (zd7 _) ?_)
  intro w15 hBw15 hCw15
  have hzw15:=hCw15.size
  rw [zv _ _ (by simp)] at hBw15
  refine zM (zb 1 [(6,(vI 0))] (wEt (zp ?_)))
  obtain rfl:z=zdV b.length:=by omega
  have hX2:=Ext.own ((hEw11.trans hEw12).trans hEw13) hCw14 (by omega)
  have hSp:Bs w1.heap.size w10.heap.size w15 a5 (0+n_b+1+(zdV b.length)+8) c4 (zcy b):=by have hq:=((hSw10.ext hX2).chg hCw15);rw [zt2 hlen rfl] at hq;exact hq
  have hpl:(zcy b).length=0+n_b+1+(zdV b.length)+8:=hSp.len_eq.symm
  have hp64:=zrP b
  have hK2:=(((((hB2.ext hEw9)).chg hCw10 (fun hs=>by have hn:=(hO.ext hEw9).ne hs;omega)).ext hX2).chg hCw15)
  have hX3:Ext w1 w15:=(Ext.own ((Ext.ownS (hEl.trans hEw9) hCw10 (fun k hs hk=>by have hn:=(hO.ext hEw9).ne hs;omega)).trans hX2) hCw15 (by omega))
  refine zU (X:=Nat) (fun k=> [(6,(vI (64*k)))]) [34,35,36,37,38,39,40,41,42,43,44,45,46] (fun k w16=>k≤(zcy b).length/64∧Bs w1.heap.size w10.heap.size w16 a5 (0+n_b+1+(zdV b.length)+8) c4 (zcy b)∧Blk w16 w12.heap.size (w8C (zef (zcy b) k)) 168∧Blk w16 w.heap.size (zK Dig.zero) 59∧Ext w1 w16) (fun k=>(zcy b).length/64-k) 0 (by kernel_rfl) ⟨Nat.zero_le _,hSp,hBw15,hK2,hX3⟩ ?_
  rintro k dw16 w16 ⟨hk,hSk,hB5,hB2b,hEm⟩
  have hzm:=hEm.size
  have hl5:=hB5.lt;have hl2b:=hB2b.lt
  have hlk:=hSk.le
  refine zd (wsr (zb 3 [(36,(vI (0+n_b+1+(zdV b.length)+8))),(35,(.slice a5 (0+n_b+1+(zdV b.length)+8) c4)),(34,(vI (64*k)))] (za (zag 37 (64*k) (0+n_b+1+(zdV b.length)+8) (fun hc37=> ?_) (fun hc37=> ?_)))))
  ·refine wEt (zk (zl (zc (zd (zp (zY 8 (fun w17 hEw17 hzw17 hT146=> ?_)))))))
   refine zaq hT146 0 w12.heap.size 0 (fun w' hC=>(((hB5.ext hEw17).ext hC).all)) (zbV _) (ze hT146 [(1,41,(.slice a5 (0+n_b+1+(zdV b.length)+8) c4)),(2,42,(vI (64*k))),(3,43,(vI (64*k)))] 3 (zr hT146 4 (vI (64*k+64)) (zac .i64 (IntKind.i64.wrap (((64*k:Nat):Int)+((64:Nat):Int))) (zao)) ?_))
   obtain ⟨a6,hR1,hS1⟩:=(hSk.ext hEw17).slice Tryz.prog 23 5 (64*k) (64*k+64) c4 (some (vI (64*k))) (some (vI (64*k+64))) none
   refine zr hT146 5 (.slice a6 (64*k+64-(64*k)) (c4-(64*k))) (zai (Instr.sliceAt 23 (.slice a5 (0+n_b+1+(zdV b.length)+8) c4) (some (vI (64*k))) (some (vI (64*k+64))) none) (fun w' hC=>hR1 _)) (zy 6 (zt (ztk (zef (zcy b) k) _ hS1 (by first | omega | decide)) ?_))
   rintro _ w18 ⟨rfl,hEw18⟩
   have hzw18:=hEw18.size
   refine ⟨.inr hEw18, ?_⟩
   refine zy 7 (zC 168 w12.heap.size 0 168 (vA (w8C (zfp (zef (zcy b) k) (((zcy b).drop (64*k)).take (64*k+64-(64*k)))))) (w8C (zef (zcy b) k)) (w8C (zfp (zef (zcy b) k) (((zcy b).drop (64*k)).take (64*k+64-(64*k))))) ((hB5.ext hEw17).ext hEw18) (by rw [zbV];kernel_rfl) (by first |(simp;done)|(simp;omega)) (zd7 _) ?_)
   intro w19 hBw19 hCw19
   have hzw19:=hCw19.size
   rw [zv _ _ (by simp)] at hBw19
   refine ⟨.inl (by kernel_rfl), ?_⟩
   refine zB (zi (zc (zg (zb 1 [(38,(vI (64*k)))] (za (zJ 39 (64*k) 64 (64*k+64) ?_))))))
   refine zb 1 [(6,(vI (64*k+64)))] (zq (zn ?_))
   have hK3:=(((hSk.ext hEw17).ext hEw18).chg hCw19)
   have hK4:=(((hB2b.ext hEw17).ext hEw18).chg hCw19)
   have hX4:Ext w1 w19:=(Ext.own ((hEm.trans hEw17).trans hEw18) hCw19 (by omega))
   refine zG (k+1) ?_ ?_
   ·exact ⟨by omega,hK3,by have hz:=hBw19;rw [show 64*k+64-(64*k)=64 from by omega] at hz;exact hz,hK4,hX4⟩
   ·first | omega |(dsimp only;omega)
  ·refine wEt (zf (zP (zo (zo (zD (zc (wsr ?_)))))))
   refine za (zad (zK Dig.zero) 59 ?_)
   intro w20 hBw20 hEw20 hzw20 hlw20
   refine zM (zb 1 [(8,(vI 0))] (wEt (zp ?_)))
   obtain rfl:k=(zcy b).length/64:=by omega
   obtain ⟨H,hH⟩:∃H,H=zef (zcy b) ((zcy b).length/64):=⟨_,rfl⟩
   have hBH:Blk w20 w12.heap.size (w8C H) 168:=by rw [hH];exact (hB5.ext hEw20)
   refine zU (X:=Nat) (fun i=> [(8,(vI i))]) [9,10,47,48,49,50,51,52,53,54,55,56,57,58,59,60,61,62,63,64,65,66,67] (fun i w21=>i≤8∧Blk w21 w12.heap.size (w8C H) 168∧Blk w21 w16.heap.size (u8s (dgP H i)) 59∧Blk w21 w.heap.size (zK Dig.zero) 59∧Ext w1 w21) (fun i=>8-i) 0 (by kernel_rfl) ⟨by omega,hBH,(zlE H).symm▸hBw20,(hB2b.ext hEw20),(hEm.trans hEw20)⟩ ?_
   rintro i dw21 w21 ⟨hi,hBh,hBd,hB2c,hEn⟩
   have hzn:=hEn.size
   have hlh:=hBh.lt;have hld:=hBd.lt;have hl2c:=hB2c.lt
   have hdl:=zku H hi
   refine zd (wsr (zb 1 [(47,(vI i))] (za (zag 48 i 8 (fun hc48=> ?_) (fun hc48=> ?_)))))
   ·refine wEt (zk (zl (zc (zd (zp (wsr (zb 1 [(51,(vI i))] ?_)))))))
    refine za (zaW w12.heap.size 0 i 8 1 ?_)
    refine za (zm w12.heap.size (0+i*1) (hBh.cell (za1 i (by omega))) ?_)
    refine za (zt (zlm ((H.get i).toNat) _ (UInt32.toNat_lt _)) ?_)
    rintro _ w22 ⟨a7,rfl,hFz4_0,hFz4_1,hFz4_2,hFz4_3,hEw22⟩
    have hzw22:=hEw22.size
    have hla7:=hFz4_1.lt;have hna7:=hFz4_3
    have hSa7:Bs a7 (a7+1) w22 (pA a7 0) 4 4 (be ((H.get i).toNat) 4):=Bs.of_blk hFz4_1 rfl hFz4_2 (Nat.le_refl _) (zcI hna7) (Nat.le_refl _) (Nat.lt_succ_self _)
    refine zb 1 [(9,(.slice (pA a7 0) 4 4))] (zz (zb 1 [(10,(vI 0))] (wEt (zp (zU (X:=Nat) (fun j=> [(10,(vI j))]) [55,56,57,58,59,60,61,62,63,64,65,66,67] (fun j w23=>j≤4∧Blk w23 w16.heap.size (u8s (dgQ H i j)) 59∧Chg (fun q=>q=w16.heap.size) w22 w23) (fun j=>4-j) 0 (by kernel_rfl) ⟨by omega,by rw [zrm];exact (hBd.ext hEw22),Chg.refl _ _⟩ ?_)))))
    rintro j dw23 w23 ⟨hj,hBq,hCj⟩
    have hzj:=hCj.size
    refine zd (wsr (zb 1 [(55,(vI j))] (za (zag 56 j 4 (fun hc56=> ?_) (fun hc56=> ?_)))))
    ·refine wEt (zk (zl (zc (zd (zp (zg (zb 1 [(59,(vI i))] (za (zcg 60 4 i (4*i) ?_)))))))))
     refine zb 1 [(61,(vI j))] (za (zJ 62 (4*i) j (4*i+j) ?_))
     refine zb 2 [(64,(vI j)),(63,(.slice (pA a7 0) 4 4))] (za (zan a7 0 4 4 j 1 ?_))
     refine za (zm a7 (0+j*1) ((hSa7.chg hCj).cell1 (by omega)) ?_)
     refine za (zaW w16.heap.size 0 (4*i+j) 32 1 ?_)
     refine za (zah 5 w16.heap.size (0+(4*i+j)*1) 59 (vB (byt (be ((H.get i).toNat) 4) j)) (u8s (dgQ H i j)) hBq (by rw [zbd,zt1 H (by omega) (by omega)];omega) ?_)
     intro w24 hBw24 hCw24
     have hzw24:=hCw24.size
     rw [show ((u8s (dgQ H i j)).set (0+(4*i+j)*1) (vB (byt (be ((H.get i).toNat) 4) j)):List Value)=u8s (dgQ H i (j+1)) from ztO (by omega) (by omega)] at hBw24
     refine zq (zi (zc (zg (zb 1 [(57,(vI j))] (za (zJ 58 j 1 (j+1) ?_))))))
     refine zb 1 [(10,(vI (j+1)))] (zq (zn (zG (j+1) ?_ ?_)))
     ·exact ⟨by omega,hBw24,(Chg.then (Chg.then (Chg.refl (fun q=>q=w16.heap.size) w22) hCj (fun k hk hs=>by have h:k=_:=hs;first | exact hs | exact .inl h | exact .inr h |(exfalso;omega))) hCw24 (fun k hk hs=>by have h:k=_:=hs;first | exact hs | exact .inl h | exact .inr h |(exfalso;omega)))⟩
     ·first | omega |(dsimp only;omega)
    ·refine wEt (zf (zP (zo (zo (zD (zi (zc (zg ?_))))))))
     refine zb 1 [(49,(vI i))] (za (zJ 50 i 1 (i+1) ?_))
     refine zb 1 [(8,(vI (i+1)))] (zq (zn (zG (i+1) ?_ ?_)))
     ·exact ⟨by omega,((hBh.ext hEw22).chg hCj),by have hz:=hBq;rw [show j=4 from by omega,zr0] at hz;exact hz,((hB2c.ext hEw22).chg hCj),(Ext.own (hEn.trans hEw22) hCj (by omega))⟩
     ·first | omega |(dsimp only;omega)
   ·refine wEt (zf (zP (zo (zo (zD (zc (wsr ?_)))))))
    obtain rfl:i=8:=by omega
    have hBe:Blk w21 w16.heap.size (zK (zX b)) 59:=by have hq:=hBd;rw [hH,znf] at hq;exact hq
    refine za (zQ w16.heap.size 0 hBe.all (zar _) ?_)
    refine za (zC 59 w.heap.size 0 59 (vA (zK (zX b))) (zK Dig.zero) (zK (zX b)) hB2c (by rw [zar];kernel_rfl) (by first |(simp;done)|(simp;omega)) (zbK _) ?_)
    intro w25 hBw25 hCw25
    have hzw25:=hCw25.size
    rw [zv _ _ (by simp)] at hBw25
    exact zF (zaR (show zO Tryz.prog 69 _ _ (.cell 2 59) (vA (zK (zX b))) from ⟨⟨w.heap.size,0,none⟩,(by kernel_rfl),zE (T:=59) (vs:=zK (zX b)) (hBw25).all (by rw [zar];kernel_rfl)⟩) (⟨rfl,(Ext.own (hEw1.trans hEn) hCw25 (by omega))⟩))
end Go.Proofs.YtkmhgepdhilllaaGreatDoor
namespace Go.Proofs.YtkmhgepdhilllaaGreatDoor
open Go Go.RowKit Go.Cs
set_option maxRecDepth 100000
theorem ze7 (x:Nod) (w:World) (hp0:zaz x=0) (hg0:Gl 0 [vI 45,vI 33] w) (hg1:Gl 1 (w8C zaV) w) (hg2:Gl 3 (zas kA) w):
  Calls Tryz.prog 66 #[(vA (zH x))] w (Ret fun r w'=>r=(.tuple #[(vA (zK (zX (zR x)))),(vI 0)])∧Ext w w'):=by
 refine zw (n:=18) (σ:= [(0,(vA (zH x)))]) Tryz.func66 rfl ?_
 have hgl0:=hg0.lt
 have hgl1:=hg1.lt
 have hgl2:=hg2.lt
 refine wsr (za (zS (Instr.box 74 (vA (zH x))) (vP w.heap.size 0) (zH x) 74 ?_))
 intro w1 hBw1 hEw1 hzw1 hlw1
 refine za (zad (zK Dig.zero) 59 ?_)
 intro w2 hBw2 hEw2 hzw2 hlw2
 refine zb 1 [(3,(vI 0))] (zz (za (zQ w.heap.size 0 ((hBw1.ext hEw2).all) (zN _) ?_)))
 refine za (zt (zvv x _ (by assumption) ((hg0.ext hEw1).ext hEw2)) ?_)
 rintro _ w3 ⟨a1,rfl,hFz1_0,hFz1_1,hFz1_2,hFz1_3,hEw3⟩
 have hzw3:=hEw3.size
 have hla1:=hFz1_1.lt;have hna1:=hFz1_3
 have hSa1:Bs a1 (a1+1) w3 (pA a1 0) (zcj x) (zcj x) (zR x):=Bs.of_blk hFz1_1 rfl hFz1_2 (Nat.le_refl _) (zcI hna1) (Nat.le_refl _) (Nat.lt_succ_self _)
 refine zb 5 [(5,(vI 0)),(4,(.slice (pA a1 0) (zcj x) (zcj x))),(10,(vI 0)),(9,(.slice (pA a1 0) (zcj x) (zcj x))),(6,(.tuple #[(.slice (pA a1 0) (zcj x) (zcj x)),(vI 0)]))] (zM (zb 1 [(11,(vI 0))] (za (zbe 12 0 0 ?_))))
 refine wEt (zf (zl (zc (wsr (zb 1 [(15,(.slice (pA a1 0) (zcj x) (zcj x)))] (za (zS (Instr.buildSlice 190 1 #[(0,(.slice (pA a1 0) (zcj x) (zcj x)))]) (.slice (pA w3.heap.size 0) 1 1) [(.slice (pA a1 0) (zcj x) (zcj x))] 23 ?_)))))))
 intro w4 hBw4 hEw4 hzw4 hlw4
 have hSw4:Ps 0 w4.heap.size w4 (pA w3.heap.size 0) 1 1 [(.slice (pA a1 0) (zcj x) (zcj x))] [zR x]:=Ps.of_new hBw4 rfl (by decide) (zbg.cons (zde.at (hSa1.ext hEw4)) zbg.nil)
 have hX1:=((hEw1.trans hEw2).trans hEw3).trans hEw4
 refine za (zt (zwA _ hSw4 (by simp [zaa,zvf];unfold zcj;split<;>decide) (hg1.ext hX1) (hg2.ext hX1)) ?_)
 rintro _ w5 ⟨rfl,hEw5⟩
 have hzw5:=hEw5.size
 rw [show zX ([zR x]).flatten=zX (zR x) from by simp]
 have hK1:=(((hBw2.ext hEw3).ext hEw4).ext hEw5)
 refine za (zC 59 w1.heap.size 0 59 (vA (zK (zX (zR x)))) (zK Dig.zero) (zK (zX (zR x))) hK1 (by rw [zar];kernel_rfl) (by first |(simp;done)|(simp;omega)) (zbK _) ?_)
 have hK2:=(((hBw2.ext hEw3).ext hEw4).ext hEw5)
 intro w6 hBw6 hCw6
 have hzw6:=hCw6.size
 rw [zv _ _ (by simp)] at hBw6
 exact zb 1 [(3,(vI 0))] (zF (zaQ (show zO Tryz.prog 18 _ _ (.cell 2 59) (vA (zK (zX (zR x)))) from ⟨⟨w1.heap.size,0,none⟩,(by kernel_rfl),zE (T:=59) (vs:=zK (zX (zR x))) (hBw6).all (by rw [zar];kernel_rfl)⟩) (show zO Tryz.prog 18 _ _ (.tmp 3) (vI 0) by (show _=_;kernel_rfl)) (⟨rfl,(Ext.own (hX1.trans hEw5) hCw6 (by omega))⟩)))
theorem zeG (x:Nod) (w:World):
  Calls Tryz.prog 56 #[(vA (zH x))] w (Ret fun r w'=>r=(vA (zK (zX (zR x))))∧Ext w w'):=by
 refine zw (n:=6) (σ:= [(0,(vA (zH x)))]) Tryz.func56 rfl ?_
 refine wsr (za (zS (Instr.box 74 (vA (zH x))) (vP w.heap.size 0) (zH x) 74 ?_))
 intro w1 hBw1 hEw1 hzw1 hlw1
 refine za (zad (zK Dig.zero) 59 ?_)
 intro w2 hBw2 hEw2 hzw2 hlw2
 refine zz (za (zQ w.heap.size 0 ((hBw1.ext hEw2).all) (zN _) ?_))
 refine za (zt (zqg x _) ?_)
 rintro _ w3 ⟨a1,ca1,rfl,hFz1_0,hEw3⟩
 have hzw3:=hEw3.size
 have hlea1:=hFz1_0.le
 have hba1:=hFz1_0.bs
 refine za (zt (zvs _ hba1 (by unfold zcj;split<;>decide)) ?_)
 rintro _ w4 ⟨rfl,hEw4⟩
 have hzw4:=hEw4.size
 refine za (zC 59 w1.heap.size 0 59 (vA (zK (zX (zR x)))) (zK Dig.zero) (zK (zX (zR x))) ((hBw2.ext hEw3).ext hEw4) (by rw [zar];kernel_rfl) (by first |(simp;done)|(simp;omega)) (zbK _) ?_)
 intro w5 hBw5 hCw5
 have hzw5:=hCw5.size
 rw [zv _ _ (by simp)] at hBw5
 refine zF (zaR (show zO Tryz.prog 6 _ _ (.cell 2 59) (vA (zK (zX (zR x)))) from ⟨⟨w1.heap.size,0,none⟩,(by kernel_rfl),zE (T:=59) (vs:=zK (zX (zR x))) (hBw5).all (by rw [zar];kernel_rfl)⟩) ?_)
 have hX1:Ext w w5:=(Ext.own (((hEw1.trans hEw2).trans hEw3).trans hEw4) hCw5 (by omega))
 exact ⟨rfl,hX1⟩
end Go.Proofs.YtkmhgepdhilllaaGreatDoor
