/- Lemmas and walks: what each function does, by its own code. No condition beyond those of each statement. -/
import Derived.Test.YtkmhgepdhilllaaGreatDoorK2
import Derived.ProofKit
import Derived.OpenShut
import Derived.ChangeOld
import Derived.Deep.Slices
import Derived.LaidMore
import Derived.Stop.Joined
set_option linter.all false
set_option linter.unusedVariables false
namespace Go.Proofs.YtkmhgepdhilllaaGreatDoor
open Go Go.RowKit Go.Cs
set_option maxRecDepth 100000
set_option maxHeartbeats 4000000 in
theorem zpw (w:World) (hg0:Gl 0 [vI 45,vI 33] w) (hg1:Gl 1 (w8C zbm) w) (hg2:Gl 3 (zax kA) w) (hg3:Gl 2 [.iface 227 (.agg #[.pointer (some ⟨4,160,none⟩)])] w):
  Calls Tryz.prog 24 #[] w (Ret fun r w'=>r=vT∧Ext w w'):=by
 refine zC (n:=177) (σ:= []) Tryz.func24 rfl ?_
 have hgl0:=hg0.lt
 have hgl1:=hg1.lt
 have hgl2:=hg2.lt
 have hgl3:=hg3.lt
 have ht5:tot 5=3:=by decide
 have hw1:=zv4;have hw2:=zwv
 refine ze (zd (zc 1 [(0,vF)] (zf (zb (ze (zd (za (zq (zkb 3 _ (by first | omega | decide)) ?_))))))))
 rintro _ w1 ⟨rfl,hEw1⟩
 have hzw1:=hEw1.size
 refine za (zq (zkb 4 _ (by first | omega | decide)) ?_)
 rintro _ w2 ⟨rfl,hEw2⟩
 have hzw2:=hEw2.size
 refine za (zaf (zQ Dig.zero) 59 ?_)
 intro w3 hBw3 hEw3 hzw3 hlw3
 refine za (zaf (zQ Dig.zero) 59 ?_)
 intro w4 hBw4 hEw4 hzw4 hlw4
 refine za (zG 59 w2.heap.size 0 59 (vA (zQ (mkD 3))) (zQ Dig.zero) (zQ (mkD 3)) (hBw3.ext hEw4) (by rw [zaq];kernel_rfl) (by first |(simp;done)|(simp;omega)) (zbW _) ?_)
 intro w5 hBw5 hCw5
 have hzw5:=hCw5.size
 rw [zy _ _ (by simp)] at hBw5
 refine za (zG 59 w3.heap.size 0 59 (vA (zQ (mkD 4))) (zQ Dig.zero) (zQ (mkD 4)) (hBw4.chg hCw5) (by rw [zaq];kernel_rfl) (by first |(simp;done)|(simp;omega)) (zbW _) ?_)
 intro w6 hBw6 hCw6
 have hzw6:=hCw6.size
 rw [zy _ _ (by simp)] at hBw6
 refine zf (zb (ze (zd (za (zcy (some 22) 28 68 35 56 5 5 .i64 .i64 (vA (zM Rec.zero)) (by omega) (by omega) (by omega) ?_)))))
 rw [zd2 (f:=zM) (x:=Rec.zero) rfl (zZ _) (by decide)]
 intro w7 hBw7 hEw7
 have hzw7:=hEw7.size;have hlw7:=hBw7.lt
 have hmw7:Ms zM 35 w6.heap.size (w6.heap.size+1) w7 (pA w6.heap.size 0) 5 5 (List.replicate 5 Rec.zero):=Ms.of_pre (r:= []) (by rw [List.append_nil];exact hBw7) zZ (by simp) (Nat.le_refl _) (by simp only [maxLen];omega) (Nat.le_refl _) (Nat.lt_succ_self _)
 refine za (zab (Instr.buildSlice 29 3 #[(0,(vI 1)),(1,(vI 1)),(2,(vI 0))]) (.slice (pA w7.heap.size 0) 3 3) [(vI 1),(vI 1),(vI 0)] 3 ?_)
 intro w8 hBw8 hEw8 hzw8 hlw8
 have hSw8:Es (nv .i64) w7.heap.size (w7.heap.size+1) w8 (pA w7.heap.size 0) 3 3 ([1,1,0]):=Es.of_blk hBw8 rfl rfl (Nat.le_refl _) (by decide) (Nat.le_refl _) (Nat.lt_succ_self _)
 have hK1:=((((((((hg0.ext hEw1).ext hEw2).ext hEw3).ext hEw4).chg hCw5).chg hCw6).ext hEw7).ext hEw8)
 have hK2:=((((((((hg1.ext hEw1).ext hEw2).ext hEw3).ext hEw4).chg hCw5).chg hCw6).ext hEw7).ext hEw8)
 have hK3:=((((((((hg2.ext hEw1).ext hEw2).ext hEw3).ext hEw4).chg hCw5).chg hCw6).ext hEw7).ext hEw8)
 refine za (zq (zso 5 _ (hmw7.ext hEw8) hSw8 (wM0) (by first | omega | decide) hK1 hK2 hK3) ?_)
 rintro _ w9 ⟨a1,rfl,hFz3_0,hEw9⟩
 have hzw9:=hEw9.size
 have hma1:=hFz3_0.ms;have hlea1:=hma1.le
 refine zc 3 [(26,(vI 0)),(25,(vA [(vI 5),(.slice a1 (tot 5) (tot 5))])),(21,(.tuple #[(vA [(vI 5),(.slice a1 (tot 5) (tot 5))]),(vI 0)]))] (zan ([(vI 5),(.slice a1 (tot 5) (tot 5))]) 44 rfl (by simp [Value.oneCell']) ?_)
 intro w10 hBw10 hEw10 hzw10 hlw10
 refine zc 1 [(4,(vI 0))] (zf (zb (ze (zd (za (zT w9.heap.size 0 (hBw10.all) ?_))))))
 refine za (zab (Instr.buildSlice 29 3 #[(0,(vI 1)),(1,(vI 1)),(2,(vI 0))]) (.slice (pA w10.heap.size 0) 3 3) [(vI 1),(vI 1),(vI 0)] 3 ?_)
 intro w11 hBw11 hEw11 hzw11 hlw11
 have hSw11:Es (nv .i64) w10.heap.size (w10.heap.size+1) w11 (pA w10.heap.size 0) 3 3 ([1,1,0]):=Es.of_blk hBw11 rfl rfl (Nat.le_refl _) (by decide) (Nat.le_refl _) (Nat.lt_succ_self _)
 have hI1:=(hSw11).ints
 have hK4:=(((hK1.ext hEw9).ext hEw10).ext hEw11)
 have hK5:=(((hK2.ext hEw9).ext hEw10).ext hEw11)
 have hK6:=(((hK3.ext hEw9).ext hEw10).ext hEw11)
 have hK7:=(((((((((((hg3.ext hEw1).ext hEw2).ext hEw3).ext hEw4).chg hCw5).chg hCw6).ext hEw7).ext hEw8).ext hEw9).ext hEw10).ext hEw11)
 refine za (zq (zuQ 5 _ ((hma1.ext hEw10).ext hEw11) hI1 (by first | omega | decide) (by first | omega | decide) (by first | omega | decide) (zfB wM0) (by first | omega | decide) (zm0.1 (by decide)) (by rw [show ofT (tot 5) (zam (List.replicate 5 Rec.zero) ([1,1,0])) (([1,1,0]:List Nat).map fun (x:Nat)=>(x:Int))=wT0 from wOf];exact ztj (n:=5) wO0 rfl) hK4 hK5 hK6 hK7) ?_)
 rintro _ w12 ⟨a2,rfl,hFz4_0,hEw12⟩
 have hzw12:=hEw12.size
 have hlea2:=hFz4_0.le
 rw [show (ofT (tot 5) (zam (List.replicate 5 Rec.zero) ([1,1,0])) (([1,1,0]).map fun (x:Nat)=>(x:Int)))=wT0 from wOf] at hFz4_0
 refine zc 3 [(32,(vI 0)),(31,(vA [(vI 5),(.slice a2 (tot 5) (tot 5))])),(27,(.tuple #[(vA [(vI 5),(.slice a2 (tot 5) (tot 5))]),(vI 0)]))] (zan ([(vI 5),(.slice a2 (tot 5) (tot 5))]) 38 rfl (by simp [Value.oneCell']) ?_)
 intro w13 hBw13 hEw13 hzw13 hlw13
 refine zc 1 [(6,(vI 0))] (zf (zb (ze (zd (za (zT w12.heap.size 0 (hBw13.all) ?_))))))
 refine za (zq (zep 5 4 _ (hFz4_0.ext hEw13) (by first | omega | decide) (by first | omega | decide) (by first | omega | decide) (za9 wO0) (zaZ (n:=5) wO0 rfl) (by first | omega | decide) ((hK4.ext hEw12).ext hEw13) ((hK5.ext hEw12).ext hEw13) ((hK6.ext hEw12).ext hEw13)) ?_)
 rintro _ w14 ⟨rfl,hEw14⟩
 have hzw14:=hEw14.size
 rw [show za0 (wT0.getD (4/4) Un.zero) (4%4)=0 from wG0]
 refine zc 5 [(8,(vI 0)),(7,(vI 0)),(37,(vI 0)),(36,(vI 0)),(33,(.tuple #[(vI 0),(vI 0)]))] (zf (zb (ze (zaa 12 (fun w15 hEw15 hzw15 hT93=> ?_)))))
 refine zaT hT93 0 w12.heap.size 0 (fun w' hC=>((((hBw13.ext hEw14).ext hEw15).ext hC).all)) ?_
 have hK8:=((((((((((hBw5.chg hCw6).ext hEw7).ext hEw8).ext hEw9).ext hEw10).ext hEw11).ext hEw12).ext hEw13).ext hEw14).ext hEw15)
 refine zal hT93 2 w2.heap.size 0 (fun w' hC=>((hK8.ext hC).all)) (zaq _) (zbE 1 8 ?_ ?_)
 ·refine zq (zcD 3 _ (by first | omega | decide | exact UInt8.toNat_lt _)) ?_
  rintro _ w16 ⟨rfl,hEw16⟩
  have hzw16:=hEw16.size
  refine ⟨.inr hEw16, ?_⟩
  refine zbE 3 8 ?_ ?_
  ·have hK9:=((((hFz4_0.ext hEw13).ext hEw14).ext hEw15).ext hEw16)
   have hK10:=(((((hK4.ext hEw12).ext hEw13).ext hEw14).ext hEw15).ext hEw16)
   have hK11:=(((((hK5.ext hEw12).ext hEw13).ext hEw14).ext hEw15).ext hEw16)
   have hK12:=(((((hK6.ext hEw12).ext hEw13).ext hEw14).ext hEw15).ext hEw16)
   refine zq (zdE 5 4 (zbf 3) (mkD 3) _ hK9 (by first | omega | decide) (by first | omega | decide) (by first | omega | decide) (za9 wO0) (zaZ (n:=5) wO0 rfl) (by first | omega | decide) hK10 hK11 hK12) ?_
   rintro _ w17 ⟨a3,rfl,hFz7_0,hEw17⟩
   have hzw17:=hEw17.size
   have hlea3:=hFz7_0.le
   rw [show zdz 5 wT0 4 (zbf 3) (mkD 3)=wT1 from wE0] at hFz7_0
   rw [show (za0 (wT0.getD (4/4) Un.zero) (4%4))=0 from wG0]
   have hX1:Ext w15 w17:=(hEw16.trans hEw17)
   refine ⟨.inr hX1, ?_⟩
   refine zg (hw:=hX1) hT93 [(4,38,(.tuple #[(vA [(vI 5),(.slice a3 (tot 5) (tot 5))]),(vI 0),(vI 0)])),(5,43,(vA [(vI 5),(.slice a3 (tot 5) (tot 5))])),(6,44,(vI 0)),(7,45,(vI 0))] 4 (zx 8 (zaf ([(vI 0),(.slice none 0 0)]) 38 ?_))
   intro w18 hBw18 hEw18 hzw18 hlw18
   have hX2:Ext w15 w18:=((hEw16.trans hEw17).trans hEw18)
   refine ⟨.inr hX2, ?_⟩
   refine zx 9 (zG 38 w17.heap.size 0 38 (vA [(vI 5),(.slice a3 (tot 5) (tot 5))]) ([(vI 0),(.slice none 0 0)]) ([(vI 5),(.slice a3 (tot 5) (tot 5))]) hBw18 (by kernel_rfl) (by first | decide |(simp;done)|(simp;omega)) (by simp [Value.oneCell']) ?_)
   intro w19 hBw19 hCw19
   have hzw19:=hCw19.size
   rw [zy _ _ (by kernel_rfl)] at hBw19
   have hX3:Ext w15 w19:=(Ext.own ((hEw16.trans hEw17).trans hEw18) hCw19 (by omega))
   refine ⟨.inr hX3, ?_⟩
   refine zg (hw:=hX3) hT93 [(10,10,(vI 0)),(11,11,(vI 0))] 2 (zD (zb (ze (zd (za (zT w17.heap.size 0 (hBw19.all) ?_))))))
   have hK13:=(((hK10.ext hEw17).ext hEw18).chg hCw19)
   have hK14:=(((hK11.ext hEw17).ext hEw18).chg hCw19)
   have hK15:=(((hK12.ext hEw17).ext hEw18).chg hCw19)
   refine za (zq (zk3 5 _ ((hFz7_0.ext hEw18).chg hCw19) (by first | omega | decide) (by first | omega | decide) (by first | omega | decide) (za9 wO1) (zaZ (n:=5) wO1 rfl) hK13 hK14 hK15) ?_)
   rintro _ w20 ⟨a4,rfl,hFz8_0,hEw20⟩
   have hzw20:=hEw20.size
   have hlea4:=hFz8_0.le
   rw [wD1,show List.length [(0,1),(1,0)]=2 from rfl] at hFz8_0
   rw [show zbi 5 wT1 (tot 5)= [(0,1),(1,0)] from wD1]
   rw [show List.length ([(0,1),(1,0)])=2 from rfl]
   refine zc 5 [(13,(vI 0)),(12,(.slice a4 2 2)),(50,(vI 0)),(49,(.slice a4 2 2)),(46,(.tuple #[(.slice a4 2 2),(vI 0)]))] (zf (zb (ze (zd (za (zT w17.heap.size 0 ((hBw19.ext hEw20).all) ?_))))))
   have hK16:=(((hFz7_0.ext hEw18).chg hCw19).ext hEw20)
   refine za (zq (zlR 5 4 _ hK16 (by first | omega | decide) (by first | omega | decide) (by first | omega | decide) (za9 wO1) (zaZ (n:=5) wO1 rfl) (by first | omega | decide) (hK13.ext hEw20) (hK14.ext hEw20) (hK15.ext hEw20)) ?_)
   rintro _ w21 ⟨rfl,hEw21⟩
   have hzw21:=hEw21.size
   rw [show (wT1.getD (4/4) Un.zero).nd.rs.get (4%4)=wR1 from znd]
   refine zc 3 [(55,(vI 0)),(54,(vA (zM (wR1)))),(51,(.tuple #[(vA (zM (wR1))),(vI 0)]))] (zan (zM (wR1)) 68 (zZ _) (za8 _) ?_)
   intro w22 hBw22 hEw22 hzw22 hlw22
   refine zc 1 [(15,(vI 0))] (zf (zb (ze (ze (zaa 52 (fun w23 hEw23 hzw23 hT161=> ?_))))))
   refine zg hT161 [(0,56,(vI 0)),(1,57,(vI 0))] 2 (zk hT161 2 (vI 0) (zY .i64 (IntKind.i64.wrap (((0:Nat):Int)+((0:Nat):Int))) (zu)) (zg hT161 [(3,59,(vI 0))] 1 (zk hT161 4 (vI 0) (zY .i64 (IntKind.i64.wrap (((0:Nat):Int)+((0:Nat):Int))) (zu)) (zg hT161 [(5,61,(vI 0))] 1 (zk hT161 6 (vI 0) (zY .i64 (IntKind.i64.wrap (((0:Nat):Int)+((0:Nat):Int))) (zu)) (zg hT161 [(7,63,(vI 0))] 1 (zk hT161 8 (vI 0) (zY .i64 (IntKind.i64.wrap (((0:Nat):Int)+((0:Nat):Int))) (zu)) (zg hT161 [(9,65,(vI 0))] 1 (zk hT161 10 (vI 0) (zY .i64 (IntKind.i64.wrap (((0:Nat):Int)+((0:Nat):Int))) (zu)) ?_)))))))))
   refine zg hT161 [(11,67,vF),(12,68,vF),(13,69,(vI 0))] 3 (zk hT161 14 vF (zaJ (((0:Nat):Int) !=((0:Nat):Int)) (zaE)) (zg hT161 [(15,71,vF),(16,72,vF),(17,73,(vI 0))] 3 (zk hT161 18 vF (zaJ (((0:Nat):Int) !=((0:Nat):Int)) (zaE)) (zg hT161 [(19,75,vF),(20,76,vF),(21,77,(.slice a4 2 2)),(22,78,(vI 2)),(23,79,vF),(24,80,vF),(25,81,vF),(26,82,(.slice a4 2 2))] 8 ?_))))
   obtain ⟨b1,o1,rfl⟩:=hFz8_0.addr (by omega) (by decide)
   refine zag hT161 27 b1 o1 2 2 0 2 ?_
   have hK17:=(((hFz8_0.ext hEw21).ext hEw22).ext hEw23)
   refine zaT hT161 28 b1 (o1+0*2) (fun w' hC=>((hK17.ext hC).at (0,0) (by omega))) (zg hT161 [(29,85,(vA [(vI 0),(vI 1)]))] 1 (zk hT161 30 vF (zae (bo .neq 89 (.tmp 84) (.tmp 85) (vA [(vI ((([(0,1),(1,0)]).getD 0 (0,0)).1)),(vI ((([(0,1),(1,0)]).getD 0 (0,0)).2))]) (vA [(vI 0),(vI 1)])) (fun w' hC=>zap (r:=true) (T:=89) ((zdJ (dd:=9998) (t:=89) [(vI ((([(0,1),(1,0)]).getD 0 (0,0)).1)),(vI ((([(0,1),(1,0)]).getD 0 (0,0)).2))] [(vI 0),(vI 1)]).trans (congrArg (fun b=>Result.ok b _) (show (zg0 [(vI ((([(0,1),(1,0)]).getD 0 (0,0)).1)),(vI ((([(0,1),(1,0)]).getD 0 (0,0)).2))] [(vI 0),(vI 1)])=true from rfl))))) (zg hT161 [(31,87,vF),(32,88,vF),(33,89,(.slice (pA b1 o1) 2 2))] 3 (zag hT161 34 b1 o1 2 2 1 2 (zaT hT161 35 b1 (o1+1*2) (fun w' hC=>((hK17.ext hC).at (0,0) (by omega))) (zg hT161 [(36,92,(vA [(vI 1),(vI 0)]))] 1 (zk hT161 37 vF (zae (bo .neq 89 (.tmp 91) (.tmp 92) (vA [(vI ((([(0,1),(1,0)]).getD 1 (0,0)).1)),(vI ((([(0,1),(1,0)]).getD 1 (0,0)).2))]) (vA [(vI 1),(vI 0)])) (fun w' hC=>zap (r:=true) (T:=89) ((zdJ (dd:=9998) (t:=89) [(vI ((([(0,1),(1,0)]).getD 1 (0,0)).1)),(vI ((([(0,1),(1,0)]).getD 1 (0,0)).2))] [(vI 1),(vI 0)]).trans (congrArg (fun b=>Result.ok b _) (show (zg0 [(vI ((([(0,1),(1,0)]).getD 1 (0,0)).1)),(vI ((([(0,1),(1,0)]).getD 1 (0,0)).2))] [(vI 1),(vI 0)])=true from rfl))))) (zg hT161 [(38,94,vF),(39,95,vF)] 2 ?_))))))))
   refine zal hT161 40 w21.heap.size 0 (fun w' hC=>(((hBw22.ext hEw23).ext hC).all)) (zZ _) ?_
   have hK18:=(((((hK8.ext hX3).ext hEw20).ext hEw21).ext hEw22).ext hEw23)
   refine zal hT161 42 w2.heap.size 0 (fun w' hC=>((hK18.ext hC).all)) (zaq _) (zx 41 (zq (zcD 3 _ (by first | omega | decide | exact UInt8.toNat_lt _)) ?_))
   rintro _ w24 ⟨rfl,hEw24⟩
   have hzw24:=hEw24.size
   refine ⟨.inr hEw24, ?_⟩
   refine zk (hw:=hEw24) hT161 43 (vA (zM wR1)) (zae (Instr.build 68 #[(0,(vB 1)),(1,(vA (zbc (zbf 3)))),(2,(vA (zQ (mkD 3))))]) (fun w' hC=>(zc9 1 (zbf 3) (mkD 3) (by decide)).trans (congrArg (fun z:Rec=>Result.ok (Value.agg (zM z).toArray) _) (show (⟨1,(zbf 3),(mkD 3),by decide⟩:Rec)=wR1 from rfl)))) (zk (hw:=hEw24) hT161 44 vF (zae (bo .neq 68 (.tmp 96) (.tmp 99) (vA (zM (wR1))) (vA (zM wR1))) (fun w' hC=>zap (r:=true) (T:=68) ((zdb (dd:=9997) (t:=68) (t8:=5) (tn:=56) (td:=59) (e:=5) (t32:=53) (t64:=54) (wR1) wR1).trans (congrArg (fun b=>Result.ok b _) (show ((wR1).eqb wR1)=true from (Rec.eqb_iff _ _).2 rfl))))) (zg (hw:=hEw24) hT161 [(45,101,vF),(46,102,vF),(47,103,(vP w17.heap.size 1))] 3 ?_))
   have hK19:=((((hBw19.ext hEw20).ext hEw21).ext hEw22).ext hEw23)
   refine zt (hw:=hEw24) hT161 48 w17.heap.size 1 (fun w' hC=>((hK19.ext hC).cell rfl)) (zg (hw:=hEw24) hT161 [(49,105,(vI (tot 5)))] 1 (zk (hw:=hEw24) hT161 50 vF (zaJ ((((tot 5):Nat):Int) !=((3:Nat):Int)) (zaE)) (zg (hw:=hEw24) hT161 [(51,107,vF)] 1 (zD (zb (zh (zo (zb (ze ?_)))))))))
   refine zd (zc 1 [(108,(vA (zJ (Nod.mt 0 1))))] (zan (zJ (Nod.mt 0 1)) 74 (zO _) (zcb _) ?_))
   intro w25 hBw25 hEw25 hzw25 hlw25
   refine zf (zb (ze (zd ?_)))
   have hK20:=(((hBw22.ext hEw23).ext hEw24).ext hEw25)
   refine za (zS w21.heap.size 0 (hK20.all) (zZ _) ?_)
   refine zc 1 [(110,(vP w24.heap.size 2))] (za (zbk w24.heap.size 2 0 4 35 ?_))
   refine za (zG 68 w24.heap.size (2+0*35) 74 (vA (zM (wR1))) (zJ (Nod.mt 0 1)) (zM (wR1)) hBw25 (by rw [zZ];kernel_rfl) (by first |(simp;done)|(simp;omega)) (za8 _) ?_)
   intro w26 hBw26 hCw26
   have hzw26:=hCw26.size
   rw [show (zU (zJ (Nod.mt 0 1)) (2+0*35) (zM (wR1)):List Value)=zJ ((Nod.mt 0 1).setR 0 (wR1)) from nod_setR (by omega)] at hBw26
   refine zf (zb (ze (ze (zaa 11 (fun w27 hEw27 hzw27 hT230=> ?_)))))
   refine zg hT230 [(0,112,(vP w17.heap.size 1))] 1 ?_
   have hK21:=((((hK19.ext hEw24).ext hEw25).chg hCw26).ext hEw27)
   refine zt hT230 1 w17.heap.size 1 (fun w' hC=>((hK21.ext hC).cell rfl)) ?_
   obtain ⟨b2,o2,rfl⟩:=hK16.addr (by omega) (by decide)
   refine zag hT230 2 b2 o2 (tot 5) (tot 5) 2 280 (zg hT230 [(3,115,(vP b2 (o2+2*280))),(4,116,(vP b2 (o2+2*280+142)))] 2 (zaP hT230 5 b2 (o2+2*280+142) 1 4 33 ?_))
   have hK22:=(((((((hK16.ext hEw21).ext hEw22).ext hEw23).ext hEw24).ext hEw25).chg hCw26).ext hEw27)
   refine zal hT230 6 b2 (o2+2*280+142+1*33) (fun w' hC=>(((hK22.ext hC).at Un.zero (by omega)).sub2 142 _ (zaj ((wT1.getD 2 Un.zero).nd.es.get 1)) (znS (by omega)))) (zaK _) (zal hT230 7 w24.heap.size 0 (fun w' hC=>(((hBw26.ext hEw27).ext hC).all)) (zO _) (zx 8 (zq (zfA ((Nod.mt 0 1).setR 0 (wR1)) _) ?_)))
   rintro _ w28 ⟨rfl,hEw28⟩
   have hzw28:=hEw28.size
   refine ⟨.inr hEw28, ?_⟩
   refine zk (hw:=hEw28) hT230 9 (vA (zaj (⟨1,(zR (zN ((Nod.mt 0 1).setR 0 (wR1)))),by decide⟩))) (zae (Instr.build 71 #[(0,(vB 1)),(1,(vA (zQ (zR (zN ((Nod.mt 0 1).setR 0 (wR1)))))))]) (fun w' hC=>zcE 1 (zR (zN ((Nod.mt 0 1).setR 0 (wR1)))) (by decide))) (zk (hw:=hEw28) hT230 10 vF (zae (bo .neq 71 (.tmp 118) (.tmp 121) (vA (zaj ((wT1.getD 2 Un.zero).nd.es.get 1))) (vA (zaj (⟨1,(zR (zN ((Nod.mt 0 1).setR 0 (wR1)))),by decide⟩)))) (fun w' hC=>zap (r:=true) (T:=71) ((zcq (dd:=9997) (t:=71) (t8:=5) (td:=59) (e:=5) ((wT1.getD 2 Un.zero).nd.es.get 1) (⟨1,(zR (zN ((Nod.mt 0 1).setR 0 (wR1)))),by decide⟩)).trans (congrArg (fun b=>Result.ok b _) (show (((wT1.getD 2 Un.zero).nd.es.get 1).eqb (⟨1,(zR (zN ((Nod.mt 0 1).setR 0 (wR1)))),by decide⟩))=true from (Ent.eqb_iff _ _).2 zqI))))) (zD (zb (zh (zo (zb (ze (zaa 12 (fun w29 hEw29 hzw29 hT253=> ?_)))))))))
   refine zaT hT253 0 w17.heap.size 0 (fun w' hC=>((((hK21.ext hEw28).ext hEw29).ext hC).all)) ?_
   have hK23:=((((((((((((((((((((hBw6.ext hEw7).ext hEw8).ext hEw9).ext hEw10).ext hEw11).ext hEw12).ext hEw13).ext hEw14).ext hEw15).ext hX3).ext hEw20).ext hEw21).ext hEw22).ext hEw23).ext hEw24).ext hEw25).chg hCw26).ext hEw27).ext hEw28).ext hEw29)
   refine zal hT253 2 w3.heap.size 0 (fun w' hC=>((hK23.ext hC).all)) (zaq _) (zbE 1 8 ?_ ?_)
   ·refine zq (zcD 4 _ (by first | omega | decide | exact UInt8.toNat_lt _)) ?_
    rintro _ w30 ⟨rfl,hEw30⟩
    have hzw30:=hEw30.size
    refine ⟨.inr hEw30, ?_⟩
    refine zbE 3 8 ?_ ?_
    ·have hK24:=(((hK22.ext hEw28).ext hEw29).ext hEw30)
     have hK25:=(((((((((((hK13.ext hEw20).ext hEw21).ext hEw22).ext hEw23).ext hEw24).ext hEw25).chg hCw26).ext hEw27).ext hEw28).ext hEw29).ext hEw30)
     have hK26:=(((((((((((hK14.ext hEw20).ext hEw21).ext hEw22).ext hEw23).ext hEw24).ext hEw25).chg hCw26).ext hEw27).ext hEw28).ext hEw29).ext hEw30)
     have hK27:=(((((((((((hK15.ext hEw20).ext hEw21).ext hEw22).ext hEw23).ext hEw24).ext hEw25).chg hCw26).ext hEw27).ext hEw28).ext hEw29).ext hEw30)
     refine zq (zdE 5 4 (zbf 4) (mkD 4) _ hK24 (by first | omega | decide) (by first | omega | decide) (by first | omega | decide) (za9 wO1) (zaZ (n:=5) wO1 rfl) (by first | omega | decide) hK25 hK26 hK27) ?_
     rintro _ w31 ⟨a5,rfl,hFz13_0,hEw31⟩
     have hzw31:=hEw31.size
     have hlea5:=hFz13_0.le
     rw [show zdz 5 wT1 4 (zbf 4) (mkD 4)=wT2 from wE1] at hFz13_0
     rw [show (za0 (wT1.getD (4/4) Un.zero) (4%4))=0 from wG1]
     have hX4:Ext w29 w31:=(hEw30.trans hEw31)
     refine ⟨.inr hX4, ?_⟩
     refine zg (hw:=hX4) hT253 [(4,123,(.tuple #[(vA [(vI 5),(.slice a5 (tot 5) (tot 5))]),(vI 0),(vI 0)])),(5,128,(vA [(vI 5),(.slice a5 (tot 5) (tot 5))])),(6,129,(vI 0)),(7,130,(vI 0))] 4 (zx 8 (zaf ([(vI 0),(.slice none 0 0)]) 38 ?_))
     intro w32 hBw32 hEw32 hzw32 hlw32
     have hX5:Ext w29 w32:=((hEw30.trans hEw31).trans hEw32)
     refine ⟨.inr hX5, ?_⟩
     refine zx 9 (zG 38 w31.heap.size 0 38 (vA [(vI 5),(.slice a5 (tot 5) (tot 5))]) ([(vI 0),(.slice none 0 0)]) ([(vI 5),(.slice a5 (tot 5) (tot 5))]) hBw32 (by kernel_rfl) (by first | decide |(simp;done)|(simp;omega)) (by simp [Value.oneCell']) ?_)
     intro w33 hBw33 hCw33
     have hzw33:=hCw33.size
     rw [zy _ _ (by kernel_rfl)] at hBw33
     have hX6:Ext w29 w33:=(Ext.own ((hEw30.trans hEw31).trans hEw32) hCw33 (by omega))
     refine ⟨.inr hX6, ?_⟩
     refine zg (hw:=hX6) hT253 [(10,10,(vI 0)),(11,4,(vI 0))] 2 (zD (zb (ze (zd (za (zT w31.heap.size 0 (hBw33.all) ?_))))))
     have hK28:=(((hK25.ext hEw31).ext hEw32).chg hCw33)
     have hK29:=(((hK26.ext hEw31).ext hEw32).chg hCw33)
     have hK30:=(((hK27.ext hEw31).ext hEw32).chg hCw33)
     refine za (zq (zer 5 _ ((hFz13_0.ext hEw32).chg hCw33) (by first | omega | decide) (by first | omega | decide) (by first | omega | decide) (za9 wO2) (zaZ (n:=5) wO2 rfl) hK28 hK29 hK30) ?_)
     rintro _ w34 ⟨a6,rfl,hFz14_0,hEw34⟩
     have hzw34:=hEw34.size
     have hlea6:=hFz14_0.le
     rw [show zbN (tot 5) wT2=wT3 from wE2] at hFz14_0
     refine zc 3 [(135,(vI 0)),(134,(vA [(vI 5),(.slice a6 (tot 5) (tot 5))])),(131,(.tuple #[(vA [(vI 5),(.slice a6 (tot 5) (tot 5))]),(vI 0)]))] (zan ([(vI 5),(.slice a6 (tot 5) (tot 5))]) 38 rfl (by simp [Value.oneCell']) ?_)
     intro w35 hBw35 hEw35 hzw35 hlw35
     refine zc 1 [(6,(vI 0))] (zf (zb (ze (zd (za (zT w34.heap.size 0 (hBw35.all) ?_))))))
     refine za (zq (zep 5 4 _ (hFz14_0.ext hEw35) (by first | omega | decide) (by first | omega | decide) (by first | omega | decide) (za9 wO3) (zaZ (n:=5) wO3 rfl) (by first | omega | decide) ((hK28.ext hEw34).ext hEw35) ((hK29.ext hEw34).ext hEw35) ((hK30.ext hEw34).ext hEw35)) ?_)
     rintro _ w36 ⟨rfl,hEw36⟩
     have hzw36:=hEw36.size
     rw [show za0 (wT3.getD (4/4) Un.zero) (4%4)=1 from wG3]
     refine zc 5 [(8,(vI 0)),(7,(vI 1)),(140,(vI 0)),(139,(vI 1)),(136,(.tuple #[(vI 1),(vI 0)]))] (zf (zb (ze (zd (zc 2 [(142,(vI 0)),(141,(vI 0))] (za (zn (some 143) .i64 (IntKind.i64.wrap (((0:Nat):Int)+((0:Nat):Int))) 0 (zu) ?_)))))))
     refine zc 1 [(144,(vI 0))] (za (zn (some 145) .i64 (IntKind.i64.wrap (((0:Nat):Int)+((0:Nat):Int))) 0 (zu) ?_))
     refine zc 3 [(148,(vI 0)),(147,vT),(146,vT)] (za (zah (some 149) (((0:Nat):Int)==((0:Nat):Int)) true (zau) ?_))
     refine zc 3 [(152,(vI 1)),(151,vT),(150,vT)] (za (zah (some 153) (((1:Nat):Int)==((1:Nat):Int)) true (zau) ?_))
     refine zc 3 [(156,(vP w34.heap.size 1)),(155,vT),(154,vT)] (za (zl w34.heap.size 1 ((hBw35.ext hEw36).cell rfl) ?_))
     refine zc 1 [(158,(vI (tot 5)))] (za (zah (some 159) ((((tot 5):Nat):Int)==((3:Nat):Int)) true (zau) ?_))
     refine zc 3 [(162,(vP w34.heap.size 1)),(161,vT),(160,vT)] (za (zl w34.heap.size 1 ((hBw35.ext hEw36).cell rfl) ?_))
     obtain ⟨b3,o3,rfl⟩:=hFz14_0.addr (by omega) (by decide)
     refine za (zai b3 o3 (tot 5) (tot 5) 1 280 ?_)
     refine zc 1 [(165,(vP b3 (o3+1*280+274)))] (za (zl b3 (o3+1*280+274) (((hFz14_0.ext hEw35).ext hEw36).cell (j:=274) (i:=1) Un.zero (by omega) (zbw _)) ?_))
     refine za (zah (some 167) ((wT3.getD 1 Un.zero).sl==((0:Nat):Int)) true (zau) ?_)
     refine zc 3 [(170,(vP w34.heap.size 1)),(169,vT),(168,vT)] (za (zl w34.heap.size 1 ((hBw35.ext hEw36).cell rfl) ?_))
     refine za (zai b3 o3 (tot 5) (tot 5) 2 280 ?_)
     refine zc 1 [(173,(vP b3 (o3+2*280+274)))] (za (zl b3 (o3+2*280+274) (((hFz14_0.ext hEw35).ext hEw36).cell (j:=274) (i:=2) Un.zero (by omega) (zbw _)) ?_))
     refine za (zah (some 175) ((wT3.getD 2 Un.zero).sl==((1:Nat):Int)) true (zau) ?_)
     refine zc 2 [(0,vT),(176,vT)] (zf (zb (zj (zm vT ?_))))
     have hX7:Ext w w36:=((((((((Ext.own (((((((((((((((((Ext.own (Ext.own (((hEw1.trans hEw2).trans hEw3).trans hEw4) hCw5 (by omega)) hCw6 (by omega)).trans hEw7).trans hEw8).trans hEw9).trans hEw10).trans hEw11).trans hEw12).trans hEw13).trans hEw14).trans hEw15).trans hX3).trans hEw20).trans hEw21).trans hEw22).trans hEw23).trans hEw24).trans hEw25) hCw26 (by omega)).trans hEw27).trans hEw28).trans hEw29).trans hX6).trans hEw34).trans hEw35).trans hEw36)
     exact ⟨rfl,hX7⟩
    ·refine zaf ([(vI 0),(.slice none 0 0)]) 38 ?_
     intro w37 hBw37 hEw37 hzw37 hlw37
     have hX8:Ext w29 w37:=(hEw30.trans hEw37)
     refine ⟨.inr hX8, ?_⟩
     have hK31:=((((hK22.ext hEw28).ext hEw29).ext hEw30).ext hEw37)
     have hK32:=((((((((((((hK13.ext hEw20).ext hEw21).ext hEw22).ext hEw23).ext hEw24).ext hEw25).chg hCw26).ext hEw27).ext hEw28).ext hEw29).ext hEw30).ext hEw37)
     have hK33:=((((((((((((hK14.ext hEw20).ext hEw21).ext hEw22).ext hEw23).ext hEw24).ext hEw25).chg hCw26).ext hEw27).ext hEw28).ext hEw29).ext hEw30).ext hEw37)
     have hK34:=((((((((((((hK15.ext hEw20).ext hEw21).ext hEw22).ext hEw23).ext hEw24).ext hEw25).chg hCw26).ext hEw27).ext hEw28).ext hEw29).ext hEw30).ext hEw37)
     refine zx 3 (zq (zdE 5 4 (zbf 4) (mkD 4) _ hK31 (by first | omega | decide) (by first | omega | decide) (by first | omega | decide) (za9 wO1) (zaZ (n:=5) wO1 rfl) (by first | omega | decide) hK32 hK33 hK34) ?_)
     rintro _ w38 ⟨a7,rfl,hFz16_0,hEw38⟩
     have hzw38:=hEw38.size
     have hlea7:=hFz16_0.le
     rw [show zdz 5 wT1 4 (zbf 4) (mkD 4)=wT2 from wE1] at hFz16_0
     rw [show (za0 (wT1.getD (4/4) Un.zero) (4%4))=0 from wG1]
     have hX9:Ext w29 w38:=((hEw30.trans hEw37).trans hEw38)
     refine ⟨.inr hX9, ?_⟩
     refine zg (hw:=hX9) hT253 [(4,123,(.tuple #[(vA [(vI 5),(.slice a7 (tot 5) (tot 5))]),(vI 0),(vI 0)])),(5,128,(vA [(vI 5),(.slice a7 (tot 5) (tot 5))])),(6,129,(vI 0)),(7,130,(vI 0))] 4 (zx 9 (zG 38 w30.heap.size 0 38 (vA [(vI 5),(.slice a7 (tot 5) (tot 5))]) ([(vI 0),(.slice none 0 0)]) ([(vI 5),(.slice a7 (tot 5) (tot 5))]) (hBw37.ext hEw38) (by kernel_rfl) (by first | decide |(simp;done)|(simp;omega)) (by simp [Value.oneCell']) ?_))
     intro w39 hBw39 hCw39
     have hzw39:=hCw39.size
     rw [zy _ _ (by kernel_rfl)] at hBw39
     have hX10:Ext w29 w39:=(Ext.own ((hEw30.trans hEw37).trans hEw38) hCw39 (by omega))
     refine ⟨.inr hX10, ?_⟩
     refine zg (hw:=hX10) hT253 [(10,10,(vI 0)),(11,4,(vI 0))] 2 (zD (zb (ze (zd (za (zT w30.heap.size 0 (hBw39.all) ?_))))))
     refine za (zq (zer 5 _ (hFz16_0.chg hCw39) (by first | omega | decide) (by first | omega | decide) (by first | omega | decide) (za9 wO2) (zaZ (n:=5) wO2 rfl) ((hK32.ext hEw38).chg hCw39) ((hK33.ext hEw38).chg hCw39) ((hK34.ext hEw38).chg hCw39)) ?_)
     rintro _ w40 ⟨a8,rfl,hFz17_0,hEw40⟩
     have hzw40:=hEw40.size
     have hlea8:=hFz17_0.le
     rw [show zbN (tot 5) wT2=wT3 from wE2] at hFz17_0
     refine zc 3 [(135,(vI 0)),(134,(vA [(vI 5),(.slice a8 (tot 5) (tot 5))])),(131,(.tuple #[(vA [(vI 5),(.slice a8 (tot 5) (tot 5))]),(vI 0)]))] (zan ([(vI 5),(.slice a8 (tot 5) (tot 5))]) 38 rfl (by simp [Value.oneCell']) ?_)
     intro w41 hBw41 hEw41 hzw41 hlw41
     refine zc 1 [(6,(vI 0))] (zf (zb (ze (zd (za (zT w40.heap.size 0 (hBw41.all) ?_))))))
     have hK35:=((((hK32.ext hEw38).chg hCw39).ext hEw40).ext hEw41)
     have hK36:=((((hK33.ext hEw38).chg hCw39).ext hEw40).ext hEw41)
     have hK37:=((((hK34.ext hEw38).chg hCw39).ext hEw40).ext hEw41)
     refine za (zq (zep 5 4 _ (hFz17_0.ext hEw41) (by first | omega | decide) (by first | omega | decide) (by first | omega | decide) (za9 wO3) (zaZ (n:=5) wO3 rfl) (by first | omega | decide) hK35 hK36 hK37) ?_)
     rintro _ w42 ⟨rfl,hEw42⟩
     have hzw42:=hEw42.size
     rw [show za0 (wT3.getD (4/4) Un.zero) (4%4)=1 from wG3]
     refine zc 5 [(8,(vI 0)),(7,(vI 1)),(140,(vI 0)),(139,(vI 1)),(136,(.tuple #[(vI 1),(vI 0)]))] (zf (zb (ze (zd (zc 2 [(142,(vI 0)),(141,(vI 0))] (za (zn (some 143) .i64 (IntKind.i64.wrap (((0:Nat):Int)+((0:Nat):Int))) 0 (zu) ?_)))))))
     refine zc 1 [(144,(vI 0))] (za (zn (some 145) .i64 (IntKind.i64.wrap (((0:Nat):Int)+((0:Nat):Int))) 0 (zu) ?_))
     refine zc 3 [(148,(vI 0)),(147,vT),(146,vT)] (za (zah (some 149) (((0:Nat):Int)==((0:Nat):Int)) true (zau) ?_))
     refine zc 3 [(152,(vI 1)),(151,vT),(150,vT)] (za (zah (some 153) (((1:Nat):Int)==((1:Nat):Int)) true (zau) ?_))
     refine zc 3 [(156,(vP w40.heap.size 1)),(155,vT),(154,vT)] (za (zl w40.heap.size 1 ((hBw41.ext hEw42).cell rfl) ?_))
     refine zc 1 [(158,(vI (tot 5)))] (za (zah (some 159) ((((tot 5):Nat):Int)==((3:Nat):Int)) true (zau) ?_))
     refine zc 3 [(162,(vP w40.heap.size 1)),(161,vT),(160,vT)] (za (zl w40.heap.size 1 ((hBw41.ext hEw42).cell rfl) ?_))
     obtain ⟨b4,o4,rfl⟩:=hFz17_0.addr (by omega) (by decide)
     refine za (zai b4 o4 (tot 5) (tot 5) 1 280 ?_)
     refine zc 1 [(165,(vP b4 (o4+1*280+274)))] (za (zl b4 (o4+1*280+274) (((hFz17_0.ext hEw41).ext hEw42).cell (j:=274) (i:=1) Un.zero (by omega) (zbw _)) ?_))
     refine za (zah (some 167) ((wT3.getD 1 Un.zero).sl==((0:Nat):Int)) true (zau) ?_)
     refine zc 3 [(170,(vP w40.heap.size 1)),(169,vT),(168,vT)] (za (zl w40.heap.size 1 ((hBw41.ext hEw42).cell rfl) ?_))
     refine za (zai b4 o4 (tot 5) (tot 5) 2 280 ?_)
     refine zc 1 [(173,(vP b4 (o4+2*280+274)))] (za (zl b4 (o4+2*280+274) (((hFz17_0.ext hEw41).ext hEw42).cell (j:=274) (i:=2) Un.zero (by omega) (zbw _)) ?_))
     refine za (zah (some 175) ((wT3.getD 2 Un.zero).sl==((1:Nat):Int)) true (zau) ?_)
     refine zc 2 [(0,vT),(176,vT)] (zf (zb (zj (zm vT ?_))))
     have hX11:Ext w w42:=((((((((Ext.own (((((((((((((((((Ext.own (Ext.own (((hEw1.trans hEw2).trans hEw3).trans hEw4) hCw5 (by omega)) hCw6 (by omega)).trans hEw7).trans hEw8).trans hEw9).trans hEw10).trans hEw11).trans hEw12).trans hEw13).trans hEw14).trans hEw15).trans hX3).trans hEw20).trans hEw21).trans hEw22).trans hEw23).trans hEw24).trans hEw25) hCw26 (by omega)).trans hEw27).trans hEw28).trans hEw29).trans hX10).trans hEw40).trans hEw41).trans hEw42)
     exact ⟨rfl,hX11⟩
   ·refine zaf ([(vI 0),(.slice none 0 0)]) 38 ?_
    intro w43 hBw43 hEw43 hzw43 hlw43
    refine ⟨.inr hEw43, ?_⟩
    refine zx 1 (zq (zcD 4 _ (by first | omega | decide | exact UInt8.toNat_lt _)) ?_)
    rintro _ w44 ⟨rfl,hEw44⟩
    have hzw44:=hEw44.size
    have hX12:Ext w29 w44:=(hEw43.trans hEw44)
    refine ⟨.inr hX12, ?_⟩
    have hK38:=((((hK22.ext hEw28).ext hEw29).ext hEw43).ext hEw44)
    have hK39:=((((((((((((hK13.ext hEw20).ext hEw21).ext hEw22).ext hEw23).ext hEw24).ext hEw25).chg hCw26).ext hEw27).ext hEw28).ext hEw29).ext hEw43).ext hEw44)
    have hK40:=((((((((((((hK14.ext hEw20).ext hEw21).ext hEw22).ext hEw23).ext hEw24).ext hEw25).chg hCw26).ext hEw27).ext hEw28).ext hEw29).ext hEw43).ext hEw44)
    have hK41:=((((((((((((hK15.ext hEw20).ext hEw21).ext hEw22).ext hEw23).ext hEw24).ext hEw25).chg hCw26).ext hEw27).ext hEw28).ext hEw29).ext hEw43).ext hEw44)
    refine zx 3 (zq (zdE 5 4 (zbf 4) (mkD 4) _ hK38 (by first | omega | decide) (by first | omega | decide) (by first | omega | decide) (za9 wO1) (zaZ (n:=5) wO1 rfl) (by first | omega | decide) hK39 hK40 hK41) ?_)
    rintro _ w45 ⟨a9,rfl,hFz20_0,hEw45⟩
    have hzw45:=hEw45.size
    have hlea9:=hFz20_0.le
    rw [show zdz 5 wT1 4 (zbf 4) (mkD 4)=wT2 from wE1] at hFz20_0
    rw [show (za0 (wT1.getD (4/4) Un.zero) (4%4))=0 from wG1]
    have hX13:Ext w29 w45:=((hEw43.trans hEw44).trans hEw45)
    refine ⟨.inr hX13, ?_⟩
    refine zg (hw:=hX13) hT253 [(4,123,(.tuple #[(vA [(vI 5),(.slice a9 (tot 5) (tot 5))]),(vI 0),(vI 0)])),(5,128,(vA [(vI 5),(.slice a9 (tot 5) (tot 5))])),(6,129,(vI 0)),(7,130,(vI 0))] 4 (zx 9 (zG 38 w29.heap.size 0 38 (vA [(vI 5),(.slice a9 (tot 5) (tot 5))]) ([(vI 0),(.slice none 0 0)]) ([(vI 5),(.slice a9 (tot 5) (tot 5))]) ((hBw43.ext hEw44).ext hEw45) (by kernel_rfl) (by first | decide |(simp;done)|(simp;omega)) (by simp [Value.oneCell']) ?_))
    intro w46 hBw46 hCw46
    have hzw46:=hCw46.size
    rw [zy _ _ (by kernel_rfl)] at hBw46
    have hX14:Ext w29 w46:=(Ext.own ((hEw43.trans hEw44).trans hEw45) hCw46 (by omega))
    refine ⟨.inr hX14, ?_⟩
    refine zg (hw:=hX14) hT253 [(10,10,(vI 0)),(11,4,(vI 0))] 2 (zD (zb (ze (zd (za (zT w29.heap.size 0 (hBw46.all) ?_))))))
    refine za (zq (zer 5 _ (hFz20_0.chg hCw46) (by first | omega | decide) (by first | omega | decide) (by first | omega | decide) (za9 wO2) (zaZ (n:=5) wO2 rfl) ((hK39.ext hEw45).chg hCw46) ((hK40.ext hEw45).chg hCw46) ((hK41.ext hEw45).chg hCw46)) ?_)
    rintro _ w47 ⟨a10,rfl,hFz21_0,hEw47⟩
    have hzw47:=hEw47.size
    have hlea10:=hFz21_0.le
    rw [show zbN (tot 5) wT2=wT3 from wE2] at hFz21_0
    refine zc 3 [(135,(vI 0)),(134,(vA [(vI 5),(.slice a10 (tot 5) (tot 5))])),(131,(.tuple #[(vA [(vI 5),(.slice a10 (tot 5) (tot 5))]),(vI 0)]))] (zan ([(vI 5),(.slice a10 (tot 5) (tot 5))]) 38 rfl (by simp [Value.oneCell']) ?_)
    intro w48 hBw48 hEw48 hzw48 hlw48
    refine zc 1 [(6,(vI 0))] (zf (zb (ze (zd (za (zT w47.heap.size 0 (hBw48.all) ?_))))))
    have hK42:=((((hK39.ext hEw45).chg hCw46).ext hEw47).ext hEw48)
    have hK43:=((((hK40.ext hEw45).chg hCw46).ext hEw47).ext hEw48)
    have hK44:=((((hK41.ext hEw45).chg hCw46).ext hEw47).ext hEw48)
    refine za (zq (zep 5 4 _ (hFz21_0.ext hEw48) (by first | omega | decide) (by first | omega | decide) (by first | omega | decide) (za9 wO3) (zaZ (n:=5) wO3 rfl) (by first | omega | decide) hK42 hK43 hK44) ?_)
    rintro _ w49 ⟨rfl,hEw49⟩
    have hzw49:=hEw49.size
    rw [show za0 (wT3.getD (4/4) Un.zero) (4%4)=1 from wG3]
    refine zc 5 [(8,(vI 0)),(7,(vI 1)),(140,(vI 0)),(139,(vI 1)),(136,(.tuple #[(vI 1),(vI 0)]))] (zf (zb (ze (zd (zc 2 [(142,(vI 0)),(141,(vI 0))] (za (zn (some 143) .i64 (IntKind.i64.wrap (((0:Nat):Int)+((0:Nat):Int))) 0 (zu) ?_)))))))
    refine zc 1 [(144,(vI 0))] (za (zn (some 145) .i64 (IntKind.i64.wrap (((0:Nat):Int)+((0:Nat):Int))) 0 (zu) ?_))
    refine zc 3 [(148,(vI 0)),(147,vT),(146,vT)] (za (zah (some 149) (((0:Nat):Int)==((0:Nat):Int)) true (zau) ?_))
    refine zc 3 [(152,(vI 1)),(151,vT),(150,vT)] (za (zah (some 153) (((1:Nat):Int)==((1:Nat):Int)) true (zau) ?_))
    refine zc 3 [(156,(vP w47.heap.size 1)),(155,vT),(154,vT)] (za (zl w47.heap.size 1 ((hBw48.ext hEw49).cell rfl) ?_))
    refine zc 1 [(158,(vI (tot 5)))] (za (zah (some 159) ((((tot 5):Nat):Int)==((3:Nat):Int)) true (zau) ?_))
    refine zc 3 [(162,(vP w47.heap.size 1)),(161,vT),(160,vT)] (za (zl w47.heap.size 1 ((hBw48.ext hEw49).cell rfl) ?_))
    obtain ⟨b5,o5,rfl⟩:=hFz21_0.addr (by omega) (by decide)
    refine za (zai b5 o5 (tot 5) (tot 5) 1 280 ?_)
    refine zc 1 [(165,(vP b5 (o5+1*280+274)))] (za (zl b5 (o5+1*280+274) (((hFz21_0.ext hEw48).ext hEw49).cell (j:=274) (i:=1) Un.zero (by omega) (zbw _)) ?_))
    refine za (zah (some 167) ((wT3.getD 1 Un.zero).sl==((0:Nat):Int)) true (zau) ?_)
    refine zc 3 [(170,(vP w47.heap.size 1)),(169,vT),(168,vT)] (za (zl w47.heap.size 1 ((hBw48.ext hEw49).cell rfl) ?_))
    refine za (zai b5 o5 (tot 5) (tot 5) 2 280 ?_)
    refine zc 1 [(173,(vP b5 (o5+2*280+274)))] (za (zl b5 (o5+2*280+274) (((hFz21_0.ext hEw48).ext hEw49).cell (j:=274) (i:=2) Un.zero (by omega) (zbw _)) ?_))
    refine za (zah (some 175) ((wT3.getD 2 Un.zero).sl==((1:Nat):Int)) true (zau) ?_)
    refine zc 2 [(0,vT),(176,vT)] (zf (zb (zj (zm vT ?_))))
    have hX15:Ext w w49:=((((((((Ext.own (((((((((((((((((Ext.own (Ext.own (((hEw1.trans hEw2).trans hEw3).trans hEw4) hCw5 (by omega)) hCw6 (by omega)).trans hEw7).trans hEw8).trans hEw9).trans hEw10).trans hEw11).trans hEw12).trans hEw13).trans hEw14).trans hEw15).trans hX3).trans hEw20).trans hEw21).trans hEw22).trans hEw23).trans hEw24).trans hEw25) hCw26 (by omega)).trans hEw27).trans hEw28).trans hEw29).trans hX14).trans hEw47).trans hEw48).trans hEw49)
    exact ⟨rfl,hX15⟩
  ·refine zaf ([(vI 0),(.slice none 0 0)]) 38 ?_
   intro w50 hBw50 hEw50 hzw50 hlw50
   have hX16:Ext w15 w50:=(hEw16.trans hEw50)
   refine ⟨.inr hX16, ?_⟩
   have hK45:=(((((hFz4_0.ext hEw13).ext hEw14).ext hEw15).ext hEw16).ext hEw50)
   have hK46:=((((((hK4.ext hEw12).ext hEw13).ext hEw14).ext hEw15).ext hEw16).ext hEw50)
   have hK47:=((((((hK5.ext hEw12).ext hEw13).ext hEw14).ext hEw15).ext hEw16).ext hEw50)
   have hK48:=((((((hK6.ext hEw12).ext hEw13).ext hEw14).ext hEw15).ext hEw16).ext hEw50)
   refine zx 3 (zq (zdE 5 4 (zbf 3) (mkD 3) _ hK45 (by first | omega | decide) (by first | omega | decide) (by first | omega | decide) (za9 wO0) (zaZ (n:=5) wO0 rfl) (by first | omega | decide) hK46 hK47 hK48) ?_)
   rintro _ w51 ⟨a11,rfl,hFz23_0,hEw51⟩
   have hzw51:=hEw51.size
   have hlea11:=hFz23_0.le
   rw [show zdz 5 wT0 4 (zbf 3) (mkD 3)=wT1 from wE0] at hFz23_0
   rw [show (za0 (wT0.getD (4/4) Un.zero) (4%4))=0 from wG0]
   have hX17:Ext w15 w51:=((hEw16.trans hEw50).trans hEw51)
   refine ⟨.inr hX17, ?_⟩
   refine zg (hw:=hX17) hT93 [(4,38,(.tuple #[(vA [(vI 5),(.slice a11 (tot 5) (tot 5))]),(vI 0),(vI 0)])),(5,43,(vA [(vI 5),(.slice a11 (tot 5) (tot 5))])),(6,44,(vI 0)),(7,45,(vI 0))] 4 (zx 9 (zG 38 w16.heap.size 0 38 (vA [(vI 5),(.slice a11 (tot 5) (tot 5))]) ([(vI 0),(.slice none 0 0)]) ([(vI 5),(.slice a11 (tot 5) (tot 5))]) (hBw50.ext hEw51) (by kernel_rfl) (by first | decide |(simp;done)|(simp;omega)) (by simp [Value.oneCell']) ?_))
   intro w52 hBw52 hCw52
   have hzw52:=hCw52.size
   rw [zy _ _ (by kernel_rfl)] at hBw52
   have hX18:Ext w15 w52:=(Ext.own ((hEw16.trans hEw50).trans hEw51) hCw52 (by omega))
   refine ⟨.inr hX18, ?_⟩
   refine zg (hw:=hX18) hT93 [(10,10,(vI 0)),(11,11,(vI 0))] 2 (zD (zb (ze (zd (za (zT w16.heap.size 0 (hBw52.all) ?_))))))
   refine za (zq (zk3 5 _ (hFz23_0.chg hCw52) (by first | omega | decide) (by first | omega | decide) (by first | omega | decide) (za9 wO1) (zaZ (n:=5) wO1 rfl) ((hK46.ext hEw51).chg hCw52) ((hK47.ext hEw51).chg hCw52) ((hK48.ext hEw51).chg hCw52)) ?_)
   rintro _ w53 ⟨a12,rfl,hFz24_0,hEw53⟩
   have hzw53:=hEw53.size
   have hlea12:=hFz24_0.le
   rw [wD1,show List.length [(0,1),(1,0)]=2 from rfl] at hFz24_0
   rw [show zbi 5 wT1 (tot 5)= [(0,1),(1,0)] from wD1]
   rw [show List.length ([(0,1),(1,0)])=2 from rfl]
   refine zc 5 [(13,(vI 0)),(12,(.slice a12 2 2)),(50,(vI 0)),(49,(.slice a12 2 2)),(46,(.tuple #[(.slice a12 2 2),(vI 0)]))] (zf (zb (ze (zd (za (zT w16.heap.size 0 ((hBw52.ext hEw53).all) ?_))))))
   have hK49:=(((hK46.ext hEw51).chg hCw52).ext hEw53)
   have hK50:=(((hK47.ext hEw51).chg hCw52).ext hEw53)
   have hK51:=(((hK48.ext hEw51).chg hCw52).ext hEw53)
   refine za (zq (zlR 5 4 _ ((hFz23_0.chg hCw52).ext hEw53) (by first | omega | decide) (by first | omega | decide) (by first | omega | decide) (za9 wO1) (zaZ (n:=5) wO1 rfl) (by first | omega | decide) hK49 hK50 hK51) ?_)
   rintro _ w54 ⟨rfl,hEw54⟩
   have hzw54:=hEw54.size
   rw [show (wT1.getD (4/4) Un.zero).nd.rs.get (4%4)=wR1 from znd]
   refine zc 3 [(55,(vI 0)),(54,(vA (zM (wR1)))),(51,(.tuple #[(vA (zM (wR1))),(vI 0)]))] (zan (zM (wR1)) 68 (zZ _) (za8 _) ?_)
   intro w55 hBw55 hEw55 hzw55 hlw55
   refine zc 1 [(15,(vI 0))] (zf (zb (ze (ze (zaa 52 (fun w56 hEw56 hzw56 hT585=> ?_))))))
   refine zg hT585 [(0,56,(vI 0)),(1,57,(vI 0))] 2 (zk hT585 2 (vI 0) (zY .i64 (IntKind.i64.wrap (((0:Nat):Int)+((0:Nat):Int))) (zu)) (zg hT585 [(3,59,(vI 0))] 1 (zk hT585 4 (vI 0) (zY .i64 (IntKind.i64.wrap (((0:Nat):Int)+((0:Nat):Int))) (zu)) (zg hT585 [(5,61,(vI 0))] 1 (zk hT585 6 (vI 0) (zY .i64 (IntKind.i64.wrap (((0:Nat):Int)+((0:Nat):Int))) (zu)) (zg hT585 [(7,63,(vI 0))] 1 (zk hT585 8 (vI 0) (zY .i64 (IntKind.i64.wrap (((0:Nat):Int)+((0:Nat):Int))) (zu)) (zg hT585 [(9,65,(vI 0))] 1 (zk hT585 10 (vI 0) (zY .i64 (IntKind.i64.wrap (((0:Nat):Int)+((0:Nat):Int))) (zu)) ?_)))))))))
   refine zg hT585 [(11,67,vF),(12,68,vF),(13,69,(vI 0))] 3 (zk hT585 14 vF (zaJ (((0:Nat):Int) !=((0:Nat):Int)) (zaE)) (zg hT585 [(15,71,vF),(16,72,vF),(17,73,(vI 0))] 3 (zk hT585 18 vF (zaJ (((0:Nat):Int) !=((0:Nat):Int)) (zaE)) (zg hT585 [(19,75,vF),(20,76,vF),(21,77,(.slice a12 2 2)),(22,78,(vI 2)),(23,79,vF),(24,80,vF),(25,81,vF),(26,82,(.slice a12 2 2))] 8 ?_))))
   obtain ⟨b6,o6,rfl⟩:=hFz24_0.addr (by omega) (by decide)
   refine zag hT585 27 b6 o6 2 2 0 2 ?_
   have hK52:=(((hFz24_0.ext hEw54).ext hEw55).ext hEw56)
   refine zaT hT585 28 b6 (o6+0*2) (fun w' hC=>((hK52.ext hC).at (0,0) (by omega))) (zg hT585 [(29,85,(vA [(vI 0),(vI 1)]))] 1 (zk hT585 30 vF (zae (bo .neq 89 (.tmp 84) (.tmp 85) (vA [(vI ((([(0,1),(1,0)]).getD 0 (0,0)).1)),(vI ((([(0,1),(1,0)]).getD 0 (0,0)).2))]) (vA [(vI 0),(vI 1)])) (fun w' hC=>zap (r:=true) (T:=89) ((zdJ (dd:=9998) (t:=89) [(vI ((([(0,1),(1,0)]).getD 0 (0,0)).1)),(vI ((([(0,1),(1,0)]).getD 0 (0,0)).2))] [(vI 0),(vI 1)]).trans (congrArg (fun b=>Result.ok b _) (show (zg0 [(vI ((([(0,1),(1,0)]).getD 0 (0,0)).1)),(vI ((([(0,1),(1,0)]).getD 0 (0,0)).2))] [(vI 0),(vI 1)])=true from rfl))))) (zg hT585 [(31,87,vF),(32,88,vF),(33,89,(.slice (pA b6 o6) 2 2))] 3 (zag hT585 34 b6 o6 2 2 1 2 (zaT hT585 35 b6 (o6+1*2) (fun w' hC=>((hK52.ext hC).at (0,0) (by omega))) (zg hT585 [(36,92,(vA [(vI 1),(vI 0)]))] 1 (zk hT585 37 vF (zae (bo .neq 89 (.tmp 91) (.tmp 92) (vA [(vI ((([(0,1),(1,0)]).getD 1 (0,0)).1)),(vI ((([(0,1),(1,0)]).getD 1 (0,0)).2))]) (vA [(vI 1),(vI 0)])) (fun w' hC=>zap (r:=true) (T:=89) ((zdJ (dd:=9998) (t:=89) [(vI ((([(0,1),(1,0)]).getD 1 (0,0)).1)),(vI ((([(0,1),(1,0)]).getD 1 (0,0)).2))] [(vI 1),(vI 0)]).trans (congrArg (fun b=>Result.ok b _) (show (zg0 [(vI ((([(0,1),(1,0)]).getD 1 (0,0)).1)),(vI ((([(0,1),(1,0)]).getD 1 (0,0)).2))] [(vI 1),(vI 0)])=true from rfl))))) (zg hT585 [(38,94,vF),(39,95,vF)] 2 ?_))))))))
   refine zal hT585 40 w54.heap.size 0 (fun w' hC=>(((hBw55.ext hEw56).ext hC).all)) (zZ _) ?_
   have hK53:=(((((hK8.ext hX18).ext hEw53).ext hEw54).ext hEw55).ext hEw56)
   refine zal hT585 42 w2.heap.size 0 (fun w' hC=>((hK53.ext hC).all)) (zaq _) (zx 41 (zq (zcD 3 _ (by first | omega | decide | exact UInt8.toNat_lt _)) ?_))
   rintro _ w57 ⟨rfl,hEw57⟩
   have hzw57:=hEw57.size
   refine ⟨.inr hEw57, ?_⟩
   refine zk (hw:=hEw57) hT585 43 (vA (zM wR1)) (zae (Instr.build 68 #[(0,(vB 1)),(1,(vA (zbc (zbf 3)))),(2,(vA (zQ (mkD 3))))]) (fun w' hC=>(zc9 1 (zbf 3) (mkD 3) (by decide)).trans (congrArg (fun z:Rec=>Result.ok (Value.agg (zM z).toArray) _) (show (⟨1,(zbf 3),(mkD 3),by decide⟩:Rec)=wR1 from rfl)))) (zk (hw:=hEw57) hT585 44 vF (zae (bo .neq 68 (.tmp 96) (.tmp 99) (vA (zM (wR1))) (vA (zM wR1))) (fun w' hC=>zap (r:=true) (T:=68) ((zdb (dd:=9997) (t:=68) (t8:=5) (tn:=56) (td:=59) (e:=5) (t32:=53) (t64:=54) (wR1) wR1).trans (congrArg (fun b=>Result.ok b _) (show ((wR1).eqb wR1)=true from (Rec.eqb_iff _ _).2 rfl))))) (zg (hw:=hEw57) hT585 [(45,101,vF),(46,102,vF),(47,103,(vP w16.heap.size 1))] 3 ?_))
   have hK54:=((((hBw52.ext hEw53).ext hEw54).ext hEw55).ext hEw56)
   refine zt (hw:=hEw57) hT585 48 w16.heap.size 1 (fun w' hC=>((hK54.ext hC).cell rfl)) (zg (hw:=hEw57) hT585 [(49,105,(vI (tot 5)))] 1 (zk (hw:=hEw57) hT585 50 vF (zaJ ((((tot 5):Nat):Int) !=((3:Nat):Int)) (zaE)) (zg (hw:=hEw57) hT585 [(51,107,vF)] 1 (zD (zb (zh (zo (zb (ze ?_)))))))))
   refine zd (zc 1 [(108,(vA (zJ (Nod.mt 0 1))))] (zan (zJ (Nod.mt 0 1)) 74 (zO _) (zcb _) ?_))
   intro w58 hBw58 hEw58 hzw58 hlw58
   refine zf (zb (ze (zd ?_)))
   have hK55:=(((hBw55.ext hEw56).ext hEw57).ext hEw58)
   refine za (zS w54.heap.size 0 (hK55.all) (zZ _) ?_)
   refine zc 1 [(110,(vP w57.heap.size 2))] (za (zbk w57.heap.size 2 0 4 35 ?_))
   refine za (zG 68 w57.heap.size (2+0*35) 74 (vA (zM (wR1))) (zJ (Nod.mt 0 1)) (zM (wR1)) hBw58 (by rw [zZ];kernel_rfl) (by first |(simp;done)|(simp;omega)) (za8 _) ?_)
   intro w59 hBw59 hCw59
   have hzw59:=hCw59.size
   rw [show (zU (zJ (Nod.mt 0 1)) (2+0*35) (zM (wR1)):List Value)=zJ ((Nod.mt 0 1).setR 0 (wR1)) from nod_setR (by omega)] at hBw59
   refine zf (zb (ze (ze (zaa 11 (fun w60 hEw60 hzw60 hT654=> ?_)))))
   refine zg hT654 [(0,112,(vP w16.heap.size 1))] 1 ?_
   have hK56:=((((hK54.ext hEw57).ext hEw58).chg hCw59).ext hEw60)
   refine zt hT654 1 w16.heap.size 1 (fun w' hC=>((hK56.ext hC).cell rfl)) ?_
   obtain ⟨b7,o7,rfl⟩:=hFz23_0.addr (by omega) (by decide)
   refine zag hT654 2 b7 o7 (tot 5) (tot 5) 2 280 (zg hT654 [(3,115,(vP b7 (o7+2*280))),(4,116,(vP b7 (o7+2*280+142)))] 2 (zaP hT654 5 b7 (o7+2*280+142) 1 4 33 ?_))
   have hK57:=(((((((((hFz23_0.chg hCw52).ext hEw53).ext hEw54).ext hEw55).ext hEw56).ext hEw57).ext hEw58).chg hCw59).ext hEw60)
   refine zal hT654 6 b7 (o7+2*280+142+1*33) (fun w' hC=>(((hK57.ext hC).at Un.zero (by omega)).sub2 142 _ (zaj ((wT1.getD 2 Un.zero).nd.es.get 1)) (znS (by omega)))) (zaK _) (zal hT654 7 w57.heap.size 0 (fun w' hC=>(((hBw59.ext hEw60).ext hC).all)) (zO _) (zx 8 (zq (zfA ((Nod.mt 0 1).setR 0 (wR1)) _) ?_)))
   rintro _ w61 ⟨rfl,hEw61⟩
   have hzw61:=hEw61.size
   refine ⟨.inr hEw61, ?_⟩
   refine zk (hw:=hEw61) hT654 9 (vA (zaj (⟨1,(zR (zN ((Nod.mt 0 1).setR 0 (wR1)))),by decide⟩))) (zae (Instr.build 71 #[(0,(vB 1)),(1,(vA (zQ (zR (zN ((Nod.mt 0 1).setR 0 (wR1)))))))]) (fun w' hC=>zcE 1 (zR (zN ((Nod.mt 0 1).setR 0 (wR1)))) (by decide))) (zk (hw:=hEw61) hT654 10 vF (zae (bo .neq 71 (.tmp 118) (.tmp 121) (vA (zaj ((wT1.getD 2 Un.zero).nd.es.get 1))) (vA (zaj (⟨1,(zR (zN ((Nod.mt 0 1).setR 0 (wR1)))),by decide⟩)))) (fun w' hC=>zap (r:=true) (T:=71) ((zcq (dd:=9997) (t:=71) (t8:=5) (td:=59) (e:=5) ((wT1.getD 2 Un.zero).nd.es.get 1) (⟨1,(zR (zN ((Nod.mt 0 1).setR 0 (wR1)))),by decide⟩)).trans (congrArg (fun b=>Result.ok b _) (show (((wT1.getD 2 Un.zero).nd.es.get 1).eqb (⟨1,(zR (zN ((Nod.mt 0 1).setR 0 (wR1)))),by decide⟩))=true from (Ent.eqb_iff _ _).2 zqI))))) (zD (zb (zh (zo (zb (ze (zaa 12 (fun w62 hEw62 hzw62 hT677=> ?_)))))))))
   refine zaT hT677 0 w16.heap.size 0 (fun w' hC=>((((hK56.ext hEw61).ext hEw62).ext hC).all)) ?_
   have hK58:=((((((((((((((((((((hBw6.ext hEw7).ext hEw8).ext hEw9).ext hEw10).ext hEw11).ext hEw12).ext hEw13).ext hEw14).ext hEw15).ext hX18).ext hEw53).ext hEw54).ext hEw55).ext hEw56).ext hEw57).ext hEw58).chg hCw59).ext hEw60).ext hEw61).ext hEw62)
   refine zal hT677 2 w3.heap.size 0 (fun w' hC=>((hK58.ext hC).all)) (zaq _) (zbE 1 8 ?_ ?_)
   ·refine zq (zcD 4 _ (by first | omega | decide | exact UInt8.toNat_lt _)) ?_
    rintro _ w63 ⟨rfl,hEw63⟩
    have hzw63:=hEw63.size
    refine ⟨.inr hEw63, ?_⟩
    refine zbE 3 8 ?_ ?_
    ·have hK59:=(((hK57.ext hEw61).ext hEw62).ext hEw63)
     have hK60:=((((((((((hK49.ext hEw54).ext hEw55).ext hEw56).ext hEw57).ext hEw58).chg hCw59).ext hEw60).ext hEw61).ext hEw62).ext hEw63)
     have hK61:=((((((((((hK50.ext hEw54).ext hEw55).ext hEw56).ext hEw57).ext hEw58).chg hCw59).ext hEw60).ext hEw61).ext hEw62).ext hEw63)
     have hK62:=((((((((((hK51.ext hEw54).ext hEw55).ext hEw56).ext hEw57).ext hEw58).chg hCw59).ext hEw60).ext hEw61).ext hEw62).ext hEw63)
     refine zq (zdE 5 4 (zbf 4) (mkD 4) _ hK59 (by first | omega | decide) (by first | omega | decide) (by first | omega | decide) (za9 wO1) (zaZ (n:=5) wO1 rfl) (by first | omega | decide) hK60 hK61 hK62) ?_
     rintro _ w64 ⟨a13,rfl,hFz29_0,hEw64⟩
     have hzw64:=hEw64.size
     have hlea13:=hFz29_0.le
     rw [show zdz 5 wT1 4 (zbf 4) (mkD 4)=wT2 from wE1] at hFz29_0
     rw [show (za0 (wT1.getD (4/4) Un.zero) (4%4))=0 from wG1]
     have hX19:Ext w62 w64:=(hEw63.trans hEw64)
     refine ⟨.inr hX19, ?_⟩
     refine zg (hw:=hX19) hT677 [(4,123,(.tuple #[(vA [(vI 5),(.slice a13 (tot 5) (tot 5))]),(vI 0),(vI 0)])),(5,128,(vA [(vI 5),(.slice a13 (tot 5) (tot 5))])),(6,129,(vI 0)),(7,130,(vI 0))] 4 (zx 8 (zaf ([(vI 0),(.slice none 0 0)]) 38 ?_))
     intro w65 hBw65 hEw65 hzw65 hlw65
     have hX20:Ext w62 w65:=((hEw63.trans hEw64).trans hEw65)
     refine ⟨.inr hX20, ?_⟩
     refine zx 9 (zG 38 w64.heap.size 0 38 (vA [(vI 5),(.slice a13 (tot 5) (tot 5))]) ([(vI 0),(.slice none 0 0)]) ([(vI 5),(.slice a13 (tot 5) (tot 5))]) hBw65 (by kernel_rfl) (by first | decide |(simp;done)|(simp;omega)) (by simp [Value.oneCell']) ?_)
     intro w66 hBw66 hCw66
     have hzw66:=hCw66.size
     rw [zy _ _ (by kernel_rfl)] at hBw66
     have hX21:Ext w62 w66:=(Ext.own ((hEw63.trans hEw64).trans hEw65) hCw66 (by omega))
     refine ⟨.inr hX21, ?_⟩
     refine zg (hw:=hX21) hT677 [(10,10,(vI 0)),(11,4,(vI 0))] 2 (zD (zb (ze (zd (za (zT w64.heap.size 0 (hBw66.all) ?_))))))
     have hK63:=(((hK60.ext hEw64).ext hEw65).chg hCw66)
     have hK64:=(((hK61.ext hEw64).ext hEw65).chg hCw66)
     have hK65:=(((hK62.ext hEw64).ext hEw65).chg hCw66)
     refine za (zq (zer 5 _ ((hFz29_0.ext hEw65).chg hCw66) (by first | omega | decide) (by first | omega | decide) (by first | omega | decide) (za9 wO2) (zaZ (n:=5) wO2 rfl) hK63 hK64 hK65) ?_)
     rintro _ w67 ⟨a14,rfl,hFz30_0,hEw67⟩
     have hzw67:=hEw67.size
     have hlea14:=hFz30_0.le
     rw [show zbN (tot 5) wT2=wT3 from wE2] at hFz30_0
     refine zc 3 [(135,(vI 0)),(134,(vA [(vI 5),(.slice a14 (tot 5) (tot 5))])),(131,(.tuple #[(vA [(vI 5),(.slice a14 (tot 5) (tot 5))]),(vI 0)]))] (zan ([(vI 5),(.slice a14 (tot 5) (tot 5))]) 38 rfl (by simp [Value.oneCell']) ?_)
     intro w68 hBw68 hEw68 hzw68 hlw68
     refine zc 1 [(6,(vI 0))] (zf (zb (ze (zd (za (zT w67.heap.size 0 (hBw68.all) ?_))))))
     refine za (zq (zep 5 4 _ (hFz30_0.ext hEw68) (by first | omega | decide) (by first | omega | decide) (by first | omega | decide) (za9 wO3) (zaZ (n:=5) wO3 rfl) (by first | omega | decide) ((hK63.ext hEw67).ext hEw68) ((hK64.ext hEw67).ext hEw68) ((hK65.ext hEw67).ext hEw68)) ?_)
     rintro _ w69 ⟨rfl,hEw69⟩
     have hzw69:=hEw69.size
     rw [show za0 (wT3.getD (4/4) Un.zero) (4%4)=1 from wG3]
     refine zc 5 [(8,(vI 0)),(7,(vI 1)),(140,(vI 0)),(139,(vI 1)),(136,(.tuple #[(vI 1),(vI 0)]))] (zf (zb (ze (zd (zc 2 [(142,(vI 0)),(141,(vI 0))] (za (zn (some 143) .i64 (IntKind.i64.wrap (((0:Nat):Int)+((0:Nat):Int))) 0 (zu) ?_)))))))
     refine zc 1 [(144,(vI 0))] (za (zn (some 145) .i64 (IntKind.i64.wrap (((0:Nat):Int)+((0:Nat):Int))) 0 (zu) ?_))
     refine zc 3 [(148,(vI 0)),(147,vT),(146,vT)] (za (zah (some 149) (((0:Nat):Int)==((0:Nat):Int)) true (zau) ?_))
     refine zc 3 [(152,(vI 1)),(151,vT),(150,vT)] (za (zah (some 153) (((1:Nat):Int)==((1:Nat):Int)) true (zau) ?_))
     refine zc 3 [(156,(vP w67.heap.size 1)),(155,vT),(154,vT)] (za (zl w67.heap.size 1 ((hBw68.ext hEw69).cell rfl) ?_))
     refine zc 1 [(158,(vI (tot 5)))] (za (zah (some 159) ((((tot 5):Nat):Int)==((3:Nat):Int)) true (zau) ?_))
     refine zc 3 [(162,(vP w67.heap.size 1)),(161,vT),(160,vT)] (za (zl w67.heap.size 1 ((hBw68.ext hEw69).cell rfl) ?_))
     obtain ⟨b8,o8,rfl⟩:=hFz30_0.addr (by omega) (by decide)
     refine za (zai b8 o8 (tot 5) (tot 5) 1 280 ?_)
     refine zc 1 [(165,(vP b8 (o8+1*280+274)))] (za (zl b8 (o8+1*280+274) (((hFz30_0.ext hEw68).ext hEw69).cell (j:=274) (i:=1) Un.zero (by omega) (zbw _)) ?_))
     refine za (zah (some 167) ((wT3.getD 1 Un.zero).sl==((0:Nat):Int)) true (zau) ?_)
     refine zc 3 [(170,(vP w67.heap.size 1)),(169,vT),(168,vT)] (za (zl w67.heap.size 1 ((hBw68.ext hEw69).cell rfl) ?_))
     refine za (zai b8 o8 (tot 5) (tot 5) 2 280 ?_)
     refine zc 1 [(173,(vP b8 (o8+2*280+274)))] (za (zl b8 (o8+2*280+274) (((hFz30_0.ext hEw68).ext hEw69).cell (j:=274) (i:=2) Un.zero (by omega) (zbw _)) ?_))
     refine za (zah (some 175) ((wT3.getD 2 Un.zero).sl==((1:Nat):Int)) true (zau) ?_)
     refine zc 2 [(0,vT),(176,vT)] (zf (zb (zj (zm vT ?_))))
     have hX22:Ext w w69:=((((((((Ext.own (((((((((((((((((Ext.own (Ext.own (((hEw1.trans hEw2).trans hEw3).trans hEw4) hCw5 (by omega)) hCw6 (by omega)).trans hEw7).trans hEw8).trans hEw9).trans hEw10).trans hEw11).trans hEw12).trans hEw13).trans hEw14).trans hEw15).trans hX18).trans hEw53).trans hEw54).trans hEw55).trans hEw56).trans hEw57).trans hEw58) hCw59 (by omega)).trans hEw60).trans hEw61).trans hEw62).trans hX21).trans hEw67).trans hEw68).trans hEw69)
     exact ⟨rfl,hX22⟩
    ·refine zaf ([(vI 0),(.slice none 0 0)]) 38 ?_
     intro w70 hBw70 hEw70 hzw70 hlw70
     have hX23:Ext w62 w70:=(hEw63.trans hEw70)
     refine ⟨.inr hX23, ?_⟩
     have hK66:=((((hK57.ext hEw61).ext hEw62).ext hEw63).ext hEw70)
     have hK67:=(((((((((((hK49.ext hEw54).ext hEw55).ext hEw56).ext hEw57).ext hEw58).chg hCw59).ext hEw60).ext hEw61).ext hEw62).ext hEw63).ext hEw70)
     have hK68:=(((((((((((hK50.ext hEw54).ext hEw55).ext hEw56).ext hEw57).ext hEw58).chg hCw59).ext hEw60).ext hEw61).ext hEw62).ext hEw63).ext hEw70)
     have hK69:=(((((((((((hK51.ext hEw54).ext hEw55).ext hEw56).ext hEw57).ext hEw58).chg hCw59).ext hEw60).ext hEw61).ext hEw62).ext hEw63).ext hEw70)
     refine zx 3 (zq (zdE 5 4 (zbf 4) (mkD 4) _ hK66 (by first | omega | decide) (by first | omega | decide) (by first | omega | decide) (za9 wO1) (zaZ (n:=5) wO1 rfl) (by first | omega | decide) hK67 hK68 hK69) ?_)
     rintro _ w71 ⟨a15,rfl,hFz32_0,hEw71⟩
     have hzw71:=hEw71.size
     have hlea15:=hFz32_0.le
     rw [show zdz 5 wT1 4 (zbf 4) (mkD 4)=wT2 from wE1] at hFz32_0
     rw [show (za0 (wT1.getD (4/4) Un.zero) (4%4))=0 from wG1]
     have hX24:Ext w62 w71:=((hEw63.trans hEw70).trans hEw71)
     refine ⟨.inr hX24, ?_⟩
     refine zg (hw:=hX24) hT677 [(4,123,(.tuple #[(vA [(vI 5),(.slice a15 (tot 5) (tot 5))]),(vI 0),(vI 0)])),(5,128,(vA [(vI 5),(.slice a15 (tot 5) (tot 5))])),(6,129,(vI 0)),(7,130,(vI 0))] 4 (zx 9 (zG 38 w63.heap.size 0 38 (vA [(vI 5),(.slice a15 (tot 5) (tot 5))]) ([(vI 0),(.slice none 0 0)]) ([(vI 5),(.slice a15 (tot 5) (tot 5))]) (hBw70.ext hEw71) (by kernel_rfl) (by first | decide |(simp;done)|(simp;omega)) (by simp [Value.oneCell']) ?_))
     intro w72 hBw72 hCw72
     have hzw72:=hCw72.size
     rw [zy _ _ (by kernel_rfl)] at hBw72
     have hX25:Ext w62 w72:=(Ext.own ((hEw63.trans hEw70).trans hEw71) hCw72 (by omega))
     refine ⟨.inr hX25, ?_⟩
     refine zg (hw:=hX25) hT677 [(10,10,(vI 0)),(11,4,(vI 0))] 2 (zD (zb (ze (zd (za (zT w63.heap.size 0 (hBw72.all) ?_))))))
     refine za (zq (zer 5 _ (hFz32_0.chg hCw72) (by first | omega | decide) (by first | omega | decide) (by first | omega | decide) (za9 wO2) (zaZ (n:=5) wO2 rfl) ((hK67.ext hEw71).chg hCw72) ((hK68.ext hEw71).chg hCw72) ((hK69.ext hEw71).chg hCw72)) ?_)
     rintro _ w73 ⟨a16,rfl,hFz33_0,hEw73⟩
     have hzw73:=hEw73.size
     have hlea16:=hFz33_0.le
     rw [show zbN (tot 5) wT2=wT3 from wE2] at hFz33_0
     refine zc 3 [(135,(vI 0)),(134,(vA [(vI 5),(.slice a16 (tot 5) (tot 5))])),(131,(.tuple #[(vA [(vI 5),(.slice a16 (tot 5) (tot 5))]),(vI 0)]))] (zan ([(vI 5),(.slice a16 (tot 5) (tot 5))]) 38 rfl (by simp [Value.oneCell']) ?_)
     intro w74 hBw74 hEw74 hzw74 hlw74
     refine zc 1 [(6,(vI 0))] (zf (zb (ze (zd (za (zT w73.heap.size 0 (hBw74.all) ?_))))))
     have hK70:=((((hK67.ext hEw71).chg hCw72).ext hEw73).ext hEw74)
     have hK71:=((((hK68.ext hEw71).chg hCw72).ext hEw73).ext hEw74)
     have hK72:=((((hK69.ext hEw71).chg hCw72).ext hEw73).ext hEw74)
     refine za (zq (zep 5 4 _ (hFz33_0.ext hEw74) (by first | omega | decide) (by first | omega | decide) (by first | omega | decide) (za9 wO3) (zaZ (n:=5) wO3 rfl) (by first | omega | decide) hK70 hK71 hK72) ?_)
     rintro _ w75 ⟨rfl,hEw75⟩
     have hzw75:=hEw75.size
     rw [show za0 (wT3.getD (4/4) Un.zero) (4%4)=1 from wG3]
     refine zc 5 [(8,(vI 0)),(7,(vI 1)),(140,(vI 0)),(139,(vI 1)),(136,(.tuple #[(vI 1),(vI 0)]))] (zf (zb (ze (zd (zc 2 [(142,(vI 0)),(141,(vI 0))] (za (zn (some 143) .i64 (IntKind.i64.wrap (((0:Nat):Int)+((0:Nat):Int))) 0 (zu) ?_)))))))
     refine zc 1 [(144,(vI 0))] (za (zn (some 145) .i64 (IntKind.i64.wrap (((0:Nat):Int)+((0:Nat):Int))) 0 (zu) ?_))
     refine zc 3 [(148,(vI 0)),(147,vT),(146,vT)] (za (zah (some 149) (((0:Nat):Int)==((0:Nat):Int)) true (zau) ?_))
     refine zc 3 [(152,(vI 1)),(151,vT),(150,vT)] (za (zah (some 153) (((1:Nat):Int)==((1:Nat):Int)) true (zau) ?_))
     refine zc 3 [(156,(vP w73.heap.size 1)),(155,vT),(154,vT)] (za (zl w73.heap.size 1 ((hBw74.ext hEw75).cell rfl) ?_))
     refine zc 1 [(158,(vI (tot 5)))] (za (zah (some 159) ((((tot 5):Nat):Int)==((3:Nat):Int)) true (zau) ?_))
     refine zc 3 [(162,(vP w73.heap.size 1)),(161,vT),(160,vT)] (za (zl w73.heap.size 1 ((hBw74.ext hEw75).cell rfl) ?_))
     obtain ⟨b9,o9,rfl⟩:=hFz33_0.addr (by omega) (by decide)
     refine za (zai b9 o9 (tot 5) (tot 5) 1 280 ?_)
     refine zc 1 [(165,(vP b9 (o9+1*280+274)))] (za (zl b9 (o9+1*280+274) (((hFz33_0.ext hEw74).ext hEw75).cell (j:=274) (i:=1) Un.zero (by omega) (zbw _)) ?_))
     refine za (zah (some 167) ((wT3.getD 1 Un.zero).sl==((0:Nat):Int)) true (zau) ?_)
     refine zc 3 [(170,(vP w73.heap.size 1)),(169,vT),(168,vT)] (za (zl w73.heap.size 1 ((hBw74.ext hEw75).cell rfl) ?_))
     refine za (zai b9 o9 (tot 5) (tot 5) 2 280 ?_)
     refine zc 1 [(173,(vP b9 (o9+2*280+274)))] (za (zl b9 (o9+2*280+274) (((hFz33_0.ext hEw74).ext hEw75).cell (j:=274) (i:=2) Un.zero (by omega) (zbw _)) ?_))
     refine za (zah (some 175) ((wT3.getD 2 Un.zero).sl==((1:Nat):Int)) true (zau) ?_)
     refine zc 2 [(0,vT),(176,vT)] (zf (zb (zj (zm vT ?_))))
     have hX26:Ext w w75:=((((((((Ext.own (((((((((((((((((Ext.own (Ext.own (((hEw1.trans hEw2).trans hEw3).trans hEw4) hCw5 (by omega)) hCw6 (by omega)).trans hEw7).trans hEw8).trans hEw9).trans hEw10).trans hEw11).trans hEw12).trans hEw13).trans hEw14).trans hEw15).trans hX18).trans hEw53).trans hEw54).trans hEw55).trans hEw56).trans hEw57).trans hEw58) hCw59 (by omega)).trans hEw60).trans hEw61).trans hEw62).trans hX25).trans hEw73).trans hEw74).trans hEw75)
     exact ⟨rfl,hX26⟩
   ·refine zaf ([(vI 0),(.slice none 0 0)]) 38 ?_
    intro w76 hBw76 hEw76 hzw76 hlw76
    refine ⟨.inr hEw76, ?_⟩
    refine zx 1 (zq (zcD 4 _ (by first | omega | decide | exact UInt8.toNat_lt _)) ?_)
    rintro _ w77 ⟨rfl,hEw77⟩
    have hzw77:=hEw77.size
    have hX27:Ext w62 w77:=(hEw76.trans hEw77)
    refine ⟨.inr hX27, ?_⟩
    have hK73:=((((hK57.ext hEw61).ext hEw62).ext hEw76).ext hEw77)
    have hK74:=(((((((((((hK49.ext hEw54).ext hEw55).ext hEw56).ext hEw57).ext hEw58).chg hCw59).ext hEw60).ext hEw61).ext hEw62).ext hEw76).ext hEw77)
    have hK75:=(((((((((((hK50.ext hEw54).ext hEw55).ext hEw56).ext hEw57).ext hEw58).chg hCw59).ext hEw60).ext hEw61).ext hEw62).ext hEw76).ext hEw77)
    have hK76:=(((((((((((hK51.ext hEw54).ext hEw55).ext hEw56).ext hEw57).ext hEw58).chg hCw59).ext hEw60).ext hEw61).ext hEw62).ext hEw76).ext hEw77)
    refine zx 3 (zq (zdE 5 4 (zbf 4) (mkD 4) _ hK73 (by first | omega | decide) (by first | omega | decide) (by first | omega | decide) (za9 wO1) (zaZ (n:=5) wO1 rfl) (by first | omega | decide) hK74 hK75 hK76) ?_)
    rintro _ w78 ⟨a17,rfl,hFz36_0,hEw78⟩
    have hzw78:=hEw78.size
    have hlea17:=hFz36_0.le
    rw [show zdz 5 wT1 4 (zbf 4) (mkD 4)=wT2 from wE1] at hFz36_0
    rw [show (za0 (wT1.getD (4/4) Un.zero) (4%4))=0 from wG1]
    have hX28:Ext w62 w78:=((hEw76.trans hEw77).trans hEw78)
    refine ⟨.inr hX28, ?_⟩
    refine zg (hw:=hX28) hT677 [(4,123,(.tuple #[(vA [(vI 5),(.slice a17 (tot 5) (tot 5))]),(vI 0),(vI 0)])),(5,128,(vA [(vI 5),(.slice a17 (tot 5) (tot 5))])),(6,129,(vI 0)),(7,130,(vI 0))] 4 (zx 9 (zG 38 w62.heap.size 0 38 (vA [(vI 5),(.slice a17 (tot 5) (tot 5))]) ([(vI 0),(.slice none 0 0)]) ([(vI 5),(.slice a17 (tot 5) (tot 5))]) ((hBw76.ext hEw77).ext hEw78) (by kernel_rfl) (by first | decide |(simp;done)|(simp;omega)) (by simp [Value.oneCell']) ?_))
    intro w79 hBw79 hCw79
    have hzw79:=hCw79.size
    rw [zy _ _ (by kernel_rfl)] at hBw79
    have hX29:Ext w62 w79:=(Ext.own ((hEw76.trans hEw77).trans hEw78) hCw79 (by omega))
    refine ⟨.inr hX29, ?_⟩
    refine zg (hw:=hX29) hT677 [(10,10,(vI 0)),(11,4,(vI 0))] 2 (zD (zb (ze (zd (za (zT w62.heap.size 0 (hBw79.all) ?_))))))
    refine za (zq (zer 5 _ (hFz36_0.chg hCw79) (by first | omega | decide) (by first | omega | decide) (by first | omega | decide) (za9 wO2) (zaZ (n:=5) wO2 rfl) ((hK74.ext hEw78).chg hCw79) ((hK75.ext hEw78).chg hCw79) ((hK76.ext hEw78).chg hCw79)) ?_)
    rintro _ w80 ⟨a18,rfl,hFz37_0,hEw80⟩
    have hzw80:=hEw80.size
    have hlea18:=hFz37_0.le
    rw [show zbN (tot 5) wT2=wT3 from wE2] at hFz37_0
    refine zc 3 [(135,(vI 0)),(134,(vA [(vI 5),(.slice a18 (tot 5) (tot 5))])),(131,(.tuple #[(vA [(vI 5),(.slice a18 (tot 5) (tot 5))]),(vI 0)]))] (zan ([(vI 5),(.slice a18 (tot 5) (tot 5))]) 38 rfl (by simp [Value.oneCell']) ?_)
    intro w81 hBw81 hEw81 hzw81 hlw81
    refine zc 1 [(6,(vI 0))] (zf (zb (ze (zd (za (zT w80.heap.size 0 (hBw81.all) ?_))))))
    have hK77:=((((hK74.ext hEw78).chg hCw79).ext hEw80).ext hEw81)
    have hK78:=((((hK75.ext hEw78).chg hCw79).ext hEw80).ext hEw81)
    have hK79:=((((hK76.ext hEw78).chg hCw79).ext hEw80).ext hEw81)
    refine za (zq (zep 5 4 _ (hFz37_0.ext hEw81) (by first | omega | decide) (by first | omega | decide) (by first | omega | decide) (za9 wO3) (zaZ (n:=5) wO3 rfl) (by first | omega | decide) hK77 hK78 hK79) ?_)
    rintro _ w82 ⟨rfl,hEw82⟩
    have hzw82:=hEw82.size
    rw [show za0 (wT3.getD (4/4) Un.zero) (4%4)=1 from wG3]
    refine zc 5 [(8,(vI 0)),(7,(vI 1)),(140,(vI 0)),(139,(vI 1)),(136,(.tuple #[(vI 1),(vI 0)]))] (zf (zb (ze (zd (zc 2 [(142,(vI 0)),(141,(vI 0))] (za (zn (some 143) .i64 (IntKind.i64.wrap (((0:Nat):Int)+((0:Nat):Int))) 0 (zu) ?_)))))))
    refine zc 1 [(144,(vI 0))] (za (zn (some 145) .i64 (IntKind.i64.wrap (((0:Nat):Int)+((0:Nat):Int))) 0 (zu) ?_))
    refine zc 3 [(148,(vI 0)),(147,vT),(146,vT)] (za (zah (some 149) (((0:Nat):Int)==((0:Nat):Int)) true (zau) ?_))
    refine zc 3 [(152,(vI 1)),(151,vT),(150,vT)] (za (zah (some 153) (((1:Nat):Int)==((1:Nat):Int)) true (zau) ?_))
    refine zc 3 [(156,(vP w80.heap.size 1)),(155,vT),(154,vT)] (za (zl w80.heap.size 1 ((hBw81.ext hEw82).cell rfl) ?_))
    refine zc 1 [(158,(vI (tot 5)))] (za (zah (some 159) ((((tot 5):Nat):Int)==((3:Nat):Int)) true (zau) ?_))
    refine zc 3 [(162,(vP w80.heap.size 1)),(161,vT),(160,vT)] (za (zl w80.heap.size 1 ((hBw81.ext hEw82).cell rfl) ?_))
    obtain ⟨b10,o10,rfl⟩:=hFz37_0.addr (by omega) (by decide)
    refine za (zai b10 o10 (tot 5) (tot 5) 1 280 ?_)
    refine zc 1 [(165,(vP b10 (o10+1*280+274)))] (za (zl b10 (o10+1*280+274) (((hFz37_0.ext hEw81).ext hEw82).cell (j:=274) (i:=1) Un.zero (by omega) (zbw _)) ?_))
    refine za (zah (some 167) ((wT3.getD 1 Un.zero).sl==((0:Nat):Int)) true (zau) ?_)
    refine zc 3 [(170,(vP w80.heap.size 1)),(169,vT),(168,vT)] (za (zl w80.heap.size 1 ((hBw81.ext hEw82).cell rfl) ?_))
    refine za (zai b10 o10 (tot 5) (tot 5) 2 280 ?_)
    refine zc 1 [(173,(vP b10 (o10+2*280+274)))] (za (zl b10 (o10+2*280+274) (((hFz37_0.ext hEw81).ext hEw82).cell (j:=274) (i:=2) Un.zero (by omega) (zbw _)) ?_))
    refine za (zah (some 175) ((wT3.getD 2 Un.zero).sl==((1:Nat):Int)) true (zau) ?_)
    refine zc 2 [(0,vT),(176,vT)] (zf (zb (zj (zm vT ?_))))
    have hX30:Ext w w82:=((((((((Ext.own (((((((((((((((((Ext.own (Ext.own (((hEw1.trans hEw2).trans hEw3).trans hEw4) hCw5 (by omega)) hCw6 (by omega)).trans hEw7).trans hEw8).trans hEw9).trans hEw10).trans hEw11).trans hEw12).trans hEw13).trans hEw14).trans hEw15).trans hX18).trans hEw53).trans hEw54).trans hEw55).trans hEw56).trans hEw57).trans hEw58) hCw59 (by omega)).trans hEw60).trans hEw61).trans hEw62).trans hX29).trans hEw80).trans hEw81).trans hEw82)
    exact ⟨rfl,hX30⟩
 ·refine zaf ([(vI 0),(.slice none 0 0)]) 38 ?_
  intro w83 hBw83 hEw83 hzw83 hlw83
  refine ⟨.inr hEw83, ?_⟩
  refine zx 1 (zq (zcD 3 _ (by first | omega | decide | exact UInt8.toNat_lt _)) ?_)
  rintro _ w84 ⟨rfl,hEw84⟩
  have hzw84:=hEw84.size
  have hX31:Ext w15 w84:=(hEw83.trans hEw84)
  refine ⟨.inr hX31, ?_⟩
  have hK80:=(((((hFz4_0.ext hEw13).ext hEw14).ext hEw15).ext hEw83).ext hEw84)
  have hK81:=((((((hK4.ext hEw12).ext hEw13).ext hEw14).ext hEw15).ext hEw83).ext hEw84)
  have hK82:=((((((hK5.ext hEw12).ext hEw13).ext hEw14).ext hEw15).ext hEw83).ext hEw84)
  have hK83:=((((((hK6.ext hEw12).ext hEw13).ext hEw14).ext hEw15).ext hEw83).ext hEw84)
  refine zx 3 (zq (zdE 5 4 (zbf 3) (mkD 3) _ hK80 (by first | omega | decide) (by first | omega | decide) (by first | omega | decide) (za9 wO0) (zaZ (n:=5) wO0 rfl) (by first | omega | decide) hK81 hK82 hK83) ?_)
  rintro _ w85 ⟨a19,rfl,hFz40_0,hEw85⟩
  have hzw85:=hEw85.size
  have hlea19:=hFz40_0.le
  rw [show zdz 5 wT0 4 (zbf 3) (mkD 3)=wT1 from wE0] at hFz40_0
  rw [show (za0 (wT0.getD (4/4) Un.zero) (4%4))=0 from wG0]
  have hX32:Ext w15 w85:=((hEw83.trans hEw84).trans hEw85)
  refine ⟨.inr hX32, ?_⟩
  refine zg (hw:=hX32) hT93 [(4,38,(.tuple #[(vA [(vI 5),(.slice a19 (tot 5) (tot 5))]),(vI 0),(vI 0)])),(5,43,(vA [(vI 5),(.slice a19 (tot 5) (tot 5))])),(6,44,(vI 0)),(7,45,(vI 0))] 4 (zx 9 (zG 38 w15.heap.size 0 38 (vA [(vI 5),(.slice a19 (tot 5) (tot 5))]) ([(vI 0),(.slice none 0 0)]) ([(vI 5),(.slice a19 (tot 5) (tot 5))]) ((hBw83.ext hEw84).ext hEw85) (by kernel_rfl) (by first | decide |(simp;done)|(simp;omega)) (by simp [Value.oneCell']) ?_))
  intro w86 hBw86 hCw86
  have hzw86:=hCw86.size
  rw [zy _ _ (by kernel_rfl)] at hBw86
  have hX33:Ext w15 w86:=(Ext.own ((hEw83.trans hEw84).trans hEw85) hCw86 (by omega))
  refine ⟨.inr hX33, ?_⟩
  refine zg (hw:=hX33) hT93 [(10,10,(vI 0)),(11,11,(vI 0))] 2 (zD (zb (ze (zd (za (zT w15.heap.size 0 (hBw86.all) ?_))))))
  refine za (zq (zk3 5 _ (hFz40_0.chg hCw86) (by first | omega | decide) (by first | omega | decide) (by first | omega | decide) (za9 wO1) (zaZ (n:=5) wO1 rfl) ((hK81.ext hEw85).chg hCw86) ((hK82.ext hEw85).chg hCw86) ((hK83.ext hEw85).chg hCw86)) ?_)
  rintro _ w87 ⟨a20,rfl,hFz41_0,hEw87⟩
  have hzw87:=hEw87.size
  have hlea20:=hFz41_0.le
  rw [wD1,show List.length [(0,1),(1,0)]=2 from rfl] at hFz41_0
  rw [show zbi 5 wT1 (tot 5)= [(0,1),(1,0)] from wD1]
  rw [show List.length ([(0,1),(1,0)])=2 from rfl]
  refine zc 5 [(13,(vI 0)),(12,(.slice a20 2 2)),(50,(vI 0)),(49,(.slice a20 2 2)),(46,(.tuple #[(.slice a20 2 2),(vI 0)]))] (zf (zb (ze (zd (za (zT w15.heap.size 0 ((hBw86.ext hEw87).all) ?_))))))
  have hK84:=(((hK81.ext hEw85).chg hCw86).ext hEw87)
  have hK85:=(((hK82.ext hEw85).chg hCw86).ext hEw87)
  have hK86:=(((hK83.ext hEw85).chg hCw86).ext hEw87)
  refine za (zq (zlR 5 4 _ ((hFz40_0.chg hCw86).ext hEw87) (by first | omega | decide) (by first | omega | decide) (by first | omega | decide) (za9 wO1) (zaZ (n:=5) wO1 rfl) (by first | omega | decide) hK84 hK85 hK86) ?_)
  rintro _ w88 ⟨rfl,hEw88⟩
  have hzw88:=hEw88.size
  rw [show (wT1.getD (4/4) Un.zero).nd.rs.get (4%4)=wR1 from znd]
  refine zc 3 [(55,(vI 0)),(54,(vA (zM (wR1)))),(51,(.tuple #[(vA (zM (wR1))),(vI 0)]))] (zan (zM (wR1)) 68 (zZ _) (za8 _) ?_)
  intro w89 hBw89 hEw89 hzw89 hlw89
  refine zc 1 [(15,(vI 0))] (zf (zb (ze (ze (zaa 52 (fun w90 hEw90 hzw90 hT1013=> ?_))))))
  refine zg hT1013 [(0,56,(vI 0)),(1,57,(vI 0))] 2 (zk hT1013 2 (vI 0) (zY .i64 (IntKind.i64.wrap (((0:Nat):Int)+((0:Nat):Int))) (zu)) (zg hT1013 [(3,59,(vI 0))] 1 (zk hT1013 4 (vI 0) (zY .i64 (IntKind.i64.wrap (((0:Nat):Int)+((0:Nat):Int))) (zu)) (zg hT1013 [(5,61,(vI 0))] 1 (zk hT1013 6 (vI 0) (zY .i64 (IntKind.i64.wrap (((0:Nat):Int)+((0:Nat):Int))) (zu)) (zg hT1013 [(7,63,(vI 0))] 1 (zk hT1013 8 (vI 0) (zY .i64 (IntKind.i64.wrap (((0:Nat):Int)+((0:Nat):Int))) (zu)) (zg hT1013 [(9,65,(vI 0))] 1 (zk hT1013 10 (vI 0) (zY .i64 (IntKind.i64.wrap (((0:Nat):Int)+((0:Nat):Int))) (zu)) ?_)))))))))
  refine zg hT1013 [(11,67,vF),(12,68,vF),(13,69,(vI 0))] 3 (zk hT1013 14 vF (zaJ (((0:Nat):Int) !=((0:Nat):Int)) (zaE)) (zg hT1013 [(15,71,vF),(16,72,vF),(17,73,(vI 0))] 3 (zk hT1013 18 vF (zaJ (((0:Nat):Int) !=((0:Nat):Int)) (zaE)) (zg hT1013 [(19,75,vF),(20,76,vF),(21,77,(.slice a20 2 2)),(22,78,(vI 2)),(23,79,vF),(24,80,vF),(25,81,vF),(26,82,(.slice a20 2 2))] 8 ?_))))
  obtain ⟨b11,o11,rfl⟩:=hFz41_0.addr (by omega) (by decide)
  refine zag hT1013 27 b11 o11 2 2 0 2 ?_
  have hK87:=(((hFz41_0.ext hEw88).ext hEw89).ext hEw90)
  refine zaT hT1013 28 b11 (o11+0*2) (fun w' hC=>((hK87.ext hC).at (0,0) (by omega))) (zg hT1013 [(29,85,(vA [(vI 0),(vI 1)]))] 1 (zk hT1013 30 vF (zae (bo .neq 89 (.tmp 84) (.tmp 85) (vA [(vI ((([(0,1),(1,0)]).getD 0 (0,0)).1)),(vI ((([(0,1),(1,0)]).getD 0 (0,0)).2))]) (vA [(vI 0),(vI 1)])) (fun w' hC=>zap (r:=true) (T:=89) ((zdJ (dd:=9998) (t:=89) [(vI ((([(0,1),(1,0)]).getD 0 (0,0)).1)),(vI ((([(0,1),(1,0)]).getD 0 (0,0)).2))] [(vI 0),(vI 1)]).trans (congrArg (fun b=>Result.ok b _) (show (zg0 [(vI ((([(0,1),(1,0)]).getD 0 (0,0)).1)),(vI ((([(0,1),(1,0)]).getD 0 (0,0)).2))] [(vI 0),(vI 1)])=true from rfl))))) (zg hT1013 [(31,87,vF),(32,88,vF),(33,89,(.slice (pA b11 o11) 2 2))] 3 (zag hT1013 34 b11 o11 2 2 1 2 (zaT hT1013 35 b11 (o11+1*2) (fun w' hC=>((hK87.ext hC).at (0,0) (by omega))) (zg hT1013 [(36,92,(vA [(vI 1),(vI 0)]))] 1 (zk hT1013 37 vF (zae (bo .neq 89 (.tmp 91) (.tmp 92) (vA [(vI ((([(0,1),(1,0)]).getD 1 (0,0)).1)),(vI ((([(0,1),(1,0)]).getD 1 (0,0)).2))]) (vA [(vI 1),(vI 0)])) (fun w' hC=>zap (r:=true) (T:=89) ((zdJ (dd:=9998) (t:=89) [(vI ((([(0,1),(1,0)]).getD 1 (0,0)).1)),(vI ((([(0,1),(1,0)]).getD 1 (0,0)).2))] [(vI 1),(vI 0)]).trans (congrArg (fun b=>Result.ok b _) (show (zg0 [(vI ((([(0,1),(1,0)]).getD 1 (0,0)).1)),(vI ((([(0,1),(1,0)]).getD 1 (0,0)).2))] [(vI 1),(vI 0)])=true from rfl))))) (zg hT1013 [(38,94,vF),(39,95,vF)] 2 ?_))))))))
  refine zal hT1013 40 w88.heap.size 0 (fun w' hC=>(((hBw89.ext hEw90).ext hC).all)) (zZ _) ?_
  have hK88:=(((((hK8.ext hX33).ext hEw87).ext hEw88).ext hEw89).ext hEw90)
  refine zal hT1013 42 w2.heap.size 0 (fun w' hC=>((hK88.ext hC).all)) (zaq _) (zx 41 (zq (zcD 3 _ (by first | omega | decide | exact UInt8.toNat_lt _)) ?_))
  rintro _ w91 ⟨rfl,hEw91⟩
  have hzw91:=hEw91.size
  refine ⟨.inr hEw91, ?_⟩
  refine zk (hw:=hEw91) hT1013 43 (vA (zM wR1)) (zae (Instr.build 68 #[(0,(vB 1)),(1,(vA (zbc (zbf 3)))),(2,(vA (zQ (mkD 3))))]) (fun w' hC=>(zc9 1 (zbf 3) (mkD 3) (by decide)).trans (congrArg (fun z:Rec=>Result.ok (Value.agg (zM z).toArray) _) (show (⟨1,(zbf 3),(mkD 3),by decide⟩:Rec)=wR1 from rfl)))) (zk (hw:=hEw91) hT1013 44 vF (zae (bo .neq 68 (.tmp 96) (.tmp 99) (vA (zM (wR1))) (vA (zM wR1))) (fun w' hC=>zap (r:=true) (T:=68) ((zdb (dd:=9997) (t:=68) (t8:=5) (tn:=56) (td:=59) (e:=5) (t32:=53) (t64:=54) (wR1) wR1).trans (congrArg (fun b=>Result.ok b _) (show ((wR1).eqb wR1)=true from (Rec.eqb_iff _ _).2 rfl))))) (zg (hw:=hEw91) hT1013 [(45,101,vF),(46,102,vF),(47,103,(vP w15.heap.size 1))] 3 ?_))
  have hK89:=((((hBw86.ext hEw87).ext hEw88).ext hEw89).ext hEw90)
  refine zt (hw:=hEw91) hT1013 48 w15.heap.size 1 (fun w' hC=>((hK89.ext hC).cell rfl)) (zg (hw:=hEw91) hT1013 [(49,105,(vI (tot 5)))] 1 (zk (hw:=hEw91) hT1013 50 vF (zaJ ((((tot 5):Nat):Int) !=((3:Nat):Int)) (zaE)) (zg (hw:=hEw91) hT1013 [(51,107,vF)] 1 (zD (zb (zh (zo (zb (ze ?_)))))))))
  refine zd (zc 1 [(108,(vA (zJ (Nod.mt 0 1))))] (zan (zJ (Nod.mt 0 1)) 74 (zO _) (zcb _) ?_))
  intro w92 hBw92 hEw92 hzw92 hlw92
  refine zf (zb (ze (zd ?_)))
  have hK90:=(((hBw89.ext hEw90).ext hEw91).ext hEw92)
  refine za (zS w88.heap.size 0 (hK90.all) (zZ _) ?_)
  refine zc 1 [(110,(vP w91.heap.size 2))] (za (zbk w91.heap.size 2 0 4 35 ?_))
  refine za (zG 68 w91.heap.size (2+0*35) 74 (vA (zM (wR1))) (zJ (Nod.mt 0 1)) (zM (wR1)) hBw92 (by rw [zZ];kernel_rfl) (by first |(simp;done)|(simp;omega)) (za8 _) ?_)
  intro w93 hBw93 hCw93
  have hzw93:=hCw93.size
  rw [show (zU (zJ (Nod.mt 0 1)) (2+0*35) (zM (wR1)):List Value)=zJ ((Nod.mt 0 1).setR 0 (wR1)) from nod_setR (by omega)] at hBw93
  refine zf (zb (ze (ze (zaa 11 (fun w94 hEw94 hzw94 hT1082=> ?_)))))
  refine zg hT1082 [(0,112,(vP w15.heap.size 1))] 1 ?_
  have hK91:=((((hK89.ext hEw91).ext hEw92).chg hCw93).ext hEw94)
  refine zt hT1082 1 w15.heap.size 1 (fun w' hC=>((hK91.ext hC).cell rfl)) ?_
  obtain ⟨b12,o12,rfl⟩:=hFz40_0.addr (by omega) (by decide)
  refine zag hT1082 2 b12 o12 (tot 5) (tot 5) 2 280 (zg hT1082 [(3,115,(vP b12 (o12+2*280))),(4,116,(vP b12 (o12+2*280+142)))] 2 (zaP hT1082 5 b12 (o12+2*280+142) 1 4 33 ?_))
  have hK92:=(((((((((hFz40_0.chg hCw86).ext hEw87).ext hEw88).ext hEw89).ext hEw90).ext hEw91).ext hEw92).chg hCw93).ext hEw94)
  refine zal hT1082 6 b12 (o12+2*280+142+1*33) (fun w' hC=>(((hK92.ext hC).at Un.zero (by omega)).sub2 142 _ (zaj ((wT1.getD 2 Un.zero).nd.es.get 1)) (znS (by omega)))) (zaK _) (zal hT1082 7 w91.heap.size 0 (fun w' hC=>(((hBw93.ext hEw94).ext hC).all)) (zO _) (zx 8 (zq (zfA ((Nod.mt 0 1).setR 0 (wR1)) _) ?_)))
  rintro _ w95 ⟨rfl,hEw95⟩
  have hzw95:=hEw95.size
  refine ⟨.inr hEw95, ?_⟩
  refine zk (hw:=hEw95) hT1082 9 (vA (zaj (⟨1,(zR (zN ((Nod.mt 0 1).setR 0 (wR1)))),by decide⟩))) (zae (Instr.build 71 #[(0,(vB 1)),(1,(vA (zQ (zR (zN ((Nod.mt 0 1).setR 0 (wR1)))))))]) (fun w' hC=>zcE 1 (zR (zN ((Nod.mt 0 1).setR 0 (wR1)))) (by decide))) (zk (hw:=hEw95) hT1082 10 vF (zae (bo .neq 71 (.tmp 118) (.tmp 121) (vA (zaj ((wT1.getD 2 Un.zero).nd.es.get 1))) (vA (zaj (⟨1,(zR (zN ((Nod.mt 0 1).setR 0 (wR1)))),by decide⟩)))) (fun w' hC=>zap (r:=true) (T:=71) ((zcq (dd:=9997) (t:=71) (t8:=5) (td:=59) (e:=5) ((wT1.getD 2 Un.zero).nd.es.get 1) (⟨1,(zR (zN ((Nod.mt 0 1).setR 0 (wR1)))),by decide⟩)).trans (congrArg (fun b=>Result.ok b _) (show (((wT1.getD 2 Un.zero).nd.es.get 1).eqb (⟨1,(zR (zN ((Nod.mt 0 1).setR 0 (wR1)))),by decide⟩))=true from (Ent.eqb_iff _ _).2 zqI))))) (zD (zb (zh (zo (zb (ze (zaa 12 (fun w96 hEw96 hzw96 hT1105=> ?_)))))))))
  refine zaT hT1105 0 w15.heap.size 0 (fun w' hC=>((((hK91.ext hEw95).ext hEw96).ext hC).all)) ?_
  have hK93:=((((((((((((((((((((hBw6.ext hEw7).ext hEw8).ext hEw9).ext hEw10).ext hEw11).ext hEw12).ext hEw13).ext hEw14).ext hEw15).ext hX33).ext hEw87).ext hEw88).ext hEw89).ext hEw90).ext hEw91).ext hEw92).chg hCw93).ext hEw94).ext hEw95).ext hEw96)
  refine zal hT1105 2 w3.heap.size 0 (fun w' hC=>((hK93.ext hC).all)) (zaq _) (zbE 1 8 ?_ ?_)
  ·refine zq (zcD 4 _ (by first | omega | decide | exact UInt8.toNat_lt _)) ?_
   rintro _ w97 ⟨rfl,hEw97⟩
   have hzw97:=hEw97.size
   refine ⟨.inr hEw97, ?_⟩
   refine zbE 3 8 ?_ ?_
   ·have hK94:=(((hK92.ext hEw95).ext hEw96).ext hEw97)
    have hK95:=((((((((((hK84.ext hEw88).ext hEw89).ext hEw90).ext hEw91).ext hEw92).chg hCw93).ext hEw94).ext hEw95).ext hEw96).ext hEw97)
    have hK96:=((((((((((hK85.ext hEw88).ext hEw89).ext hEw90).ext hEw91).ext hEw92).chg hCw93).ext hEw94).ext hEw95).ext hEw96).ext hEw97)
    have hK97:=((((((((((hK86.ext hEw88).ext hEw89).ext hEw90).ext hEw91).ext hEw92).chg hCw93).ext hEw94).ext hEw95).ext hEw96).ext hEw97)
    refine zq (zdE 5 4 (zbf 4) (mkD 4) _ hK94 (by first | omega | decide) (by first | omega | decide) (by first | omega | decide) (za9 wO1) (zaZ (n:=5) wO1 rfl) (by first | omega | decide) hK95 hK96 hK97) ?_
    rintro _ w98 ⟨a21,rfl,hFz46_0,hEw98⟩
    have hzw98:=hEw98.size
    have hlea21:=hFz46_0.le
    rw [show zdz 5 wT1 4 (zbf 4) (mkD 4)=wT2 from wE1] at hFz46_0
    rw [show (za0 (wT1.getD (4/4) Un.zero) (4%4))=0 from wG1]
    have hX34:Ext w96 w98:=(hEw97.trans hEw98)
    refine ⟨.inr hX34, ?_⟩
    refine zg (hw:=hX34) hT1105 [(4,123,(.tuple #[(vA [(vI 5),(.slice a21 (tot 5) (tot 5))]),(vI 0),(vI 0)])),(5,128,(vA [(vI 5),(.slice a21 (tot 5) (tot 5))])),(6,129,(vI 0)),(7,130,(vI 0))] 4 (zx 8 (zaf ([(vI 0),(.slice none 0 0)]) 38 ?_))
    intro w99 hBw99 hEw99 hzw99 hlw99
    have hX35:Ext w96 w99:=((hEw97.trans hEw98).trans hEw99)
    refine ⟨.inr hX35, ?_⟩
    refine zx 9 (zG 38 w98.heap.size 0 38 (vA [(vI 5),(.slice a21 (tot 5) (tot 5))]) ([(vI 0),(.slice none 0 0)]) ([(vI 5),(.slice a21 (tot 5) (tot 5))]) hBw99 (by kernel_rfl) (by first | decide |(simp;done)|(simp;omega)) (by simp [Value.oneCell']) ?_)
    intro w100 hBw100 hCw100
    have hzw100:=hCw100.size
    rw [zy _ _ (by kernel_rfl)] at hBw100
    have hX36:Ext w96 w100:=(Ext.own ((hEw97.trans hEw98).trans hEw99) hCw100 (by omega))
    refine ⟨.inr hX36, ?_⟩
    refine zg (hw:=hX36) hT1105 [(10,10,(vI 0)),(11,4,(vI 0))] 2 (zD (zb (ze (zd (za (zT w98.heap.size 0 (hBw100.all) ?_))))))
    have hK98:=(((hK95.ext hEw98).ext hEw99).chg hCw100)
    have hK99:=(((hK96.ext hEw98).ext hEw99).chg hCw100)
    have hK100:=(((hK97.ext hEw98).ext hEw99).chg hCw100)
    refine za (zq (zer 5 _ ((hFz46_0.ext hEw99).chg hCw100) (by first | omega | decide) (by first | omega | decide) (by first | omega | decide) (za9 wO2) (zaZ (n:=5) wO2 rfl) hK98 hK99 hK100) ?_)
    rintro _ w101 ⟨a22,rfl,hFz47_0,hEw101⟩
    have hzw101:=hEw101.size
    have hlea22:=hFz47_0.le
    rw [show zbN (tot 5) wT2=wT3 from wE2] at hFz47_0
    refine zc 3 [(135,(vI 0)),(134,(vA [(vI 5),(.slice a22 (tot 5) (tot 5))])),(131,(.tuple #[(vA [(vI 5),(.slice a22 (tot 5) (tot 5))]),(vI 0)]))] (zan ([(vI 5),(.slice a22 (tot 5) (tot 5))]) 38 rfl (by simp [Value.oneCell']) ?_)
    intro w102 hBw102 hEw102 hzw102 hlw102
    refine zc 1 [(6,(vI 0))] (zf (zb (ze (zd (za (zT w101.heap.size 0 (hBw102.all) ?_))))))
    refine za (zq (zep 5 4 _ (hFz47_0.ext hEw102) (by first | omega | decide) (by first | omega | decide) (by first | omega | decide) (za9 wO3) (zaZ (n:=5) wO3 rfl) (by first | omega | decide) ((hK98.ext hEw101).ext hEw102) ((hK99.ext hEw101).ext hEw102) ((hK100.ext hEw101).ext hEw102)) ?_)
    rintro _ w103 ⟨rfl,hEw103⟩
    have hzw103:=hEw103.size
    rw [show za0 (wT3.getD (4/4) Un.zero) (4%4)=1 from wG3]
    refine zc 5 [(8,(vI 0)),(7,(vI 1)),(140,(vI 0)),(139,(vI 1)),(136,(.tuple #[(vI 1),(vI 0)]))] (zf (zb (ze (zd (zc 2 [(142,(vI 0)),(141,(vI 0))] (za (zn (some 143) .i64 (IntKind.i64.wrap (((0:Nat):Int)+((0:Nat):Int))) 0 (zu) ?_)))))))
    refine zc 1 [(144,(vI 0))] (za (zn (some 145) .i64 (IntKind.i64.wrap (((0:Nat):Int)+((0:Nat):Int))) 0 (zu) ?_))
    refine zc 3 [(148,(vI 0)),(147,vT),(146,vT)] (za (zah (some 149) (((0:Nat):Int)==((0:Nat):Int)) true (zau) ?_))
    refine zc 3 [(152,(vI 1)),(151,vT),(150,vT)] (za (zah (some 153) (((1:Nat):Int)==((1:Nat):Int)) true (zau) ?_))
    refine zc 3 [(156,(vP w101.heap.size 1)),(155,vT),(154,vT)] (za (zl w101.heap.size 1 ((hBw102.ext hEw103).cell rfl) ?_))
    refine zc 1 [(158,(vI (tot 5)))] (za (zah (some 159) ((((tot 5):Nat):Int)==((3:Nat):Int)) true (zau) ?_))
    refine zc 3 [(162,(vP w101.heap.size 1)),(161,vT),(160,vT)] (za (zl w101.heap.size 1 ((hBw102.ext hEw103).cell rfl) ?_))
    obtain ⟨b13,o13,rfl⟩:=hFz47_0.addr (by omega) (by decide)
    refine za (zai b13 o13 (tot 5) (tot 5) 1 280 ?_)
    refine zc 1 [(165,(vP b13 (o13+1*280+274)))] (za (zl b13 (o13+1*280+274) (((hFz47_0.ext hEw102).ext hEw103).cell (j:=274) (i:=1) Un.zero (by omega) (zbw _)) ?_))
    refine za (zah (some 167) ((wT3.getD 1 Un.zero).sl==((0:Nat):Int)) true (zau) ?_)
    refine zc 3 [(170,(vP w101.heap.size 1)),(169,vT),(168,vT)] (za (zl w101.heap.size 1 ((hBw102.ext hEw103).cell rfl) ?_))
    refine za (zai b13 o13 (tot 5) (tot 5) 2 280 ?_)
    refine zc 1 [(173,(vP b13 (o13+2*280+274)))] (za (zl b13 (o13+2*280+274) (((hFz47_0.ext hEw102).ext hEw103).cell (j:=274) (i:=2) Un.zero (by omega) (zbw _)) ?_))
    refine za (zah (some 175) ((wT3.getD 2 Un.zero).sl==((1:Nat):Int)) true (zau) ?_)
    refine zc 2 [(0,vT),(176,vT)] (zf (zb (zj (zm vT ?_))))
    have hX37:Ext w w103:=((((((((Ext.own (((((((((((((((((Ext.own (Ext.own (((hEw1.trans hEw2).trans hEw3).trans hEw4) hCw5 (by omega)) hCw6 (by omega)).trans hEw7).trans hEw8).trans hEw9).trans hEw10).trans hEw11).trans hEw12).trans hEw13).trans hEw14).trans hEw15).trans hX33).trans hEw87).trans hEw88).trans hEw89).trans hEw90).trans hEw91).trans hEw92) hCw93 (by omega)).trans hEw94).trans hEw95).trans hEw96).trans hX36).trans hEw101).trans hEw102).trans hEw103)
    exact ⟨rfl,hX37⟩
   ·refine zaf ([(vI 0),(.slice none 0 0)]) 38 ?_
    intro w104 hBw104 hEw104 hzw104 hlw104
    have hX38:Ext w96 w104:=(hEw97.trans hEw104)
    refine ⟨.inr hX38, ?_⟩
    have hK101:=((((hK92.ext hEw95).ext hEw96).ext hEw97).ext hEw104)
    have hK102:=(((((((((((hK84.ext hEw88).ext hEw89).ext hEw90).ext hEw91).ext hEw92).chg hCw93).ext hEw94).ext hEw95).ext hEw96).ext hEw97).ext hEw104)
    have hK103:=(((((((((((hK85.ext hEw88).ext hEw89).ext hEw90).ext hEw91).ext hEw92).chg hCw93).ext hEw94).ext hEw95).ext hEw96).ext hEw97).ext hEw104)
    have hK104:=(((((((((((hK86.ext hEw88).ext hEw89).ext hEw90).ext hEw91).ext hEw92).chg hCw93).ext hEw94).ext hEw95).ext hEw96).ext hEw97).ext hEw104)
    refine zx 3 (zq (zdE 5 4 (zbf 4) (mkD 4) _ hK101 (by first | omega | decide) (by first | omega | decide) (by first | omega | decide) (za9 wO1) (zaZ (n:=5) wO1 rfl) (by first | omega | decide) hK102 hK103 hK104) ?_)
    rintro _ w105 ⟨a23,rfl,hFz49_0,hEw105⟩
    have hzw105:=hEw105.size
    have hlea23:=hFz49_0.le
    rw [show zdz 5 wT1 4 (zbf 4) (mkD 4)=wT2 from wE1] at hFz49_0
    rw [show (za0 (wT1.getD (4/4) Un.zero) (4%4))=0 from wG1]
    have hX39:Ext w96 w105:=((hEw97.trans hEw104).trans hEw105)
    refine ⟨.inr hX39, ?_⟩
    refine zg (hw:=hX39) hT1105 [(4,123,(.tuple #[(vA [(vI 5),(.slice a23 (tot 5) (tot 5))]),(vI 0),(vI 0)])),(5,128,(vA [(vI 5),(.slice a23 (tot 5) (tot 5))])),(6,129,(vI 0)),(7,130,(vI 0))] 4 (zx 9 (zG 38 w97.heap.size 0 38 (vA [(vI 5),(.slice a23 (tot 5) (tot 5))]) ([(vI 0),(.slice none 0 0)]) ([(vI 5),(.slice a23 (tot 5) (tot 5))]) (hBw104.ext hEw105) (by kernel_rfl) (by first | decide |(simp;done)|(simp;omega)) (by simp [Value.oneCell']) ?_))
    intro w106 hBw106 hCw106
    have hzw106:=hCw106.size
    rw [zy _ _ (by kernel_rfl)] at hBw106
    have hX40:Ext w96 w106:=(Ext.own ((hEw97.trans hEw104).trans hEw105) hCw106 (by omega))
    refine ⟨.inr hX40, ?_⟩
    refine zg (hw:=hX40) hT1105 [(10,10,(vI 0)),(11,4,(vI 0))] 2 (zD (zb (ze (zd (za (zT w97.heap.size 0 (hBw106.all) ?_))))))
    refine za (zq (zer 5 _ (hFz49_0.chg hCw106) (by first | omega | decide) (by first | omega | decide) (by first | omega | decide) (za9 wO2) (zaZ (n:=5) wO2 rfl) ((hK102.ext hEw105).chg hCw106) ((hK103.ext hEw105).chg hCw106) ((hK104.ext hEw105).chg hCw106)) ?_)
    rintro _ w107 ⟨a24,rfl,hFz50_0,hEw107⟩
    have hzw107:=hEw107.size
    have hlea24:=hFz50_0.le
    rw [show zbN (tot 5) wT2=wT3 from wE2] at hFz50_0
    refine zc 3 [(135,(vI 0)),(134,(vA [(vI 5),(.slice a24 (tot 5) (tot 5))])),(131,(.tuple #[(vA [(vI 5),(.slice a24 (tot 5) (tot 5))]),(vI 0)]))] (zan ([(vI 5),(.slice a24 (tot 5) (tot 5))]) 38 rfl (by simp [Value.oneCell']) ?_)
    intro w108 hBw108 hEw108 hzw108 hlw108
    refine zc 1 [(6,(vI 0))] (zf (zb (ze (zd (za (zT w107.heap.size 0 (hBw108.all) ?_))))))
    have hK105:=((((hK102.ext hEw105).chg hCw106).ext hEw107).ext hEw108)
    have hK106:=((((hK103.ext hEw105).chg hCw106).ext hEw107).ext hEw108)
    have hK107:=((((hK104.ext hEw105).chg hCw106).ext hEw107).ext hEw108)
    refine za (zq (zep 5 4 _ (hFz50_0.ext hEw108) (by first | omega | decide) (by first | omega | decide) (by first | omega | decide) (za9 wO3) (zaZ (n:=5) wO3 rfl) (by first | omega | decide) hK105 hK106 hK107) ?_)
    rintro _ w109 ⟨rfl,hEw109⟩
    have hzw109:=hEw109.size
    rw [show za0 (wT3.getD (4/4) Un.zero) (4%4)=1 from wG3]
    refine zc 5 [(8,(vI 0)),(7,(vI 1)),(140,(vI 0)),(139,(vI 1)),(136,(.tuple #[(vI 1),(vI 0)]))] (zf (zb (ze (zd (zc 2 [(142,(vI 0)),(141,(vI 0))] (za (zn (some 143) .i64 (IntKind.i64.wrap (((0:Nat):Int)+((0:Nat):Int))) 0 (zu) ?_)))))))
    refine zc 1 [(144,(vI 0))] (za (zn (some 145) .i64 (IntKind.i64.wrap (((0:Nat):Int)+((0:Nat):Int))) 0 (zu) ?_))
    refine zc 3 [(148,(vI 0)),(147,vT),(146,vT)] (za (zah (some 149) (((0:Nat):Int)==((0:Nat):Int)) true (zau) ?_))
    refine zc 3 [(152,(vI 1)),(151,vT),(150,vT)] (za (zah (some 153) (((1:Nat):Int)==((1:Nat):Int)) true (zau) ?_))
    refine zc 3 [(156,(vP w107.heap.size 1)),(155,vT),(154,vT)] (za (zl w107.heap.size 1 ((hBw108.ext hEw109).cell rfl) ?_))
    refine zc 1 [(158,(vI (tot 5)))] (za (zah (some 159) ((((tot 5):Nat):Int)==((3:Nat):Int)) true (zau) ?_))
    refine zc 3 [(162,(vP w107.heap.size 1)),(161,vT),(160,vT)] (za (zl w107.heap.size 1 ((hBw108.ext hEw109).cell rfl) ?_))
    obtain ⟨b14,o14,rfl⟩:=hFz50_0.addr (by omega) (by decide)
    refine za (zai b14 o14 (tot 5) (tot 5) 1 280 ?_)
    refine zc 1 [(165,(vP b14 (o14+1*280+274)))] (za (zl b14 (o14+1*280+274) (((hFz50_0.ext hEw108).ext hEw109).cell (j:=274) (i:=1) Un.zero (by omega) (zbw _)) ?_))
    refine za (zah (some 167) ((wT3.getD 1 Un.zero).sl==((0:Nat):Int)) true (zau) ?_)
    refine zc 3 [(170,(vP w107.heap.size 1)),(169,vT),(168,vT)] (za (zl w107.heap.size 1 ((hBw108.ext hEw109).cell rfl) ?_))
    refine za (zai b14 o14 (tot 5) (tot 5) 2 280 ?_)
    refine zc 1 [(173,(vP b14 (o14+2*280+274)))] (za (zl b14 (o14+2*280+274) (((hFz50_0.ext hEw108).ext hEw109).cell (j:=274) (i:=2) Un.zero (by omega) (zbw _)) ?_))
    refine za (zah (some 175) ((wT3.getD 2 Un.zero).sl==((1:Nat):Int)) true (zau) ?_)
    refine zc 2 [(0,vT),(176,vT)] (zf (zb (zj (zm vT ?_))))
    have hX41:Ext w w109:=((((((((Ext.own (((((((((((((((((Ext.own (Ext.own (((hEw1.trans hEw2).trans hEw3).trans hEw4) hCw5 (by omega)) hCw6 (by omega)).trans hEw7).trans hEw8).trans hEw9).trans hEw10).trans hEw11).trans hEw12).trans hEw13).trans hEw14).trans hEw15).trans hX33).trans hEw87).trans hEw88).trans hEw89).trans hEw90).trans hEw91).trans hEw92) hCw93 (by omega)).trans hEw94).trans hEw95).trans hEw96).trans hX40).trans hEw107).trans hEw108).trans hEw109)
    exact ⟨rfl,hX41⟩
  ·refine zaf ([(vI 0),(.slice none 0 0)]) 38 ?_
   intro w110 hBw110 hEw110 hzw110 hlw110
   refine ⟨.inr hEw110, ?_⟩
   refine zx 1 (zq (zcD 4 _ (by first | omega | decide | exact UInt8.toNat_lt _)) ?_)
   rintro _ w111 ⟨rfl,hEw111⟩
   have hzw111:=hEw111.size
   have hX42:Ext w96 w111:=(hEw110.trans hEw111)
   refine ⟨.inr hX42, ?_⟩
   have hK108:=((((hK92.ext hEw95).ext hEw96).ext hEw110).ext hEw111)
   have hK109:=(((((((((((hK84.ext hEw88).ext hEw89).ext hEw90).ext hEw91).ext hEw92).chg hCw93).ext hEw94).ext hEw95).ext hEw96).ext hEw110).ext hEw111)
   have hK110:=(((((((((((hK85.ext hEw88).ext hEw89).ext hEw90).ext hEw91).ext hEw92).chg hCw93).ext hEw94).ext hEw95).ext hEw96).ext hEw110).ext hEw111)
   have hK111:=(((((((((((hK86.ext hEw88).ext hEw89).ext hEw90).ext hEw91).ext hEw92).chg hCw93).ext hEw94).ext hEw95).ext hEw96).ext hEw110).ext hEw111)
   refine zx 3 (zq (zdE 5 4 (zbf 4) (mkD 4) _ hK108 (by first | omega | decide) (by first | omega | decide) (by first | omega | decide) (za9 wO1) (zaZ (n:=5) wO1 rfl) (by first | omega | decide) hK109 hK110 hK111) ?_)
   rintro _ w112 ⟨a25,rfl,hFz53_0,hEw112⟩
   have hzw112:=hEw112.size
   have hlea25:=hFz53_0.le
   rw [show zdz 5 wT1 4 (zbf 4) (mkD 4)=wT2 from wE1] at hFz53_0
   rw [show (za0 (wT1.getD (4/4) Un.zero) (4%4))=0 from wG1]
   have hX43:Ext w96 w112:=((hEw110.trans hEw111).trans hEw112)
   refine ⟨.inr hX43, ?_⟩
   refine zg (hw:=hX43) hT1105 [(4,123,(.tuple #[(vA [(vI 5),(.slice a25 (tot 5) (tot 5))]),(vI 0),(vI 0)])),(5,128,(vA [(vI 5),(.slice a25 (tot 5) (tot 5))])),(6,129,(vI 0)),(7,130,(vI 0))] 4 (zx 9 (zG 38 w96.heap.size 0 38 (vA [(vI 5),(.slice a25 (tot 5) (tot 5))]) ([(vI 0),(.slice none 0 0)]) ([(vI 5),(.slice a25 (tot 5) (tot 5))]) ((hBw110.ext hEw111).ext hEw112) (by kernel_rfl) (by first | decide |(simp;done)|(simp;omega)) (by simp [Value.oneCell']) ?_))
   intro w113 hBw113 hCw113
   have hzw113:=hCw113.size
   rw [zy _ _ (by kernel_rfl)] at hBw113
   have hX44:Ext w96 w113:=(Ext.own ((hEw110.trans hEw111).trans hEw112) hCw113 (by omega))
   refine ⟨.inr hX44, ?_⟩
   refine zg (hw:=hX44) hT1105 [(10,10,(vI 0)),(11,4,(vI 0))] 2 (zD (zb (ze (zd (za (zT w96.heap.size 0 (hBw113.all) ?_))))))
   refine za (zq (zer 5 _ (hFz53_0.chg hCw113) (by first | omega | decide) (by first | omega | decide) (by first | omega | decide) (za9 wO2) (zaZ (n:=5) wO2 rfl) ((hK109.ext hEw112).chg hCw113) ((hK110.ext hEw112).chg hCw113) ((hK111.ext hEw112).chg hCw113)) ?_)
   rintro _ w114 ⟨a26,rfl,hFz54_0,hEw114⟩
   have hzw114:=hEw114.size
   have hlea26:=hFz54_0.le
   rw [show zbN (tot 5) wT2=wT3 from wE2] at hFz54_0
   refine zc 3 [(135,(vI 0)),(134,(vA [(vI 5),(.slice a26 (tot 5) (tot 5))])),(131,(.tuple #[(vA [(vI 5),(.slice a26 (tot 5) (tot 5))]),(vI 0)]))] (zan ([(vI 5),(.slice a26 (tot 5) (tot 5))]) 38 rfl (by simp [Value.oneCell']) ?_)
   intro w115 hBw115 hEw115 hzw115 hlw115
   refine zc 1 [(6,(vI 0))] (zf (zb (ze (zd (za (zT w114.heap.size 0 (hBw115.all) ?_))))))
   have hK112:=((((hK109.ext hEw112).chg hCw113).ext hEw114).ext hEw115)
   have hK113:=((((hK110.ext hEw112).chg hCw113).ext hEw114).ext hEw115)
   have hK114:=((((hK111.ext hEw112).chg hCw113).ext hEw114).ext hEw115)
   refine za (zq (zep 5 4 _ (hFz54_0.ext hEw115) (by first | omega | decide) (by first | omega | decide) (by first | omega | decide) (za9 wO3) (zaZ (n:=5) wO3 rfl) (by first | omega | decide) hK112 hK113 hK114) ?_)
   rintro _ w116 ⟨rfl,hEw116⟩
   have hzw116:=hEw116.size
   rw [show za0 (wT3.getD (4/4) Un.zero) (4%4)=1 from wG3]
   refine zc 5 [(8,(vI 0)),(7,(vI 1)),(140,(vI 0)),(139,(vI 1)),(136,(.tuple #[(vI 1),(vI 0)]))] (zf (zb (ze (zd (zc 2 [(142,(vI 0)),(141,(vI 0))] (za (zn (some 143) .i64 (IntKind.i64.wrap (((0:Nat):Int)+((0:Nat):Int))) 0 (zu) ?_)))))))
   refine zc 1 [(144,(vI 0))] (za (zn (some 145) .i64 (IntKind.i64.wrap (((0:Nat):Int)+((0:Nat):Int))) 0 (zu) ?_))
   refine zc 3 [(148,(vI 0)),(147,vT),(146,vT)] (za (zah (some 149) (((0:Nat):Int)==((0:Nat):Int)) true (zau) ?_))
   refine zc 3 [(152,(vI 1)),(151,vT),(150,vT)] (za (zah (some 153) (((1:Nat):Int)==((1:Nat):Int)) true (zau) ?_))
   refine zc 3 [(156,(vP w114.heap.size 1)),(155,vT),(154,vT)] (za (zl w114.heap.size 1 ((hBw115.ext hEw116).cell rfl) ?_))
   refine zc 1 [(158,(vI (tot 5)))] (za (zah (some 159) ((((tot 5):Nat):Int)==((3:Nat):Int)) true (zau) ?_))
   refine zc 3 [(162,(vP w114.heap.size 1)),(161,vT),(160,vT)] (za (zl w114.heap.size 1 ((hBw115.ext hEw116).cell rfl) ?_))
   obtain ⟨b15,o15,rfl⟩:=hFz54_0.addr (by omega) (by decide)
   refine za (zai b15 o15 (tot 5) (tot 5) 1 280 ?_)
   refine zc 1 [(165,(vP b15 (o15+1*280+274)))] (za (zl b15 (o15+1*280+274) (((hFz54_0.ext hEw115).ext hEw116).cell (j:=274) (i:=1) Un.zero (by omega) (zbw _)) ?_))
   refine za (zah (some 167) ((wT3.getD 1 Un.zero).sl==((0:Nat):Int)) true (zau) ?_)
   refine zc 3 [(170,(vP w114.heap.size 1)),(169,vT),(168,vT)] (za (zl w114.heap.size 1 ((hBw115.ext hEw116).cell rfl) ?_))
   refine za (zai b15 o15 (tot 5) (tot 5) 2 280 ?_)
   refine zc 1 [(173,(vP b15 (o15+2*280+274)))] (za (zl b15 (o15+2*280+274) (((hFz54_0.ext hEw115).ext hEw116).cell (j:=274) (i:=2) Un.zero (by omega) (zbw _)) ?_))
   refine za (zah (some 175) ((wT3.getD 2 Un.zero).sl==((1:Nat):Int)) true (zau) ?_)
   refine zc 2 [(0,vT),(176,vT)] (zf (zb (zj (zm vT ?_))))
   have hX45:Ext w w116:=((((((((Ext.own (((((((((((((((((Ext.own (Ext.own (((hEw1.trans hEw2).trans hEw3).trans hEw4) hCw5 (by omega)) hCw6 (by omega)).trans hEw7).trans hEw8).trans hEw9).trans hEw10).trans hEw11).trans hEw12).trans hEw13).trans hEw14).trans hEw15).trans hX33).trans hEw87).trans hEw88).trans hEw89).trans hEw90).trans hEw91).trans hEw92) hCw93 (by omega)).trans hEw94).trans hEw95).trans hEw96).trans hX44).trans hEw114).trans hEw115).trans hEw116)
   exact ⟨rfl,hX45⟩
end Go.Proofs.YtkmhgepdhilllaaGreatDoor
namespace Go.Proofs.YtkmhgepdhilllaaGreatDoor
open Go Go.RowKit Go.Cs
set_option maxRecDepth 100000
theorem zzF (n:Int) {lo_t hi_t:Nat} {a_t:Option Addr} {n_t c_t:Nat} {t:List Nod} {lo_z hi_z:Nat} {a_z:Option Addr} {n_z c_z:Nat} {z:List Int} (w:World) (h_t:Ms zJ 274 lo_t hi_t w a_t n_t c_t t) (h_z:Es (iv .i64) lo_z hi_z w a_z n_z c_z z) (hg0:Gl 0 [vI 45,vI 33] w) (hg1:Gl 1 (w8C zbm) w) (hg2:Gl 3 (zax kA) w) (hg3:Gl 2 [.iface 227 (.agg #[.pointer (some ⟨4,160,none⟩)])] w):
  Calls Tryz.prog 12 #[(vA [(.int .i64 n),(.slice a_t n_t c_t)]),(.slice a_z n_z c_z)] w (Ret fun r w'=>∃(a0:Int) (a1:Option Addr) (na1:Nat) (ca1:Nat),r=(.tuple #[(vA [(.int .i64 a0),(.slice a1 na1 ca1)]),(vI (zhQ n t z))])∧(zhQ n t z=0∨(a0=0∧na1=0))∧Ext w w'):=by
 have hlt:=h_t.len_eq;have hlz:=h_z.len_eq
 by_cases hv:zhQ n t z=0
 ·have h2:zgm n t z=0:=Classical.byContradiction fun hh=>hh ((zwj hh).symm.trans hv)
  obtain ⟨f1,f2,f3⟩:=zlI h2
  have h6:1≤n∧n≤4096∧t.length=tot n.toNat:=Classical.byContradiction fun hh=>by rw [zqF hh] at f1;cases f1
  obtain ⟨m,rfl⟩:=Int.eq_ofNat_of_zero_le (show 0≤n by omega)
  rw [Int.toNat_natCast] at h6
  have hq:=hv;rw [zkV,if_neg (fun hh=>hh h2),←hlt] at hq
  rw [zf5 (by omega) (by omega) h6.2.2] at f1
  refine zwG (zuQ m w h_t h_z (by omega) (by omega) (by omega) f1 (by omega) f3 hq hg0 hg1 hg2 hg3) ?_
  rintro r w' ⟨a,rfl,hM,hE⟩
  rw [hv]
  exact ⟨_,_,_,_,rfl, .inl rfl,hE⟩
 ·refine zwG (zzE n w h_t h_z hv hg0 hg1 hg2 hg3) ?_
  rintro r w' ⟨rfl,hE⟩
  exact ⟨0,_,_,_,rfl, .inr ⟨rfl,rfl⟩,hE⟩
set_option maxHeartbeats 4000000 in
theorem zzk (k:Nat) {lo_p hi_p:Nat} {a_p:Option Addr} {n_p c_p:Nat} {p:List (UInt8×UInt8)} {lo_s hi_s:Nat} {a_s:Option Addr} {n_s c_s:Nat} {s:List UInt8} {lo_z hi_z:Nat} {a_z:Option Addr} {n_z c_z:Nat} {z:List Int} (x:ZU) (w:World) (h_p:Ms b2C 2 lo_p hi_p w a_p n_p c_p p) (h_s:Bs lo_s hi_s w a_s n_s c_s s) (h_z:Es (iv .i64) lo_z hi_z w a_z n_z c_z z) (hp0:k<256) (hg0:Gl 0 [vI 45,vI 33] w) (hg1:Gl 1 (w8C zbm) w) (hg2:Gl 3 (zax kA) w) (hg3:Gl 2 [.iface 227 (.agg #[.pointer (some ⟨4,160,none⟩)])] w):
  Calls Tryz.prog 6 #[(vA [(vB k),(.slice a_p n_p c_p),(.slice a_s n_s c_s)]),(.slice a_z n_z c_z),(vA (zuC x))] w (Ret fun r w'=>r=vT∧Ext w w'):=by
 refine zC (n:=157) (σ:= [(0,(vA [(vB k),(.slice a_p n_p c_p),(.slice a_s n_s c_s)])),(1,(.slice a_z n_z c_z)),(2,(vA (zuC x)))]) Tryz.func6 rfl ?_
 replace h_p:=h_p.now;have hle_p:=h_p.le
 replace h_s:=h_s.now;have hle_s:=h_s.le
 replace h_z:=h_z.now;have hle_z:=h_z.le
 have hgl0:=hg0.lt
 have hgl1:=hg1.lt
 have hgl2:=hg2.lt
 have hgl3:=hg3.lt
 have hbk:=zgF k
 have h5:=zat (zH k)
 have hts:=zaC (n:=zH k) (by omega)
 have htp:=zcv (n:=zH k) (by omega) (by omega)
 have hlz0:=h_z.len_eq
 have hxo:=x.hot
 have hlM:=zhs (zfs p (zH k)) (zeX s (tot (zH k)));rw [ze1] at hlM
 have hib:x.ot/2%tot (zH k)<tot (zH k):=Nat.mod_lt _ (by omega)
 refine ze (zd (za (zab (Instr.box 25 (vA [(vB k),(.slice a_p n_p c_p),(.slice a_s n_s c_s)])) (vP w.heap.size 0) ([(vB k),(.slice a_p n_p c_p),(.slice a_s n_s c_s)]) 25 ?_)))
 intro w1 hBw1 hEw1 hzw1 hlw1
 refine za (zab (Instr.box 79 (vA (zuC x))) (vP w1.heap.size 0) (zuC x) 79 ?_)
 intro w2 hBw2 hEw2 hzw2 hlw2
 refine zc 1 [(6,vF)] (zf (zb (ze (ze (zd (zc 2 [(17,(vI n_z)),(16,(.slice a_z n_z c_z))] (za (zE (some 18) (decide (((n_z:Nat):Int)>((20:Nat):Int))) (fun hc18=> ?_) (fun hc18=> ?_)))))))))
 ·replace hc18:n_z>20:=by have:=zac hc18;omega
  refine zf (zb (zv (ze (zd (za (zq (zpw _ ((hg0.ext hEw1).ext hEw2) ((hg1.ext hEw1).ext hEw2) ((hg2.ext hEw1).ext hEw2) ((hg3.ext hEw1).ext hEw2)) ?_))))))
  rintro _ w3 ⟨rfl,hEw3⟩
  have hzw3:=hEw3.size
  exact zc 1 [(6,vT)] (zf (zb (zj (zw (zm vT (⟨rfl,((hEw1.trans hEw2).trans hEw3)⟩))))))
 ·replace hc18:¬(n_z>20):=by have:=zad hc18;omega
  refine zf (zb (zh (zo (zb (ze (zd (za (zT w.heap.size 0 ((hBw1.ext hEw2).all) ?_))))))))
  refine za (zq (zzt k _ ((h_p.ext hEw1).ext hEw2) ((h_s.ext hEw1).ext hEw2) (by omega)) ?_)
  rintro _ w4 ⟨a1,ca1,rfl,hFz2_0,hEw4⟩
  have hzw4:=hEw4.size
  have hma1:=hFz2_0.ms;have hlea1:=hma1.le
  refine zan ([(vI (zH k)),(.slice a1 (tot (zH k)) ca1)]) 44 rfl (by simp [Value.oneCell']) ?_
  intro w5 hBw5 hEw5 hzw5 hlw5
  refine zf (zb ?_)
  obtain ⟨ts,hts⟩:∃ts,ts=if x.ot%2=1 then (zam (zfs p (zH k)) (zeX s (tot (zH k)))).set (x.ot/2%(tot (zH k))) x.nd.nd else (zam (zfs p (zH k)) (zeX s (tot (zH k)))):=⟨_,rfl⟩
  have hlts:ts.length=(tot (zH k)):=by rw [hts];split<;>simp only [List.length_set,zhs,ze1]
  refine zwZ (X:=Option Addr×Nat) (fun ⟨a7,c7⟩=> []) [22,23,24,25,26,27,28,29,30,31,32,33,34,35,36,37,38,39] (fun ⟨a7,c7⟩ w6=>Blk w6 w4.heap.size ([(vI (zH k)),(.slice a7 (tot (zH k)) c7)]) 44∧Ms zJ 274 w.heap.size w6.heap.size w6 a7 (tot (zH k)) c7 ts∧Ext w w6) ?_ ?_
  ·refine ze (zd (zc 1 [(22,(vP w1.heap.size 281))] (za (zl w1.heap.size 281 (((hBw2.ext hEw4).ext hEw5).cell (zyJ _)) ?_))))
   refine za (zn (some 24) .u8 (((x.ot:Nat):Int).tmod ((2:Nat):Int)) (x.ot%2) (zcZ _ _) ?_)
   refine za (zE (some 25) ((((x.ot%2:Nat):Int)==((1:Nat):Int))) (fun hc25=> ?_) (fun hc25=> ?_))
   ·replace hc25:x.ot%2=1:=by have:=zbD hc25;omega
    refine zf (zb (zv (zaa 15 (fun w7 hEw7 hzw7 hT80=> ?_))))
    refine zg hT80 [(0,26,(vP w4.heap.size 1))] 1 (zt hT80 1 w4.heap.size 1 (fun w' hC=>(((hBw5.ext hEw7).ext hC).cell rfl)) (zg hT80 [(2,28,(vP w1.heap.size 281))] 1 ?_))
    have hK1:=(((hBw2.ext hEw4).ext hEw5).ext hEw7)
    refine zt hT80 3 w1.heap.size 281 (fun w' hC=>((hK1.ext hC).cell (zyJ _))) (zk hT80 4 (vB (x.ot/2)) (zY .u8 (IntKind.u8.wrap (((x.ot:Nat):Int).tdiv ((2:Nat):Int))) (zbA rfl (zed _ _) (by show _<2^8;omega))) (zk hT80 5 (vI (x.ot/2)) (zY .i64 (IntKind.i64.wrap ((x.ot/2:Nat):Int)) (zu rfl)) (zg hT80 [(6,32,(vP w4.heap.size 1))] 1 (zt hT80 7 w4.heap.size 1 (fun w' hC=>(((hBw5.ext hEw7).ext hC).cell rfl)) (zg hT80 [(8,34,(vI (tot (zH k))))] 1 (zk hT80 9 (vI ((x.ot/2)%(tot (zH k)))) (zae (bo .rem 3 (.tmp 31) (.tmp 34) (vI (x.ot/2)) (vI (tot (zH k)))) (fun w' hC=>zrY (by omega))) (zg hT80 [(10,36,(vP w1.heap.size 0)),(11,37,(vP w1.heap.size 0))] 2 (zal hT80 12 w1.heap.size 0 (fun w' hC=>((hK1.ext hC).at 0 (zJ x.nd.nd) (zyo _))) (zO _) ?_))))))))
    have hqb1:=((hFz2_0.ext hEw5).ext hEw7).ms.len_eq
    obtain ⟨b1,r1,rfl,hBb1,hrb1,hlob1,hhib1,hcpb1,hmxb1⟩:=((hFz2_0.ext hEw5).ext hEw7).row_of (by omega)
    have hlb1:=hBb1.lt
    refine zag hT80 13 b1 0 (tot (zH k)) ca1 ((x.ot/2)%(tot (zH k))) 274 (zx 14 (zG 74 b1 (0+((x.ot/2)%(tot (zH k)))*274) 74 (vA (zJ x.nd.nd)) ((zam (zfs p (zH k)) (zeX s (tot (zH k)))).flatMap zJ++r1) (zJ x.nd.nd) hBb1 (by rw [zO];kernel_rfl) (by (try simp only [List.length_append,List.length_cons,List.length_nil,List.length_set]);(try rw [zaD zO]);(try simp only [List.length_set]);have:=hqb1;(try rw [zO]);omega) (zcb _) ?_))
    intro w8 hBw8 hCw8
    have hzw8:=hCw8.size
    rw [show (zU ((zam (zfs p (zH k)) (zeX s (tot (zH k)))).flatMap zJ++r1) (0+((x.ot/2)%(tot (zH k)))*274) (zJ x.nd.nd):List Value)=((zam (zfs p (zH k)) (zeX s (tot (zH k)))).set ((x.ot/2)%(tot (zH k))) x.nd.nd).flatMap zJ++r1 from (by have hz:=zcf zO Nod.zero x.nd.nd (zam (zfs p (zH k)) (zeX s (tot (zH k)))) ((x.ot/2)%(tot (zH k))) 0 (zJ x.nd.nd) r1 (by (try simp only [List.length_set]);omega) (zy _ _ (by rw [zO,zO])) (by (try simp only [List.length_cons,List.length_nil]);(try rw [zO]);omega);rw [show 0+((x.ot/2)%(tot (zH k)))*274=((x.ot/2)%(tot (zH k)))*274+0 from by omega];exact hz),show ((zam (zfs p (zH k)) (zeX s (tot (zH k)))).set ((x.ot/2)%(tot (zH k))) x.nd.nd)=((zam (zfs p (zH k)) (zeX s (tot (zH k)))).set (x.ot/2%(tot (zH k))) x.nd.nd) from rfl] at hBw8
    have hmw8:Ms zJ 274 w2.heap.size w4.heap.size w8 (pA b1 0) (tot (zH k)) ca1 ((zam (zfs p (zH k)) (zeX s (tot (zH k)))).set (x.ot/2%(tot (zH k))) x.nd.nd):=Ms.of_pre (r:=r1) (by exact hBw8) zO (by (try simp only [List.length_set]);omega) (by omega) (by simp only [maxLen] at*;omega) (by omega) (by omega)
    refine ⟨.inl (by kernel_rfl), ?_⟩
    refine zD (zz ?_)
    have hX1:Ext w w8:=(Ext.own ((((hEw1.trans hEw2).trans hEw4).trans hEw5).trans hEw7) hCw8 (by omega))
    exact zxf ((pA b1 0),ca1) (⟨((hBw5.ext hEw7).chg hCw8),by rw [hts,if_pos hc25];exact (hmw8).now.mono (by omega) (Nat.le_refl _),hX1⟩)
   ·replace hc25:¬(x.ot%2=1):=by have:=zbC hc25;omega
    refine zf (zb (zh (zo (zz ?_))))
    have hX2:Ext w w5:=(((hEw1.trans hEw2).trans hEw4).trans hEw5)
    exact zxf (a1,ca1) (⟨hBw5,by rw [hts,if_neg hc25];exact ((hma1.ext hEw5)).now.mono (by omega) (Nat.le_refl _),hX2⟩)
  rintro ⟨a7,c7⟩ dw6 w6 ⟨hJ7,hM7,hEj⟩
  have hzj:=hEj.size
  have hJl7:=hJ7.lt
  have hM7e:=hM7.le
  refine ze (zd (zc 1 [(40,(vP w4.heap.size 0))] (za (zl w4.heap.size 0 (hJ7.cell rfl) ?_))))
  refine zc 1 [(42,(vP w4.heap.size 1))] (za (zl w4.heap.size 1 (hJ7.cell rfl) ?_))
  refine za (zq (zzG ((zH k:Nat):Int) _ hM7) ?_)
  rintro _ w9 ⟨rfl,hEw9⟩
  have hzw9:=hEw9.size
  refine zc 1 [(8,(vI (zem ((zH k:Nat):Int) ts)))] (zf (zb (zwZ (X:=Nat) (fun e6=> [(8,(vI e6))]) [45,46,47,48,49,50,51,52,53,54] (fun e6 w10=>e6=znu ((zH k:Nat):Int) ts z.length∧Ext w9 w10) ?_ ?_)))
  ·refine ze (zd (zc 1 [(45,(vI (zem ((zH k:Nat):Int) ts)))] (za (zE (some 46) ((((zem ((zH k:Nat):Int) ts:Nat):Int)==((0:Nat):Int))) (fun hc46=> ?_) (fun hc46=> ?_)))))
   ·replace hc46:zem ((zH k:Nat):Int) ts=0:=by have:=zbD hc46;omega
    refine zc 4 [(50,(vP w4.heap.size 1)),(49,(vI n_z)),(48,(.slice a_z n_z c_z)),(47,vT)] (za (zl w4.heap.size 1 ((hJ7.ext hEw9).cell rfl) ?_))
    refine zc 1 [(52,(vI (tot (zH k))))] (za (zE (some 53) ((((n_z:Nat):Int) !=(((tot (zH k)):Nat):Int))) (fun hc53=> ?_) (fun hc53=> ?_)))
    ·replace hc53:¬(n_z=(tot (zH k))):=by have:=zbT hc53;omega
     exact zc 1 [(54,vT)] (zf (zb (zv (zd (zc 1 [(8,(vI 1))] (zf (zz (zxf (1) (⟨by unfold znu;rw [if_neg (fun hh=>hh hc46),if_neg (by omega)],(Ext.refl _)⟩)))))))))
    ·replace hc53:n_z=(tot (zH k)):=by have:=zbU hc53;omega
     exact zc 1 [(54,vF)] (zf (zb (zh (zo (zz (zxf (zem ((zH k:Nat):Int) ts) (⟨by unfold znu;rw [if_neg (fun hh=>hh hc46),if_pos (by omega)];exact hc46,(Ext.refl _)⟩)))))))
   ·replace hc46:¬(zem ((zH k:Nat):Int) ts=0):=by have:=zbC hc46;omega
    exact zc 8 [(54,vF),(53,undef),(52,undef),(51,undef),(50,undef),(49,undef),(48,undef),(47,vF)] (zf (zb (zh (zo (zz (zxf (zem ((zH k:Nat):Int) ts) (⟨by unfold znu;rw [if_pos hc46],(Ext.refl _)⟩)))))))
  rintro e6 dw10 w10 ⟨he6,hEj54⟩
  have hzhEj54:=hEj54.size
  refine zwZ (X:=Nat) (fun e7q=> [(8,(vI e7q))]) [9,55,56,57,58,59,60,61,62,63,64,65,66,67,68,69,70,71,72,73,74,75,76] (fun e7q w11=>e7q=zgm ((zH k:Nat):Int) ts z∧Ext w10 w11) ?_ ?_
  ·refine ze (zd (zc 1 [(9,(vI 0))] (zf (zb (zr (zW (X:=Nat×Nat) (fun ⟨i,e7⟩=> [(8,(vI e7)),(9,(vI i))]) [55,56,57,58,59,60,61,62,63,64,65,66,67,68,69,70,71,72,73,74,75,76] (fun ⟨i,e7⟩ w12=>i≤n_z∧((e7=0∧e6=0∧∀q,q<i→z.getD q 0=0∨z.getD q 0=1)∨(e7≠0∧e7=zgm ((zH k:Nat):Int) ts z))∧Ext w10 w12) (fun ⟨i,e7⟩=>n_z-i) (0,e6) (by kernel_rfl) ⟨Nat.zero_le _,(if h0:e6=0 then .inl ⟨h0,h0,fun q hq=>absurd hq (Nat.not_lt_zero _)⟩ else .inr ⟨h0,by unfold zgm;rw [←he6,if_pos h0]⟩),Ext.refl _⟩ ?_))))))
   rintro ⟨i,e7⟩ dw12 w12 ⟨hi,hst,hEl⟩
   have hzl:=hEl.size
   refine ze (ze (zd (zc 3 [(57,(vI n_z)),(56,(.slice a_z n_z c_z)),(55,(vI i))] (za (zE (some 58) (decide (((i:Nat):Int)<((n_z:Nat):Int))) (fun hc58=> ?_) (fun hc58=> ?_))))))
   ·replace hc58:i<n_z:=by have:=zac hc58;omega
    refine zc 2 [(60,(vI e7)),(59,vT)] (za (zE (some 61) ((((e7:Nat):Int)==((0:Nat):Int))) (fun hc61=> ?_) (fun hc61=> ?_)))
    ·replace hc61:e7=0:=by have:=zbD hc61;omega
     have hin:=(hst.resolve_right (fun hh=>hh.1 hc61)).2
     refine zc 1 [(62,vT)] (zf (zb (zv (zo (zb (ze (zr (ze (zd ?_)))))))))
     refine zc 2 [(66,(vI i)),(65,(.slice a_z n_z c_z))] ?_
     obtain ⟨b2,o1,rfl⟩:=h_z.addr (by omega)
     refine za (zai b2 o1 n_z c_z i 1 ?_)
     have hK2:=((((h_z.ext hEj).ext hEw9).ext hEj54).ext hEl)
     refine za (zl b2 (o1+i*1) (hK2.celli (by omega)) ?_)
     refine za (zE (some 69) ((gz z i !=((0:Nat):Int))) (fun hc69=> ?_) (fun hc69=> ?_))
     ·replace hc69:¬(gz z i=((0:Nat):Int)):=by have:=zbT hc69;omega
      refine zc 3 [(72,(vI i)),(71,(.slice (pA b2 o1) n_z c_z)),(70,vT)] (za (zai b2 o1 n_z c_z i 1 ?_))
      refine za (zl b2 (o1+i*1) (hK2.celli (by omega)) ?_)
      refine za (zE (some 75) ((gz z i !=((1:Nat):Int))) (fun hc75=> ?_) (fun hc75=> ?_))
      ·replace hc75:¬(gz z i=((1:Nat):Int)):=by have:=zbT hc75;omega
       refine zc 1 [(76,vT)] (zf (zb (zv (zd (zc 1 [(8,(vI 1))] (zf (zi (zb (zd ?_)))))))))
       refine zc 1 [(63,(vI i))] (za (zn (some 64) .i64 (IntKind.i64.wrap (((i:Nat):Int)+((1:Nat):Int))) (i+1) (zu) ?_))
       refine zc 1 [(9,(vI (i+1)))] (zf (zz (zL (i+1,1) ?_ ?_)))
       ·exact ⟨by omega, .inr ⟨by decide,by unfold zgm;rw [←he6,if_neg (fun hh=>hh hin.1),if_neg (fun hh=>by have hq:=zm0.1 hh i;unfold gz at hc69 hc75;omega)]⟩,hEl⟩
       ·first | omega |(dsimp only;omega)
      ·replace hc75:gz z i=((1:Nat):Int):=by have:=zbU hc75;omega
       refine zc 1 [(76,vF)] (zf (zb (zh (zo (zi (zb (zd (zc 1 [(63,(vI i))] (za (zn (some 64) .i64 (IntKind.i64.wrap (((i:Nat):Int)+((1:Nat):Int))) (i+1) (zu) ?_))))))))))
       refine zc 1 [(9,(vI (i+1)))] (zf (zz (zL (i+1,e7) ?_ ?_)))
       ·exact ⟨by omega, .inl ⟨hc61,hin.1,fun q hq=>by rcases Nat.lt_succ_iff_lt_or_eq.1 hq with h1 | rfl;exact hin.2 q h1;unfold gz at hc69 hc75;omega⟩,hEl⟩
       ·first | omega |(dsimp only;omega)
     ·replace hc69:gz z i=((0:Nat):Int):=by have:=zbU hc69;omega
      refine zc 7 [(76,vF),(75,undef),(74,undef),(73,undef),(72,undef),(71,undef),(70,vF)] (zf (zb (zh (zo (zi (zb (zd (zc 1 [(63,(vI i))] (za (zn (some 64) .i64 (IntKind.i64.wrap (((i:Nat):Int)+((1:Nat):Int))) (i+1) (zu) ?_))))))))))
      refine zc 1 [(9,(vI (i+1)))] (zf (zz (zL (i+1,e7) ?_ ?_)))
      ·exact ⟨by omega, .inl ⟨hc61,hin.1,fun q hq=>by rcases Nat.lt_succ_iff_lt_or_eq.1 hq with h1 | rfl;exact hin.2 q h1;unfold gz at hc69;omega⟩,hEl⟩
      ·first | omega |(dsimp only;omega)
    ·replace hc61:¬(e7=0):=by have:=zbC hc61;omega
     refine zc 1 [(62,vF)] (zf (zb (zh (zP (zp (zp (zF (zz (zxf (e7) ?_)))))))))
     exact ⟨(hst.resolve_left (fun hh=>hc61 hh.1)).2,hEl⟩
   ·replace hc58:¬(i<n_z):=by have:=zad hc58;omega
    refine zc 4 [(62,vF),(61,undef),(60,undef),(59,vF)] (zf (zb (zh (zP (zp (zp (zF (zz (zxf (e7) ?_)))))))))
    exact ⟨hst.elim (fun ⟨h0,h1,h2⟩=>by rw [h0];unfold zgm;rw [←he6,if_neg (fun hh=>hh h1),if_pos (zm0.2 fun q=>by rcases Nat.lt_or_ge q n_z with h3 | h3;exact h2 q (by omega);left;rw [List.getD_eq_getElem?_getD,List.getElem?_eq_none (by omega)];rfl)]) (fun hh=>hh.2),hEl⟩
  rintro e7q dw11 w11 ⟨he7,hEj0⟩
  have hzhEj0:=hEj0.size
  refine zwZ (X:=Nat) (fun e9=> [(8,(vI e9))]) [10,11,12,13,77,78,79,80,81,82,83,84,85,86,87,88,89,90,91,92,93,94,95,96,97,98,99,100,101,102,103,104,105,106,107,108,109,110,111,112,113,114,115,116,117,118,119,120,121,122,123,124,125,126,127,128,129,130,131] (fun e9 w13=>e9=zhQ ((zH k:Nat):Int) ts z∧Ext w11 w13) ?_ ?_
  ·refine ze (zd (zc 1 [(10,(vI 0))] (zf (zb (zr (zW (X:=Nat×Nat) (fun ⟨j,e8⟩=> [(8,(vI e8)),(10,(vI j))]) [11,12,13,77,78,79,80,81,82,83,84,85,86,87,88,89,90,91,92,93,94,95,96,97,98,99,100,101,102,103,104,105,106,107,108,109,110,111,112,113,114,115,116,117,118,119,120,121,122,123,124,125,126,127,128,129,130,131] (fun ⟨j,e8⟩ w14=>j≤(tot (zH k))-1∧((e8=0∧zgm ((zH k:Nat):Int) ts z=0∧∀q,q<j→¬zje (zH k) ts z q)∨(e8≠0∧e8=zhQ ((zH k:Nat):Int) ts z))∧Ext w11 w14) (fun ⟨j,e8⟩=>(tot (zH k))-1-j) (0,e7q) (by kernel_rfl) ⟨Nat.zero_le _,(if h0:e7q=0 then .inl ⟨h0,he7.symm.trans h0,fun q hq=>absurd hq (Nat.not_lt_zero _)⟩ else .inr ⟨h0,he7.trans (zwj (by rw [←he7];exact h0)).symm⟩),Ext.refl _⟩ ?_))))))
   rintro ⟨j,e8⟩ dw14 w14 ⟨hj,hsu,hEm⟩
   have hzm:=hEm.size
   refine ze (ze (zd (zc 2 [(78,(vP w4.heap.size 1)),(77,(vI j))] ?_)))
   have hK3:=((((hJ7.ext hEw9).ext hEj54).ext hEj0).ext hEm)
   refine za (zl w4.heap.size 1 (hK3.cell rfl) ?_)
   refine zc 1 [(80,(vI (tot (zH k))))] (za (zn (some 81) .i64 (IntKind.i64.wrap ((((tot (zH k)):Nat):Int)-((1:Nat):Int))) ((tot (zH k))-1) (zu) ?_))
   refine za (zE (some 82) (decide (((j:Nat):Int)<(((tot (zH k))-1:Nat):Int))) (fun hc82=> ?_) (fun hc82=> ?_))
   ·replace hc82:j<(tot (zH k))-1:=by have:=zac hc82;omega
    refine zc 2 [(84,(vI e8)),(83,vT)] (za (zE (some 85) ((((e8:Nat):Int)==((0:Nat):Int))) (fun hc85=> ?_) (fun hc85=> ?_)))
    ·replace hc85:e8=0:=by have:=zbD hc85;omega
     have hin2:=(hsu.resolve_right (fun hh=>hh.1 hc85)).2
     have hq2:=zlI hin2.1
     obtain ⟨lv,li,hlv,hli,hjl⟩:=zpQ (n:=zH k) (k:=j) (by omega) (by omega) (by omega)
     have htre:zbR (zH k) ts=0:=by rw [←zf5 (by omega) (by omega) hlts];exact hq2.1
     obtain ⟨hnv,hni,hnf⟩:=zcU (zcB htre (Nat.le_of_lt hlv) hli)
     have hnv:(ts.getD j Nod.zero).lv=lv:=by rw [hjl];exact hnv
     have hni:(ts.getD j Nod.zero).ix=li:=by rw [hjl];exact hni
     have hup:=zoL hlv hli
     have hnn:num (zH k) ((ts.getD j Nod.zero).lv+1)=num (zH k) (lv+1):=by rw [hnv]
     have hpu:=zaG (n:=zH k) (l:=lv+1) (j:=li/4) (by omega) hup.1
     have hcl:=zbr (zH k) lv
     have hzj:gz z j=0∨gz z j=1:=hq2.2.2 j
     have hes:=((ts.getD (num (zH k) ((ts.getD j Nod.zero).lv+1)+(ts.getD j Nod.zero).ix/4) Nod.zero).es.get ((ts.getD j Nod.zero).ix%4)).hst
     refine zc 1 [(86,vT)] (zf (zb (zv (zo (zb (ze (zr (ze (zd ?_)))))))))
     refine zc 1 [(89,(vP w4.heap.size 1))] (za (zl w4.heap.size 1 (hK3.cell rfl) ?_))
     refine zc 1 [(91,(vI j))] ?_
     obtain ⟨b3,o2,rfl⟩:=hM7.addr (by omega) (by decide)
     refine za (zai b3 o2 (tot (zH k)) c7 j 274 ?_)
     refine zc 1 [(93,(vP b3 (o2+j*274)))] ?_
     have hK4:=((((hM7.ext hEw9).ext hEj54).ext hEj0).ext hEm)
     refine za (zl b3 (o2+j*274) (hK4.cell (j:=0) Nod.zero (by omega) rfl) ?_)
     refine za (zn (some 95) .i64 (IntKind.i64.wrap (((ts.getD j Nod.zero).lv:Nat):Int)) ((ts.getD j Nod.zero).lv) (zu rfl) ?_)
     refine zc 1 [(11,(vI ((ts.getD j Nod.zero).lv)))] (zf (zb (ze (zd (zc 1 [(96,(vP w4.heap.size 1))] (za (zl w4.heap.size 1 (hK3.cell rfl) ?_)))))))
     refine zc 1 [(98,(vI j))] (za (zai b3 o2 (tot (zH k)) c7 j 274 ?_))
     refine zc 1 [(100,(vP b3 (o2+j*274+1)))] (za (zl b3 (o2+j*274+1) (hK4.cell (j:=1) Nod.zero (by omega) rfl) ?_))
     refine za (zn (some 102) .i64 (IntKind.i64.wrap (((ts.getD j Nod.zero).ix:Nat):Int)) ((ts.getD j Nod.zero).ix) (zu rfl) ?_)
     refine zc 1 [(12,(vI ((ts.getD j Nod.zero).ix)))] (zf (zb (zwZ (X:=Nat) (fun bj13=> [(13,(vP bj13 0))]) [103,104,105,106,107,108,109,110,111,112,113,114,115,116,117] (fun bj13 w15=>Blk w15 bj13 (zaj ((ts.getD (num (zH k) ((ts.getD j Nod.zero).lv+1)+(ts.getD j Nod.zero).ix/4) Nod.zero).es.get ((ts.getD j Nod.zero).ix%4))) 71∧w14.heap.size≤bj13∧Ext w14 w15) ?_ ?_)))
     ·refine zaa 17 (fun w16 hEw16 hzw16 hT366=> ?_)
      refine zg hT366 [(0,103,(vP w4.heap.size 1))] 1 (zt hT366 1 w4.heap.size 1 (fun w' hC=>(((hK3.ext hEw16).ext hC).cell rfl)) (zg hT366 [(2,105,(vP w4.heap.size 0))] 1 (zt hT366 3 w4.heap.size 0 (fun w' hC=>(((hK3.ext hEw16).ext hC).cell rfl)) (zg hT366 [(4,107,(vI ((ts.getD j Nod.zero).lv)))] 1 (zk hT366 5 (vI ((ts.getD j Nod.zero).lv+1)) (zY .i64 (IntKind.i64.wrap ((((ts.getD j Nod.zero).lv:Nat):Int)+((1:Nat):Int))) (zu)) (zg hT366 [(6,109,(vI ((ts.getD j Nod.zero).ix)))] 1 (zk hT366 7 (vI (((ts.getD j Nod.zero).ix)/4)) (zY .i64 (IntKind.i64.wrap ((((ts.getD j Nod.zero).ix:Nat):Int).tdiv ((4:Nat):Int))) (zu (zed _ _))) (zk hT366 8 (vI (num (zH k) ((ts.getD j Nod.zero).lv+1)+(((ts.getD j Nod.zero).ix)/4))) (zeu (f:=27) (args:= #[(vI (zH k)),(vI ((ts.getD j Nod.zero).lv+1)),(vI (((ts.getD j Nod.zero).ix)/4))]) (fun w' hC=>zjV (zH k) ((ts.getD j Nod.zero).lv+1) (((ts.getD j Nod.zero).ix)/4) _ (by omega) (by omega) (by omega) (by omega))) (zg hT366 [(9,112,(vI ((ts.getD j Nod.zero).ix)))] 1 ?_)))))))))
      refine zk hT366 10 (vI (((ts.getD j Nod.zero).ix)%4)) (zY .i64 ((((ts.getD j Nod.zero).ix:Nat):Int).tmod ((4:Nat):Int)) (zcZ _ _)) (zag hT366 11 b3 o2 (tot (zH k)) c7 (num (zH k) ((ts.getD j Nod.zero).lv+1)+(((ts.getD j Nod.zero).ix)/4)) 274 (zg hT366 [(12,115,(vP b3 (o2+(num (zH k) ((ts.getD j Nod.zero).lv+1)+(((ts.getD j Nod.zero).ix)/4))*274+142)))] 1 (zaP hT366 13 b3 (o2+(num (zH k) ((ts.getD j Nod.zero).lv+1)+(((ts.getD j Nod.zero).ix)/4))*274+142) (((ts.getD j Nod.zero).ix)%4) 4 33 (zal hT366 14 b3 (o2+(num (zH k) ((ts.getD j Nod.zero).lv+1)+(((ts.getD j Nod.zero).ix)/4))*274+142+(((ts.getD j Nod.zero).ix)%4)*33) (fun w' hC=>((((hK4.ext hEw16).ext hC).at Nod.zero (by omega)).sub2 142 _ (zaj ((ts.getD (num (zH k) ((ts.getD j Nod.zero).lv+1)+(((ts.getD j Nod.zero).ix)/4)) Nod.zero).es.get (((ts.getD j Nod.zero).ix)%4))) (nod_e (by omega)))) (zaK _) (zx 15 (zaf (zaj Ent.zero) 71 ?_))))))
      intro w17 hBw17 hEw17 hzw17 hlw17
      refine ⟨.inr hEw17, ?_⟩
      refine zx 16 (zG 71 w16.heap.size 0 71 (vA (zaj ((ts.getD (num (zH k) ((ts.getD j Nod.zero).lv+1)+(((ts.getD j Nod.zero).ix)/4)) Nod.zero).es.get (((ts.getD j Nod.zero).ix)%4)))) (zaj Ent.zero) (zaj ((ts.getD (num (zH k) ((ts.getD j Nod.zero).lv+1)+(((ts.getD j Nod.zero).ix)/4)) Nod.zero).es.get (((ts.getD j Nod.zero).ix)%4))) hBw17 (by rw [zaK];kernel_rfl) (by first |(simp;done)|(simp;omega)) (zcR _) ?_)
      intro w18 hBw18 hCw18
      have hzw18:=hCw18.size
      rw [zy _ _ (by simp)] at hBw18
      refine ⟨.inl (by kernel_rfl), ?_⟩
      exact zD (zz (zxf (w16.heap.size) (⟨hBw18,by omega,(Ext.own (hEw16.trans hEw17) hCw18 (by omega))⟩)))
     rintro bj13 dw15 w15 ⟨hJ13,hJs13,hEj13⟩
     have hzhEj13:=hEj13.size
     have hJl13:=hJ13.lt
     refine ze (zaa 14 (fun w19 hEw19 hzw19 hT398=> ?_))
     refine zg hT398 [(0,118,(vP bj13 0))] 1 (zt hT398 1 bj13 0 (fun w' hC=>(((hJ13.ext hEw19).ext hC).cell rfl)) ?_)
     rcases Nat.lt_or_ge 0 ((ts.getD (num (zH k) ((ts.getD j Nod.zero).lv+1)+(ts.getD j Nod.zero).ix/4) Nod.zero).es.get ((ts.getD j Nod.zero).ix%4)).st with h120 | h120
     ·refine zk hT398 2 vT (zaJ (decide (((((ts.getD (num (zH k) ((ts.getD j Nod.zero).lv+1)+(ts.getD j Nod.zero).ix/4) Nod.zero).es.get ((ts.getD j Nod.zero).ix%4)).st:Nat):Int)>((0:Nat):Int))) (zga)) (zg hT398 [(3,121,vT),(4,122,(vP bj13 0))] 2 (zt hT398 5 bj13 0 (fun w' hC=>(((hJ13.ext hEw19).ext hC).cell rfl)) (zk hT398 6 (vI (((ts.getD (num (zH k) ((ts.getD j Nod.zero).lv+1)+(ts.getD j Nod.zero).ix/4) Nod.zero).es.get ((ts.getD j Nod.zero).ix%4)).st)) (zY .i64 (IntKind.i64.wrap ((((ts.getD (num (zH k) ((ts.getD j Nod.zero).lv+1)+(ts.getD j Nod.zero).ix/4) Nod.zero).es.get ((ts.getD j Nod.zero).ix%4)).st:Nat):Int)) (zu rfl)) (zg hT398 [(7,125,(.slice a_z n_z c_z)),(8,126,(vI j))] 2 ?_))))
      obtain ⟨b4,o3,rfl⟩:=h_z.addr (by omega)
      refine zag hT398 9 b4 o3 n_z c_z j 1 ?_
      have hK5:=(((((((h_z.ext hEj).ext hEw9).ext hEj54).ext hEj0).ext hEm).ext hEj13).ext hEw19)
      refine zt hT398 10 b4 (o3+j*1) (fun w' hC=>((hK5.ext hC).celli (by omega))) (zk hT398 11 (.int .i64 ((gz z j)+((1:Nat):Int))) (zyc .i64 (IntKind.i64.wrap ((gz z j)+((1:Nat):Int))) (zu rfl)) ?_)
      rcases Classical.em (((((ts.getD (num (zH k) ((ts.getD j Nod.zero).lv+1)+(ts.getD j Nod.zero).ix/4) Nod.zero).es.get ((ts.getD j Nod.zero).ix%4)).st:Nat):Int)=gz z j+1) with h130 | h130
      ·refine zk hT398 12 vF (zaJ (((((ts.getD (num (zH k) ((ts.getD j Nod.zero).lv+1)+(ts.getD j Nod.zero).ix/4) Nod.zero).es.get ((ts.getD j Nod.zero).ix%4)).st:Nat):Int) !=(gz z j)+((1:Nat):Int)) (zaE)) (zg hT398 [(13,131,vF)] 1 (zD (zb (zh (zo (zi (zb (zd (zc 1 [(87,(vI j))] ?_)))))))))
       refine za (zn (some 88) .i64 (IntKind.i64.wrap (((j:Nat):Int)+((1:Nat):Int))) (j+1) (zu) ?_)
       refine zc 1 [(10,(vI (j+1)))] (zf (zz (zL (j+1,e8) ?_ ?_)))
       ·exact ⟨by omega, .inl ⟨hc85,hin2.1,fun q hq=>by rcases Nat.lt_succ_iff_lt_or_eq.1 hq with h1 | rfl;exact hin2.2 q h1;exact fun hh=>hh.2 h130⟩,((hEm.trans hEj13).trans hEw19)⟩
       ·first | omega |(dsimp only;omega)
      ·refine zk hT398 12 vT (zaJ (((((ts.getD (num (zH k) ((ts.getD j Nod.zero).lv+1)+(ts.getD j Nod.zero).ix/4) Nod.zero).es.get ((ts.getD j Nod.zero).ix%4)).st:Nat):Int) !=(gz z j)+((1:Nat):Int)) (zcG)) (zg hT398 [(13,131,vT)] 1 (zD (zb (zv (zd (zc 1 [(8,(vI 9))] (zf (zi (zb ?_)))))))))
       refine zd (zc 1 [(87,(vI j))] (za (zn (some 88) .i64 (IntKind.i64.wrap (((j:Nat):Int)+((1:Nat):Int))) (j+1) (zu) ?_)))
       refine zc 1 [(10,(vI (j+1)))] (zf (zz (zL (j+1,9) ?_ ?_)))
       ·exact ⟨by omega, .inr ⟨by decide,(zxB (by omega) (by omega) hlts hin2.1 (by omega) ⟨h120,fun hh=>h130 hh⟩).symm⟩,((hEm.trans hEj13).trans hEw19)⟩
       ·first | omega |(dsimp only;omega)
     ·refine zk hT398 2 vF (zaJ (decide (((((ts.getD (num (zH k) ((ts.getD j Nod.zero).lv+1)+(ts.getD j Nod.zero).ix/4) Nod.zero).es.get ((ts.getD j Nod.zero).ix%4)).st:Nat):Int)>((0:Nat):Int))) (zcL)) (zg hT398 [(3,121,vF),(4,122,undef),(5,123,undef),(6,124,undef),(7,125,undef),(8,126,undef),(9,127,undef),(10,128,undef),(11,129,undef),(12,130,undef),(13,131,vF)] 11 (zD (zb (zh (zo (zi (zb (zd (zc 1 [(87,(vI j))] ?_)))))))))
      refine za (zn (some 88) .i64 (IntKind.i64.wrap (((j:Nat):Int)+((1:Nat):Int))) (j+1) (zu) ?_)
      refine zc 1 [(10,(vI (j+1)))] (zf (zz (zL (j+1,e8) ?_ ?_)))
      ·exact ⟨by omega, .inl ⟨hc85,hin2.1,fun q hq=>by rcases Nat.lt_succ_iff_lt_or_eq.1 hq with h1 | rfl;exact hin2.2 q h1;exact fun hh=>by have h1:=hh.1;omega⟩,((hEm.trans hEj13).trans hEw19)⟩
      ·first | omega |(dsimp only;omega)
    ·replace hc85:¬(e8=0):=by have:=zbC hc85;omega
     refine zc 1 [(86,vF)] (zf (zb (zh (zP (zp (zp (zF (zz (zxf (e8) ?_)))))))))
     exact ⟨(hsu.resolve_left (fun hh=>hc85 hh.1)).2,hEm⟩
   ·replace hc82:¬(j<(tot (zH k))-1):=by have:=zad hc82;omega
    refine zc 4 [(86,vF),(85,undef),(84,undef),(83,vF)] (zf (zb (zh (zP (zp (zp (zF (zz (zxf (e8) ?_)))))))))
    exact ⟨hsu.elim (fun ⟨h0,h1,h2⟩=>by rw [h0];exact (zxs (by omega) (by omega) hlts h1 fun q hq=>h2 q (by omega)).symm) (fun hh=>hh.2),hEm⟩
  rintro e9 dw13 w13 ⟨he9,hEj22⟩
  have hzhEj22:=hEj22.size
  refine ze (zd ?_)
  have hK6:=((((hJ7.ext hEw9).ext hEj54).ext hEj0).ext hEj22)
  refine za (zT w4.heap.size 0 (hK6.all) ?_)
  refine zc 1 [(134,(.slice a_z n_z c_z))] ?_
  have hK7:=((((hM7.ext hEw9).ext hEj54).ext hEj0).ext hEj22)
  have hK8:=(((((h_z.ext hEj).ext hEw9).ext hEj54).ext hEj0).ext hEj22)
  have hK9:=(((((hg0.ext hEj).ext hEw9).ext hEj54).ext hEj0).ext hEj22)
  have hK10:=(((((hg1.ext hEj).ext hEw9).ext hEj54).ext hEj0).ext hEj22)
  have hK11:=(((((hg2.ext hEj).ext hEw9).ext hEj54).ext hEj0).ext hEj22)
  have hK12:=(((((hg3.ext hEj).ext hEw9).ext hEj54).ext hEj0).ext hEj22)
  refine za (zq (zzF ((zH k:Nat):Int) _ hK7 hK8 hK9 hK10 hK11 hK12) ?_)
  rintro _ w20 ⟨a2,a3,na3,ca3,rfl,hFz4_0,hEw20⟩
  have hzw20:=hEw20.size
  refine zc 3 [(137,(vI (zhQ ((zH k:Nat):Int) ts z))),(136,(vA [(.int .i64 a2),(.slice a3 na3 ca3)])),(132,(.tuple #[(vA [(.int .i64 a2),(.slice a3 na3 ca3)]),(vI (zhQ ((zH k:Nat):Int) ts z))]))] (zan ([(.int .i64 a2),(.slice a3 na3 ca3)]) 38 rfl (by simp [Value.oneCell']) ?_)
  intro w21 hBw21 hEw21 hzw21 hlw21
  refine zc 1 [(15,(vI (zhQ ((zH k:Nat):Int) ts z)))] (zf (zb (ze (ze (zd (zc 2 [(139,(vI e9)),(138,(vI (zhQ ((zH k:Nat):Int) ts z)))] (za (zah (some 140) (((zhQ ((zH k:Nat):Int) ts z:Nat):Int) !=((e9:Nat):Int)) false (zaE) ?_))))))))
  refine zf (zb (zh (zo (zb (ze (zd (zc 1 [(141,(vI (zhQ ((zH k:Nat):Int) ts z)))] (za (zE (some 142) ((((zhQ ((zH k:Nat):Int) ts z:Nat):Int)==((0:Nat):Int))) (fun hc142=> ?_) (fun hc142=> ?_))))))))))
  ·replace hc142:zhQ ((zH k:Nat):Int) ts z=0:=by have:=zbD hc142;omega
   refine zc 12 [(154,vT),(153,vT),(152,undef),(151,undef),(150,undef),(149,undef),(148,undef),(147,undef),(146,undef),(145,undef),(144,undef),(143,vT)] (za (zq (zpw _ ((hK9.ext hEw20).ext hEw21) ((hK10.ext hEw20).ext hEw21) ((hK11.ext hEw20).ext hEw21) ((hK12.ext hEw20).ext hEw21)) ?_))
   rintro _ w22 ⟨rfl,hEw22⟩
   have hzw22:=hEw22.size
   refine zc 2 [(6,vT),(156,vT)] (zf (zb (zj (zm vT ?_))))
   have hX3:Ext w w22:=(((((((hEj.trans hEw9).trans hEj54).trans hEj0).trans hEj22).trans hEw20).trans hEw21).trans hEw22)
   exact ⟨rfl,hX3⟩
  ·replace hc142:¬(zhQ ((zH k:Nat):Int) ts z=0):=by have:=zbC hc142;omega
   refine zc 2 [(144,(vP w20.heap.size 1)),(143,vF)] (za (zl w20.heap.size 1 (hBw21.cell rfl) ?_))
   refine zc 1 [(146,(vI na3))] (za (zah (some 147) (((na3:Nat):Int)==((0:Nat):Int)) true (zau) ?_))
   refine zc 2 [(149,(vP w20.heap.size 0)),(148,vT)] (za (zl w20.heap.size 0 (hBw21.cell rfl) ?_))
   refine za (zah (some 151) (a2==((0:Nat):Int)) true (zau) ?_)
   refine zc 3 [(154,vT),(153,vT),(152,vT)] (za (zq (zpw _ ((hK9.ext hEw20).ext hEw21) ((hK10.ext hEw20).ext hEw21) ((hK11.ext hEw20).ext hEw21) ((hK12.ext hEw20).ext hEw21)) ?_))
   rintro _ w23 ⟨rfl,hEw23⟩
   have hzw23:=hEw23.size
   refine zc 2 [(6,vT),(156,vT)] (zf (zb (zj (zm vT ?_))))
   have hX4:Ext w w23:=(((((((hEj.trans hEw9).trans hEj54).trans hEj0).trans hEj22).trans hEw20).trans hEw21).trans hEw23)
   exact ⟨rfl,hX4⟩
end Go.Proofs.YtkmhgepdhilllaaGreatDoor
namespace Go.Cs
open Go Go.ChangeShapes Go.WideShapes Go.ChangeAt Go.RowKit
section
variable {H:Type} {enc:TypeId×Value→H} {P:Program} {W:World} {base:Nat} {sp:Nat→Bool} {held:Bool}
def Rd (enc:TypeId×Value→H) (P:Program) (W:World) (base:Nat) (sp:Nat→Bool) (held:Bool) (t:TypeId) (cs:List Value):Prop:=∃fuel r,DataW.trod enc P W base sp held fuel t cs=some r
theorem zfp {α β:Type} {f:α→Option β}:∀{xs:List α} {ys:List β},xs.mapM f=some ys→∀x∈xs,∃y,f x=some y
 | [],_,_,x,hx=>by simp at hx
 | a::xs,ys,h,x,hx=>by
  simp only [List.mapM_cons,Option.bind_eq_bind,Option.bind_eq_some_iff] at h
  obtain ⟨y,hy,zs,hz,_⟩:=h
  rcases List.mem_cons.1 hx with rfl | hx
  ·exact ⟨y,hy⟩
  ·exact zfp hz x hx
theorem zdo {t:TypeId} {k:IntKind} {cs:List Value} (h:Rd enc P W base sp held t cs) (ht:P.underlying t=some (.int k)):∃n,cs= [.int k n]∧(Lit.int k n).wf=true:=by
 obtain ⟨fuel,r,hf⟩:=h
 obtain ⟨n,h1,_,h3⟩:=DataW.trod_int ht hf
 exact ⟨n,h1,h3⟩
theorem zb6 {t:TypeId} {cs:List Value} {x:Bool×TypeId×Nat} {xs:List (Bool×TypeId×Nat)} (h:Rd enc P W base sp held t cs) (hF:zaw P t=x::xs):
  cs.length=P.cellsOf t∧∀y∈x::xs,Rd enc P W base sp held y.2.1 ((cs.drop y.2.2).take (P.cellsOf y.2.1)):=by
 obtain ⟨fuel,r,hf⟩:=h
 have hu:=zcN ⟨x,xs,hF⟩
 cases fuel with
 | zero=>simp [DataW.trod] at hf
 | succ fuel=>
  rw [DataW.trod.eq_def] at hf
  simp only [hu] at hf
  split at hf
  ·next hl=>
   refine ⟨hl,fun y hy=> ?_⟩
   simp only [Option.map_eq_some_iff] at hf
   obtain ⟨zs,hz,_⟩:=hf
   rw [←hF,zaw,List.mem_map] at hy
   obtain ⟨f,hf1,rfl⟩:=hy
   obtain ⟨z,hz2⟩:=zfp hz f hf1
   exact ⟨fuel,z,hz2⟩
  ·cases hf
theorem zdT {t e:TypeId} {n:Nat} {cs:List Value} (h:Rd enc P W base sp held t cs) (hu:P.underlying t=some (.array n e)):
  cs.length=P.cellsOf t∧∀i,i<n→Rd enc P W base sp held e ((cs.drop (i*P.cellsOf e)).take (P.cellsOf e)):=by
 obtain ⟨fuel,r,hf⟩:=h
 cases fuel with
 | zero=>simp [DataW.trod] at hf
 | succ fuel=>
  rw [DataW.trod.eq_def] at hf
  simp only [hu] at hf
  split at hf
  ·next hl=>
   refine ⟨hl,fun i hi=> ?_⟩
   simp only [Option.map_eq_some_iff] at hf
   obtain ⟨zs,hz,_⟩:=hf
   obtain ⟨z,hz2⟩:=zfp hz i (List.mem_range.2 hi)
   exact ⟨fuel,z,hz2⟩
  ·cases hf
theorem zlh {t e:TypeId} {cs:List Value} (h:Rd enc P W base sp held t cs) (hu:P.underlying t=some (.array 32 e)) (he:P.underlying e=some (.int .u8)) (h1:P.cellsOf e=1) (h32:P.cellsOf t=32):∃d:Dig,cs=zQ d:=by
 obtain ⟨hl,hi⟩:=zdT h hu
 rw [h32] at hl
 refine ⟨⟨cs.map (fun v=>match v with | .int _ n=>UInt8.ofNat n.toNat | _=>0),by simp [hl]⟩, ?_⟩
 refine List.ext_getElem (by simp [zQ,hl]) (fun i h2 h3=> ?_)
 obtain ⟨n,hn,hw⟩:=zdo (hi i (by omega)) he
 rw [h1,Nat.mul_one] at hn
 have hg:cs[i]= .int .u8 n:=by
  have:=congrArg (fun z=>z[0]?) hn
  simp [List.getElem?_take,List.getElem?_drop,h2] at this
  exact this
 have hb:=bounds_u8 hw
 simp only [zQ,u8s,List.getElem_map,hg]
 rw [UInt8.toNat_ofNat',Nat.mod_eq_of_lt (by omega)]
 congr 1;omega
theorem zcj {t:TypeId} {k:IntKind} {cs:List Value} (h:Rd enc P W base sp held t cs) (ht:P.underlying t=some (.int k)) (h0:∀n,(Lit.int k n).wf=true→0≤n∧n<2^k.bits):∃n:Nat,cs= [.int k (n:Int)]∧n<2^k.bits:=by
 obtain ⟨n,h1,h2⟩:=zdo h ht
 obtain ⟨h3,h4⟩:=h0 n h2
 obtain ⟨m,rfl⟩:=Int.eq_ofNat_of_zero_le h3
 exact ⟨m,h1,by exact_mod_cast h4⟩
theorem zay {α:Type} (cs:List α) (a b:Nat):(cs.drop a).take b++cs.drop (a+b)=cs.drop a:=by
 rw [←List.drop_drop,List.take_append_drop]
theorem w8 (n:Int) (h:(Lit.int .u8 n).wf=true):0≤n∧n<2^IntKind.u8.bits:=by have:=bounds_u8 h;exact ⟨by omega,by show n<2^8;omega⟩
theorem w32 (n:Int) (h:(Lit.int .u32 n).wf=true):0≤n∧n<2^IntKind.u32.bits:=by have:=bounds_u32 h;exact ⟨by omega,by show n<2^32;omega⟩
theorem w64 (n:Int) (h:(Lit.int .u64 n).wf=true):0≤n∧n<2^IntKind.u64.bits:=by have:=bounds_u64 h;exact ⟨by omega,by show n<2^64;omega⟩
theorem ztQ {t t32 t64:TypeId} {cs:List Value} (h:Rd enc P W base sp held t cs) (hF:zaw P t= [(true,t32,0),(true,t64,1)]) (h1:P.underlying t32=some (.int .u32)) (h2:P.underlying t64=some (.int .u64))
  (c1:P.cellsOf t32=1) (c2:P.cellsOf t64=1) (c:P.cellsOf t=2):∃x:Non,cs=zbc x:=by
 obtain ⟨hl,hf⟩:=zb6 h hF
 obtain ⟨a,ha,ha2⟩:=zcj (hf (true,t32,0) (by simp)) h1 w32
 obtain ⟨b,hb,hb2⟩:=zcj (hf (true,t64,1) (by simp)) h2 w64
 simp only [c1,c2] at ha hb
 refine ⟨⟨a,b,ha2,hb2⟩, ?_⟩
 have e1:=zay cs 0 1
 have e2:=zay cs 1 1
 rw [ha] at e1;rw [hb,List.drop_eq_nil_of_le (by omega)] at e2
 rw [List.drop_zero] at e1
 rw [←e1,←e2];rfl
theorem zou {t t8 tn td e t32 t64:TypeId} {cs:List Value} (h:Rd enc P W base sp held t cs) (hF:zaw P t= [(true,t8,0),(true,tn,1),(true,td,3)]) (h8:P.underlying t8=some (.int .u8)) (c8:P.cellsOf t8=1)
  (hFn:zaw P tn= [(true,t32,0),(true,t64,1)]) (h1:P.underlying t32=some (.int .u32)) (h2:P.underlying t64=some (.int .u64)) (c1:P.cellsOf t32=1) (c2:P.cellsOf t64=1) (cn:P.cellsOf tn=2)
  (hu:P.underlying td=some (.array 32 e)) (he:P.underlying e=some (.int .u8)) (ce:P.cellsOf e=1) (cd:P.cellsOf td=32) (c:P.cellsOf t=35):∃x:Rec,cs=zM x:=by
 obtain ⟨hl,hf⟩:=zb6 h hF
 obtain ⟨a,ha,ha2⟩:=zcj (hf (true,t8,0) (by simp)) h8 w8
 obtain ⟨x,hx⟩:=ztQ (hf (true,tn,1) (by simp)) hFn h1 h2 c1 c2 cn
 obtain ⟨d,hd⟩:=zlh (hf (true,td,3) (by simp)) hu he ce cd
 simp only [c8,cn,cd] at ha hx hd
 refine ⟨⟨a,x,d,ha2⟩, ?_⟩
 have e1:=zay cs 0 1
 have e2:=zay cs 1 2
 have e3:=zay cs 3 32
 rw [ha] at e1;rw [hx] at e2;rw [hd,List.drop_eq_nil_of_le (by omega)] at e3
 rw [List.drop_zero] at e1
 rw [←e1,←e2,←e3];simp [zM,zbc]
theorem zoy {t t8 td e:TypeId} {cs:List Value} (h:Rd enc P W base sp held t cs) (hF:zaw P t= [(true,t8,0),(true,td,1)]) (h8:P.underlying t8=some (.int .u8)) (c8:P.cellsOf t8=1)
  (hu:P.underlying td=some (.array 32 e)) (he:P.underlying e=some (.int .u8)) (ce:P.cellsOf e=1) (cd:P.cellsOf td=32) (c:P.cellsOf t=33):∃x:Ent,cs=zaj x:=by
 obtain ⟨hl,hf⟩:=zb6 h hF
 obtain ⟨a,ha,ha2⟩:=zcj (hf (true,t8,0) (by simp)) h8 w8
 obtain ⟨d,hd⟩:=zlh (hf (true,td,1) (by simp)) hu he ce cd
 simp only [c8,cd] at ha hd
 refine ⟨⟨a,d,ha2⟩, ?_⟩
 have e1:=zay cs 0 1
 have e3:=zay cs 1 32
 rw [ha] at e1;rw [hd,List.drop_eq_nil_of_le (by omega)] at e3
 rw [List.drop_zero] at e1
 rw [←e1,←e3];simp [zaj]
theorem w16 (n:Int) (h:(Lit.int .u16 n).wf=true):0≤n∧n<2^IntKind.u16.bits:=by
 simp [Lit.wf,IntKind.min,IntKind.max,IntKind.signed,IntKind.bits] at h
 exact ⟨by omega,by show n<2^16;omega⟩
end
end Go.Cs
namespace Go.Cs
open Go Go.ChangeShapes Go.WideShapes Go.ChangeAt Go.RowKit
theorem zh3 {α:Type} {f:α→List Value} {sz:Nat} (hf:∀x,(f x).length=sz) (d:α):∀(l:List α) (k:Nat),0<sz→(l.flatMap f)[k]? =if k<l.length*sz then (f (l.getD (k/sz) d))[k%sz]? else none
 | [],k,hz=>by simp
 | x::l,k,hz=>by
  rw [List.flatMap_cons]
  rcases Nat.lt_or_ge k sz with h | h
  ·rw [List.getElem?_append_left (by rw [hf];exact h),Nat.div_eq_of_lt h,Nat.mod_eq_of_lt h,if_pos]
   ·simp
   ·rw [List.length_cons,Nat.add_mul,Nat.one_mul];omega
  ·rw [List.getElem?_append_right (by rw [hf];exact h),hf,zh3 hf d l (k-sz) hz]
   have e1:k/sz=(k-sz)/sz+1:=by rw [←Nat.add_div_right _ hz,Nat.sub_add_cancel h]
   have e2:k%sz=(k-sz)%sz:=by rw [←Nat.mod_eq_sub_mod h]
   rw [e1,e2,List.getD_cons_succ,List.length_cons,Nat.add_mul,Nat.one_mul]
   by_cases h2:k<l.length*sz+sz
   ·rw [if_pos (by omega),if_pos h2]
   ·rw [if_neg (by omega),if_neg h2]
section
variable {H:Type} {enc:TypeId×Value→H} {P:Program} {W:World} {base:Nat} {sp:Nat→Bool} {held:Bool}
theorem zeZ {α:Type} {f:α→List Value} {t e:TypeId} {sz:Nat} {cs:List Value} (hx:∀us,Rd enc P W base sp held e us→∃x,us=f x) (hf:∀x,(f x).length=sz) (h:Rd enc P W base sp held t cs) (hu:P.underlying t=some (.slice e)) (he:P.cellsOf e=sz) (hz:0<sz):
  ∃a len cap l,cs= [.slice a len cap]∧Ms f sz 0 W.heap.size W a len cap l:=by
 obtain ⟨fuel,r,hr⟩:=h
 rcases Go.Deep.open_slice hu hr with ⟨rfl,_⟩|⟨a,len,cap,m,n,D,Pl,rfl,hb,hl,hm,hmm,_,hi⟩
 ·exact ⟨none,0,0, [],rfl,Ms.nil f _ _ _ hf⟩
 ·have hlm:len≤m:=by subst hmm;split<;>omega
  rw [he] at hi
  rcases Nat.eq_zero_or_pos len with h0 | h0
  ·subst h0
   exact ⟨some a,0,cap, [],rfl,⟨⟨hl,hm, .inl rfl⟩,rfl,hf⟩⟩
  ·have one:∀i,i<len→∃x,W.cells? base (a.add (i*sz)) sz=some (f x):=fun i hlt=>by
    obtain ⟨cs',h1,h2⟩:=hi i (by omega)
    obtain ⟨x,rfl⟩:=hx cs' ⟨n,_,h2⟩
    exact ⟨x,h1⟩
   obtain ⟨x0,hx0⟩:=one 0 h0
   haveI:Inhabited α:=⟨x0⟩
   obtain ⟨g,hg⟩:=Go.Deep.choose_lt one
   have hsp:a.spot=none∧a.block<W.heap.size:=by
    have h3:=(World.cells?_some hx0).2.2 0 hz
    rw [Nat.zero_mul] at h3
    have e0:(a.add 0).add 0=a:=by simp [Addr.add]
    rw [e0,List.getElem?_eq_getElem (by rw [hf];exact hz)] at h3
    refine ⟨?_,World.block_lt_of_cell? W a h3⟩
    cases hs:a.spot with
    | none=>rfl
    | some k=>
     exfalso
     have h4:=(World.cells?_some (hg 0 h0)).2.2
     simp only [World.cell?,hs] at h3
     split at h3<;>simp at h3
   obtain ⟨b,o,s⟩:=a
   simp only at hsp
   obtain ⟨rfl,hlt⟩:=hsp
   refine ⟨_,len,cap,(List.range len).map g,rfl,⟨hl,hm, .inr ⟨rfl,Nat.zero_le _,hlt,hlt,fun k v hk=> ?_⟩⟩,by simp,hf⟩
   rw [zh3 hf x0 _ k hz] at hk
   simp only [List.length_map,List.length_range] at hk
   split at hk
   ·next hks=>
    have hq:k/sz<len:=Nat.div_lt_of_lt_mul (by rw [Nat.mul_comm];exact hks)
    have hg1:((List.range len).map g).getD (k/sz) x0=g (k/sz):=by simp [List.getD,hq]
    rw [hg1] at hk
    have h5:=(World.cells?_some (hg (k/sz) hq)).2.2 (k%sz) (Nat.mod_lt _ hz)
    rw [hk,Addr.add_lit,Addr.add_lit] at h5
    rw [←h5]
    have:=Nat.div_add_mod k sz
    rw [Nat.mul_comm] at this
    simp only [Nat.add_assoc,this]
   ·cases hk
theorem znj {t e:TypeId} {cs:List Value} (h:Rd enc P W base sp held t cs) (hu:P.underlying t=some (.array 2 e)) (he:P.underlying e=some (.int .u8)) (ce:P.cellsOf e=1) (c:P.cellsOf t=2):∃x:UInt8×UInt8,cs=b2C x:=by
 obtain ⟨hl,hi⟩:=zdT h hu
 obtain ⟨a,ha,ha2⟩:=zcj (hi 0 (by omega)) he w8
 obtain ⟨b,hb,hb2⟩:=zcj (hi 1 (by omega)) he w8
 simp only [ce,Nat.mul_one] at ha hb
 have ea:((UInt8.ofNat a).toNat:Nat)=a:=by rw [UInt8.toNat_ofNat',Nat.mod_eq_of_lt (show a<2^8 from ha2)]
 have eb:((UInt8.ofNat b).toNat:Nat)=b:=by rw [UInt8.toNat_ofNat',Nat.mod_eq_of_lt (show b<2^8 from hb2)]
 refine ⟨(UInt8.ofNat a,UInt8.ofNat b), ?_⟩
 have e1:=zay cs 0 1
 have e2:=zay cs 1 1
 rw [ha] at e1;rw [hb,List.drop_eq_nil_of_le (by omega)] at e2
 rw [List.drop_zero] at e1
 rw [←e1,←e2];simp [b2C,ea,eb]
end
end Go.Cs
namespace Go.Cs
open Go Go.ChangeShapes Go.WideShapes Go.ChangeAt Go.RowKit
section
variable {H:Type} {enc:TypeId×Value→H} {P:Program} {W:World} {base:Nat} {sp:Nat→Bool} {held:Bool}
theorem zjy {α:Type} {f:α→List Value} {t e:TypeId} {n sz:Nat} {cs:List Value} (hx:∀us,Rd enc P W base sp held e us→∃x,us=f x) (h:Rd enc P W base sp held t cs) (hu:P.underlying t=some (.array n e)) (he:P.cellsOf e=sz) (ht:P.cellsOf t=n*sz):
  ∃l:List α,l.length=n∧cs=l.flatMap f:=by
 obtain ⟨hl,hi⟩:=zdT h hu
 have step:∀m,m≤n→∃l:List α,l.length=m∧cs.take (m*sz)=l.flatMap f:=by
  intro m
  induction m with
  | zero=>intro _;exact ⟨[],rfl,by simp⟩
  | succ m ih=>
   intro hm
   obtain ⟨l,h1,h2⟩:=ih (by omega)
   obtain ⟨x,h3⟩:=hx _ (hi m (by omega))
   rw [he] at h3
   exact ⟨l++ [x],by simp [h1],by rw [Nat.add_mul,Nat.one_mul,List.take_add,h2,h3];simp⟩
 obtain ⟨l,h1,h2⟩:=step n (Nat.le_refl _)
 exact ⟨l,h1,by rw [←h2,List.take_of_length_le (by omega)]⟩
theorem zgp {t e:TypeId} {k:IntKind} {fuel n:Nat} {cs:List Value} {p:List MemPlace} {ns:List Int} (h:DataW.trod enc P W base sp held fuel t cs=some (.agg (ns.map fun z=> .lit (.int k z)),p)) (hu:P.underlying t=some (.array n e)) (he:P.underlying e=some (.int k)) (ce:P.cellsOf e=1) (ct:P.cellsOf t=n):
  cs=ns.map fun z=> .int k z:=by
 obtain ⟨xs,m,rfl,hx,hl,hn,hi⟩:=DataW.trod_array hu h
 simp only [Prod.mk.injEq,DataW.agg.injEq] at hx
 have hlen:ns.length=n:=by rw [←hn,show xs.length=(xs.map fun x=>x.1).length from by simp,←hx.1,List.length_map]
 refine List.ext_getElem (by simp;omega) fun i h1 h2=> ?_
 have h3:i<xs.length:=by omega
 have h4:=hi i (by omega)
 rw [List.getElem?_eq_getElem h3,ce,Nat.mul_one] at h4
 obtain ⟨z,e1,e2,_⟩:=DataW.trod_int he h4
 have e3:cs[i]= .int k z:=by
  have:=congrArg (fun y=>y[0]?) e1
  simp [List.getElem?_take,List.getElem?_drop,h1] at this
  exact this
 have e4:=congrArg (fun y=>y[i]?) hx.1
 simp only [List.getElem?_map,List.getElem?_eq_getElem h3,e2,List.getElem?_eq_getElem (show i<ns.length by omega),Option.map_some,Option.some.injEq,DataW.lit.injEq,Lit.int.injEq,true_and] at e4
 rw [e3];simp [e4]
theorem zkd {name:String} {g:Nat} {cs:Array Value} {vs:List Value} (hg:P.globalNamed name=some g) (hv:W.var? P name=some cs) (hcs:cs.toList=vs):Gl g vs W:=by
 have hc:=fun i=>World.var?_cell hg hv i
 refine ⟨fun i v hi=> ?_, ?_⟩
 ·rw [Nat.zero_add,hc i,←hi,←hcs];simp
 ·simp only [World.var?,hg,Option.bind_some] at hv
  rcases Nat.lt_or_ge g W.heap.size with h | h
  ·exact h
  ·rw [Array.getElem?_eq_none h] at hv;simp at hv
theorem ztc {N R E r t8 tn td e t32 t64 en:TypeId} {cs:List Value} (h:Rd enc P W base sp held N cs) (hN:zaw P N= [(true,t8,0),(true,t32,1),(true,R,2),(true,E,142)])
  (hR:P.underlying R=some (.array 4 r)) (hE:P.underlying E=some (.array 4 en)) (h8:P.underlying t8=some (.int .u8)) (c8:P.cellsOf t8=1) (hF:zaw P r= [(true,t8,0),(true,tn,1),(true,td,3)]) (hFe:zaw P en= [(true,t8,0),(true,td,1)])
  (hFn:zaw P tn= [(true,t32,0),(true,t64,1)]) (h1:P.underlying t32=some (.int .u32)) (h2:P.underlying t64=some (.int .u64)) (c1:P.cellsOf t32=1) (c2:P.cellsOf t64=1) (cn:P.cellsOf tn=2)
  (hu:P.underlying td=some (.array 32 e)) (he:P.underlying e=some (.int .u8)) (ce:P.cellsOf e=1) (cd:P.cellsOf td=32) (cr:P.cellsOf r=35) (cen:P.cellsOf en=33) (cR:P.cellsOf R=140) (cE:P.cellsOf E=132) (c:P.cellsOf N=274):∃x:Nod,cs=zJ x:=by
 obtain ⟨hl,hf⟩:=zb6 h hN
 obtain ⟨a,ha,ha2⟩:=zcj (hf (true,t8,0) (by simp)) h8 w8
 obtain ⟨b,hb,hb2⟩:=zcj (hf (true,t32,1) (by simp)) h1 w32
 obtain ⟨rs,hr1,hr2⟩:=zjy (f:=zM) (fun us hh=>zou hh hF h8 c8 hFn h1 h2 c1 c2 cn hu he ce cd cr) (hf (true,R,2) (by simp)) hR cr cR
 obtain ⟨es,he1,he2⟩:=zjy (f:=zaj) (fun us hh=>zoy hh hFe h8 c8 hu he ce cd cen) (hf (true,E,142) (by simp)) hE cen cE
 simp only [c8,c1,cR,cE] at ha hb hr2 he2
 refine ⟨⟨a,b,⟨rs,hr1⟩,⟨es,he1⟩,ha2,hb2⟩, ?_⟩
 have e1:=zay cs 0 1
 have e2:=zay cs 1 1
 have e3:=zay cs 2 140
 have e4:=zay cs 142 132
 rw [ha] at e1;rw [hb] at e2;rw [hr2] at e3;rw [he2,List.drop_eq_nil_of_le (by omega)] at e4
 rw [List.drop_zero] at e1
 rw [←e1,←e2,←e3,←e4];simp [zJ,r4C,e4C]
end
end Go.Cs
namespace Go.Cs
open Go Go.ChangeShapes Go.WideShapes Go.ChangeAt Go.RowKit
theorem Es.of_ones {α:Type} {f:α→Value} {lo hi len cap:Nat} {w:World} {a:Option Addr} {l:List α} (h:Ms (fun x=> [f x]) 1 lo hi w a len cap l):Es f lo hi w a len cap l:=by
 have e:∀l:List α,(l.flatMap fun x=> [f x])=l.map f:=fun l=>by
  induction l with
  | nil=>rfl
  | cons x l ih=>rw [List.flatMap_cons,List.map_cons,ih];rfl
 exact ⟨by have:=h.sla;rwa [e l] at this,h.len_eq⟩
section
variable {H:Type} {enc:TypeId×Value→H} {P:Program} {W:World} {base:Nat} {sp:Nat→Bool} {held:Bool}
theorem zt9 {t:TypeId} {cs:List Value} (h:Rd enc P W base sp held t cs) (hu:P.underlying t=some (.int .i64)):∃x:Int,cs= [.int .i64 x]:=by
 obtain ⟨a,ha,_⟩:=zdo h hu
 exact ⟨a,ha⟩
theorem zxx {t e:TypeId} {cs:List Value} (h:Rd enc P W base sp held t cs) (hu:P.underlying t=some (.slice e)) (he:P.underlying e=some (.int .i64)) (ce:P.cellsOf e=1):
  ∃a len cap l,cs= [.slice a len cap]∧Es (iv .i64) 0 W.heap.size W a len cap l:=by
 obtain ⟨a,len,cap,l,h1,h2⟩:=zeZ (f:=fun x:Int=> [iv .i64 x]) (sz:=1) (fun us hq=>zt9 hq he) (fun _=>rfl) h hu ce (by decide)
 exact ⟨a,len,cap,l,h1,Es.of_ones h2⟩
end
end Go.Cs
namespace Go.Cs
open Go Go.ChangeShapes Go.WideShapes Go.ChangeAt Go.RowKit
theorem zf1 {cs p q:List Value} {o a:Nat} (h:(cs.drop o).take a=p) (h2:cs.drop (o+a)=q):cs.drop o=p++q:=by
 rw [←h,←h2,←List.drop_drop,List.take_append_drop]
theorem zmF {cs:List Value} {o:Nat} (h:cs.length≤o):cs.drop o= []:=List.drop_eq_nil_of_le h
section
variable {H:Type} {enc:TypeId×Value→H} {P:Program} {W:World} {base:Nat} {sp:Nat→Bool} {held:Bool}
theorem zsl {t:TypeId} {cs:List Value} (h:Rd enc P W base sp held t cs) (hu:P.underlying t=some (.int .u8)):∃x:UInt8,cs= [u8v x]:=by
 obtain ⟨a,ha,ha2⟩:=zcj h hu w8
 exact ⟨UInt8.ofNat a,by rw [ha,u8v,UInt8.toNat_ofNat',Nat.mod_eq_of_lt (show a<2^8 from ha2)]⟩
theorem zuN {t e:TypeId} {cs:List Value} (h:Rd enc P W base sp held t cs) (hu:P.underlying t=some (.slice e)) (he:P.underlying e=some (.int .u8)) (ce:P.cellsOf e=1):
  ∃a len cap l,cs= [.slice a len cap]∧Bs 0 W.heap.size W a len cap l:=by
 obtain ⟨a,len,cap,l,h1,h2⟩:=zeZ (f:=fun x:UInt8=> [u8v x]) (sz:=1) (fun us hq=>zsl hq he) (fun _=>rfl) h hu ce (by decide)
 exact ⟨a,len,cap,l,h1,(Es.of_ones h2).bs⟩
end
end Go.Cs
namespace Go.Cs
open Go Go.ChangeShapes Go.WideShapes Go.ChangeAt Go.RowKit
section
variable {H:Type} {enc:TypeId×Value→H} {P:Program} {W:World} {base:Nat} {sp:Nat→Bool} {held:Bool}
theorem zm3 {t:TypeId} {cs:List Value} (h:Rd enc P W base sp held t cs) (ht:P.underlying t=some .bool):∃b:Bool,cs= [.bool b]:=by
 obtain ⟨fuel,r,hf⟩:=h
 obtain ⟨b,h1,_⟩:=DataW.trod_bool ht hf
 exact ⟨b,h1⟩
theorem zyE {U tI tB tC N R E r t8 tn td e t32 t64 en:TypeId} {cs:List Value} (h:Rd enc P W base sp held U cs) (hU:zaw P U= [(true,N,0),(true,tI,274),(true,tB,275),(true,tC,276)])
  (hI:P.underlying tI=some (.int .i64)) (hB:P.underlying tB=some .bool) (hC:P.underlying tC=some (.array 4 tB)) (cI:P.cellsOf tI=1) (cB:P.cellsOf tB=1) (cC:P.cellsOf tC=4) (cU:P.cellsOf U=280)
  (hN:zaw P N= [(true,t8,0),(true,t32,1),(true,R,2),(true,E,142)])
  (hR:P.underlying R=some (.array 4 r)) (hE:P.underlying E=some (.array 4 en)) (h8:P.underlying t8=some (.int .u8)) (c8:P.cellsOf t8=1) (hF:zaw P r= [(true,t8,0),(true,tn,1),(true,td,3)]) (hFe:zaw P en= [(true,t8,0),(true,td,1)])
  (hFn:zaw P tn= [(true,t32,0),(true,t64,1)]) (h1:P.underlying t32=some (.int .u32)) (h2:P.underlying t64=some (.int .u64)) (c1:P.cellsOf t32=1) (c2:P.cellsOf t64=1) (cn:P.cellsOf tn=2)
  (hu:P.underlying td=some (.array 32 e)) (he:P.underlying e=some (.int .u8)) (ce:P.cellsOf e=1) (cd:P.cellsOf td=32) (cr:P.cellsOf r=35) (cen:P.cellsOf en=33) (cR:P.cellsOf R=140) (cE:P.cellsOf E=132) (c:P.cellsOf N=274):∃x:Un,cs=unC x:=by
 obtain ⟨hl,hf⟩:=zb6 h hU
 obtain ⟨nd,hnd⟩:=ztc (hf (true,N,0) (by simp)) hN hR hE h8 c8 hF hFe hFn h1 h2 c1 c2 cn hu he ce cd cr cen cR cE c
 obtain ⟨sl,hsl,_⟩:=zdo (hf (true,tI,274) (by simp)) hI
 obtain ⟨dt,hdt⟩:=zm3 (hf (true,tB,275) (by simp)) hB
 obtain ⟨ch,hc1,hc2⟩:=zjy (f:=fun b:Bool=> [.bool b]) (fun us hh=>zm3 hh hB) (hf (true,tC,276) (by simp)) hC cB cC
 simp only [c,cI,cB,cC] at hnd hsl hdt hc2
 refine ⟨⟨nd,sl,dt,ch,hc1⟩, ?_⟩
 have e1:=zay cs 0 274
 have e2:=zay cs 274 1
 have e3:=zay cs 275 1
 have e4:=zay cs 276 4
 rw [hnd] at e1;rw [hsl] at e2;rw [hdt] at e3;rw [hc2,List.drop_eq_nil_of_le (by omega)] at e4
 rw [List.drop_zero] at e1
 have hb:∀l:List Bool,(l.flatMap fun b=> [Value.bool b])=blC l:=fun l=>by
  induction l with
  | nil=>rfl
  | cons x l ih=>rw [List.flatMap_cons,ih];rfl
 rw [hb] at e4
 rw [←e1,←e2,←e3,←e4];simp [unC]
end
end Go.Cs
