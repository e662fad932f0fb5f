/- Lemmas and walks: what each function does, by its own code. No condition beyond those of each statement. -/
import Derived.Test.YtkmhgepdhilllaaGreatDoorK2
import Derived.ProofKit
import Derived.OpenShut
import Derived.ChangeOld
import Derived.Deep.Slices
import Derived.LaidMore
import Derived.Stop.Joined
set_option linter.all false
set_option linter.unusedVariables false
namespace Go.Proofs.YtkmhgepdhilllaaGreatDoor
open Go Go.RowKit Go.Cs
set_option maxRecDepth 100000
set_option maxHeartbeats 4000000 in
theorem zpJ (w:World) (hg0:Gl 0 [vI 45,vI 33] w) (hg1:Gl 1 (w8C zbp) w) (hg2:Gl 3 (zay kA) w) (hg3:Gl 2 [.iface 227 (.agg #[.pointer (some ⟨4,160,none⟩)])] w):
  Calls Tryz.prog 24 #[] w (Ret fun r w'=>r=vT∧Ext w w'):=by
 refine zD (n:=177) (σ:= []) Tryz.func24 rfl ?_
 have hgl0:=hg0.lt
 have hgl1:=hg1.lt
 have hgl2:=hg2.lt
 have hgl3:=hg3.lt
 have ht5:tot 5=3:=by decide
 have hw1:=zv6;have hw2:=zws
 refine ze (zd (zc 1 [(0,vF)] (zf (zb (ze (zd (za (zp (zgI 3 _ (by first | omega | decide)) ?_))))))))
 rintro _ w1 ⟨rfl,hEw1⟩
 have hzw1:=hEw1.size
 refine za (zp (zgI 4 _ (by first | omega | decide)) ?_)
 rintro _ w2 ⟨rfl,hEw2⟩
 have hzw2:=hEw2.size
 refine za (zaf (zR Dig.zero) 59 ?_)
 intro w3 hBw3 hEw3 hzw3 hlw3
 refine za (zaf (zR Dig.zero) 59 ?_)
 intro w4 hBw4 hEw4 hzw4 hlw4
 refine za (zG 59 w2.heap.size 0 59 (vA (zR (mkD 3))) (zR Dig.zero) (zR (mkD 3)) (hBw3.ext hEw4) (by rw [zam];kernel_rfl) (by first |(simp;done)|(simp;omega)) (zbW _) ?_)
 intro w5 hBw5 hCw5
 have hzw5:=hCw5.size
 rw [zy _ _ (by simp)] at hBw5
 refine za (zG 59 w3.heap.size 0 59 (vA (zR (mkD 4))) (zR Dig.zero) (zR (mkD 4)) (hBw4.chg hCw5) (by rw [zam];kernel_rfl) (by first |(simp;done)|(simp;omega)) (zbW _) ?_)
 intro w6 hBw6 hCw6
 have hzw6:=hCw6.size
 rw [zy _ _ (by simp)] at hBw6
 refine zf (zb (ze (zd (za (zcx (some 22) 28 68 35 56 5 5 .i64 .i64 (vA (zM Rec.zero)) (by omega) (by omega) (by omega) ?_)))))
 rw [zdT (f:=zM) (x:=Rec.zero) rfl (zZ _) (by decide)]
 intro w7 hBw7 hEw7
 have hzw7:=hEw7.size;have hlw7:=hBw7.lt
 have hmw7:Ms zM 35 w6.heap.size (w6.heap.size+1) w7 (pA w6.heap.size 0) 5 5 (List.replicate 5 Rec.zero):=Ms.of_pre (r:= []) (by rw [List.append_nil];exact hBw7) zZ (by simp) (Nat.le_refl _) (by simp only [maxLen];omega) (Nat.le_refl _) (Nat.lt_succ_self _)
 refine za (zaa (Instr.buildSlice 29 3 #[(0,(vI 1)),(1,(vI 1)),(2,(vI 0))]) (.slice (pA w7.heap.size 0) 3 3) [(vI 1),(vI 1),(vI 0)] 3 ?_)
 intro w8 hBw8 hEw8 hzw8 hlw8
 have hSw8:Es (nv .i64) w7.heap.size (w7.heap.size+1) w8 (pA w7.heap.size 0) 3 3 ([1,1,0]):=Es.of_blk hBw8 rfl rfl (Nat.le_refl _) (by decide) (Nat.le_refl _) (Nat.lt_succ_self _)
 have hK1:=((((((((hg0.ext hEw1).ext hEw2).ext hEw3).ext hEw4).chg hCw5).chg hCw6).ext hEw7).ext hEw8)
 have hK2:=((((((((hg1.ext hEw1).ext hEw2).ext hEw3).ext hEw4).chg hCw5).chg hCw6).ext hEw7).ext hEw8)
 have hK3:=((((((((hg2.ext hEw1).ext hEw2).ext hEw3).ext hEw4).chg hCw5).chg hCw6).ext hEw7).ext hEw8)
 refine za (zp (zsN 5 _ (hmw7.ext hEw8) hSw8 (wM0) (by first | omega | decide) hK1 hK2 hK3) ?_)
 rintro _ w9 ⟨a1,rfl,hFz3_0,hEw9⟩
 have hzw9:=hEw9.size
 have hma1:=hFz3_0.ms;have hlea1:=hma1.le
 refine zc 3 [(26,(vI 0)),(25,(vA [(vI 5),(.slice a1 (tot 5) (tot 5))])),(21,(.tuple #[(vA [(vI 5),(.slice a1 (tot 5) (tot 5))]),(vI 0)]))] (zal ([(vI 5),(.slice a1 (tot 5) (tot 5))]) 44 rfl (by simp [Value.oneCell']) ?_)
 intro w10 hBw10 hEw10 hzw10 hlw10
 refine zc 1 [(4,(vI 0))] (zf (zb (ze (zd (za (zO w9.heap.size 0 (hBw10.all) ?_))))))
 refine za (zaa (Instr.buildSlice 29 3 #[(0,(vI 1)),(1,(vI 1)),(2,(vI 0))]) (.slice (pA w10.heap.size 0) 3 3) [(vI 1),(vI 1),(vI 0)] 3 ?_)
 intro w11 hBw11 hEw11 hzw11 hlw11
 have hSw11:Es (nv .i64) w10.heap.size (w10.heap.size+1) w11 (pA w10.heap.size 0) 3 3 ([1,1,0]):=Es.of_blk hBw11 rfl rfl (Nat.le_refl _) (by decide) (Nat.le_refl _) (Nat.lt_succ_self _)
 have hI1:=(hSw11).ints
 have hK4:=(((hK1.ext hEw9).ext hEw10).ext hEw11)
 have hK5:=(((hK2.ext hEw9).ext hEw10).ext hEw11)
 have hK6:=(((hK3.ext hEw9).ext hEw10).ext hEw11)
 have hK7:=(((((((((((hg3.ext hEw1).ext hEw2).ext hEw3).ext hEw4).chg hCw5).chg hCw6).ext hEw7).ext hEw8).ext hEw9).ext hEw10).ext hEw11)
 refine za (zp (zrl 5 _ ((hma1.ext hEw10).ext hEw11) hI1 (by first | omega | decide) (by first | omega | decide) (by first | omega | decide) (zfx wM0) (by first | omega | decide) (zmM.1 (by decide)) (by rw [show ofT (tot 5) (zak (List.replicate 5 Rec.zero) ([1,1,0])) (([1,1,0]:List Nat).map fun (x:Nat)=>(x:Int))=wT0 from wOf];exact zkE (n:=5) wO0 rfl) hK4 hK5 hK6 hK7) ?_)
 rintro _ w12 ⟨a2,rfl,hFz4_0,hEw12⟩
 have hzw12:=hEw12.size
 have hlea2:=hFz4_0.le
 rw [show (ofT (tot 5) (zak (List.replicate 5 Rec.zero) ([1,1,0])) (([1,1,0]).map fun (x:Nat)=>(x:Int)))=wT0 from wOf] at hFz4_0
 refine zc 3 [(32,(vI 0)),(31,(vA [(vI 5),(.slice a2 (tot 5) (tot 5))])),(27,(.tuple #[(vA [(vI 5),(.slice a2 (tot 5) (tot 5))]),(vI 0)]))] (zal ([(vI 5),(.slice a2 (tot 5) (tot 5))]) 38 rfl (by simp [Value.oneCell']) ?_)
 intro w13 hBw13 hEw13 hzw13 hlw13
 refine zc 1 [(6,(vI 0))] (zf (zb (ze (zd (za (zO w12.heap.size 0 (hBw13.all) ?_))))))
 refine za (zp (zer 5 4 _ (hFz4_0.ext hEw13) (by first | omega | decide) (by first | omega | decide) (by first | omega | decide) (zba wO0) (zaV (n:=5) wO0 rfl) (by first | omega | decide) ((hK4.ext hEw12).ext hEw13) ((hK5.ext hEw12).ext hEw13) ((hK6.ext hEw12).ext hEw13)) ?_)
 rintro _ w14 ⟨rfl,hEw14⟩
 have hzw14:=hEw14.size
 rw [show zaZ (wT0.getD (4/4) Un.zero) (4%4)=0 from wG0]
 refine zc 5 [(8,(vI 0)),(7,(vI 0)),(37,(vI 0)),(36,(vI 0)),(33,(.tuple #[(vI 0),(vI 0)]))] (zf (zb (ze (zab 12 (fun w15 hEw15 hzw15 hT93=> ?_)))))
 refine zaO hT93 0 w12.heap.size 0 (fun w' hC=>((((hBw13.ext hEw14).ext hEw15).ext hC).all)) ?_
 have hK8:=((((((((((hBw5.chg hCw6).ext hEw7).ext hEw8).ext hEw9).ext hEw10).ext hEw11).ext hEw12).ext hEw13).ext hEw14).ext hEw15)
 refine zan hT93 2 w2.heap.size 0 (fun w' hC=>((hK8.ext hC).all)) (zam _) (zbt 1 8 ?_ ?_)
 ·refine zp (zcb 3 _ (by first | omega | decide | exact UInt8.toNat_lt _)) ?_
  rintro _ w16 ⟨rfl,hEw16⟩
  have hzw16:=hEw16.size
  refine ⟨.inr hEw16, ?_⟩
  refine zbt 3 8 ?_ ?_
  ·have hK9:=((((hFz4_0.ext hEw13).ext hEw14).ext hEw15).ext hEw16)
   have hK10:=(((((hK4.ext hEw12).ext hEw13).ext hEw14).ext hEw15).ext hEw16)
   have hK11:=(((((hK5.ext hEw12).ext hEw13).ext hEw14).ext hEw15).ext hEw16)
   have hK12:=(((((hK6.ext hEw12).ext hEw13).ext hEw14).ext hEw15).ext hEw16)
   refine zp (zcY 5 4 (za2 3) (mkD 3) _ hK9 (by first | omega | decide) (by first | omega | decide) (by first | omega | decide) (zba wO0) (zaV (n:=5) wO0 rfl) (by first | omega | decide) hK10 hK11 hK12) ?_
   rintro _ w17 ⟨a3,rfl,hFz7_0,hEw17⟩
   have hzw17:=hEw17.size
   have hlea3:=hFz7_0.le
   rw [show zc4 5 wT0 4 (za2 3) (mkD 3)=wT1 from wE0] at hFz7_0
   rw [show (zaZ (wT0.getD (4/4) Un.zero) (4%4))=0 from wG0]
   have hX1:Ext w15 w17:=(hEw16.trans hEw17)
   refine ⟨.inr hX1, ?_⟩
   refine zg (hw:=hX1) hT93 [(4,38,(.tuple #[(vA [(vI 5),(.slice a3 (tot 5) (tot 5))]),(vI 0),(vI 0)])),(5,43,(vA [(vI 5),(.slice a3 (tot 5) (tot 5))])),(6,44,(vI 0)),(7,45,(vI 0))] 4 (zx 8 (zaf ([(vI 0),(.slice none 0 0)]) 38 ?_))
   intro w18 hBw18 hEw18 hzw18 hlw18
   have hX2:Ext w15 w18:=((hEw16.trans hEw17).trans hEw18)
   refine ⟨.inr hX2, ?_⟩
   refine zx 9 (zG 38 w17.heap.size 0 38 (vA [(vI 5),(.slice a3 (tot 5) (tot 5))]) ([(vI 0),(.slice none 0 0)]) ([(vI 5),(.slice a3 (tot 5) (tot 5))]) hBw18 (by kernel_rfl) (by first | decide |(simp;done)|(simp;omega)) (by simp [Value.oneCell']) ?_)
   intro w19 hBw19 hCw19
   have hzw19:=hCw19.size
   rw [zy _ _ (by kernel_rfl)] at hBw19
   have hX3:Ext w15 w19:=(Ext.own ((hEw16.trans hEw17).trans hEw18) hCw19 (by omega))
   refine ⟨.inr hX3, ?_⟩
   refine zg (hw:=hX3) hT93 [(10,10,(vI 0)),(11,11,(vI 0))] 2 (zE (zb (ze (zd (za (zO w17.heap.size 0 (hBw19.all) ?_))))))
   have hK13:=(((hK10.ext hEw17).ext hEw18).chg hCw19)
   have hK14:=(((hK11.ext hEw17).ext hEw18).chg hCw19)
   have hK15:=(((hK12.ext hEw17).ext hEw18).chg hCw19)
   refine za (zp (zkM 5 _ ((hFz7_0.ext hEw18).chg hCw19) (by first | omega | decide) (by first | omega | decide) (by first | omega | decide) (zba wO1) (zaV (n:=5) wO1 rfl) hK13 hK14 hK15) ?_)
   rintro _ w20 ⟨a4,rfl,hFz8_0,hEw20⟩
   have hzw20:=hEw20.size
   have hlea4:=hFz8_0.le
   rw [wD1,show List.length [(0,1),(1,0)]=2 from rfl] at hFz8_0
   rw [show zbj 5 wT1 (tot 5)= [(0,1),(1,0)] from wD1]
   rw [show List.length ([(0,1),(1,0)])=2 from rfl]
   refine zc 5 [(13,(vI 0)),(12,(.slice a4 2 2)),(50,(vI 0)),(49,(.slice a4 2 2)),(46,(.tuple #[(.slice a4 2 2),(vI 0)]))] (zf (zb (ze (zd (za (zO w17.heap.size 0 ((hBw19.ext hEw20).all) ?_))))))
   have hK16:=(((hFz7_0.ext hEw18).chg hCw19).ext hEw20)
   refine za (zp (zl5 5 4 _ hK16 (by first | omega | decide) (by first | omega | decide) (by first | omega | decide) (zba wO1) (zaV (n:=5) wO1 rfl) (by first | omega | decide) (hK13.ext hEw20) (hK14.ext hEw20) (hK15.ext hEw20)) ?_)
   rintro _ w21 ⟨rfl,hEw21⟩
   have hzw21:=hEw21.size
   rw [show (wT1.getD (4/4) Un.zero).nd.rs.get (4%4)=wR1 from znx]
   refine zc 3 [(55,(vI 0)),(54,(vA (zM (wR1)))),(51,(.tuple #[(vA (zM (wR1))),(vI 0)]))] (zal (zM (wR1)) 68 (zZ _) (zbb _) ?_)
   intro w22 hBw22 hEw22 hzw22 hlw22
   refine zc 1 [(15,(vI 0))] (zf (zb (ze (ze (zab 52 (fun w23 hEw23 hzw23 hT161=> ?_))))))
   refine zg hT161 [(0,56,(vI 0)),(1,57,(vI 0))] 2 (zn hT161 2 (vI 0) (zY .i64 (IntKind.i64.wrap (((0:Nat):Int)+((0:Nat):Int))) (zu)) (zg hT161 [(3,59,(vI 0))] 1 (zn hT161 4 (vI 0) (zY .i64 (IntKind.i64.wrap (((0:Nat):Int)+((0:Nat):Int))) (zu)) (zg hT161 [(5,61,(vI 0))] 1 (zn hT161 6 (vI 0) (zY .i64 (IntKind.i64.wrap (((0:Nat):Int)+((0:Nat):Int))) (zu)) (zg hT161 [(7,63,(vI 0))] 1 (zn hT161 8 (vI 0) (zY .i64 (IntKind.i64.wrap (((0:Nat):Int)+((0:Nat):Int))) (zu)) (zg hT161 [(9,65,(vI 0))] 1 (zn hT161 10 (vI 0) (zY .i64 (IntKind.i64.wrap (((0:Nat):Int)+((0:Nat):Int))) (zu)) ?_)))))))))
   refine zg hT161 [(11,67,vF),(12,68,vF),(13,69,(vI 0))] 3 (zn hT161 14 vF (zaN (((0:Nat):Int) !=((0:Nat):Int)) (zax)) (zg hT161 [(15,71,vF),(16,72,vF),(17,73,(vI 0))] 3 (zn hT161 18 vF (zaN (((0:Nat):Int) !=((0:Nat):Int)) (zax)) (zg hT161 [(19,75,vF),(20,76,vF),(21,77,(.slice a4 2 2)),(22,78,(vI 2)),(23,79,vF),(24,80,vF),(25,81,vF),(26,82,(.slice a4 2 2))] 8 ?_))))
   obtain ⟨b1,o1,rfl⟩:=hFz8_0.addr (by omega) (by decide)
   refine zas hT161 27 b1 o1 2 2 0 2 ?_
   have hK17:=(((hFz8_0.ext hEw21).ext hEw22).ext hEw23)
   refine zaO hT161 28 b1 (o1+0*2) (fun w' hC=>((hK17.ext hC).at (0,0) (by omega))) (zg hT161 [(29,85,(vA [(vI 0),(vI 1)]))] 1 (zn hT161 30 vF (zag (bo .neq 89 (.tmp 84) (.tmp 85) (vA [(vI ((([(0,1),(1,0)]).getD 0 (0,0)).1)),(vI ((([(0,1),(1,0)]).getD 0 (0,0)).2))]) (vA [(vI 0),(vI 1)])) (fun w' hC=>zat (r:=true) (T:=89) ((zdL (dd:=9998) (t:=89) [(vI ((([(0,1),(1,0)]).getD 0 (0,0)).1)),(vI ((([(0,1),(1,0)]).getD 0 (0,0)).2))] [(vI 0),(vI 1)]).trans (congrArg (fun b=>Result.ok b _) (show (zgM [(vI ((([(0,1),(1,0)]).getD 0 (0,0)).1)),(vI ((([(0,1),(1,0)]).getD 0 (0,0)).2))] [(vI 0),(vI 1)])=true from rfl))))) (zg hT161 [(31,87,vF),(32,88,vF),(33,89,(.slice (pA b1 o1) 2 2))] 3 (zas hT161 34 b1 o1 2 2 1 2 (zaO hT161 35 b1 (o1+1*2) (fun w' hC=>((hK17.ext hC).at (0,0) (by omega))) (zg hT161 [(36,92,(vA [(vI 1),(vI 0)]))] 1 (zn hT161 37 vF (zag (bo .neq 89 (.tmp 91) (.tmp 92) (vA [(vI ((([(0,1),(1,0)]).getD 1 (0,0)).1)),(vI ((([(0,1),(1,0)]).getD 1 (0,0)).2))]) (vA [(vI 1),(vI 0)])) (fun w' hC=>zat (r:=true) (T:=89) ((zdL (dd:=9998) (t:=89) [(vI ((([(0,1),(1,0)]).getD 1 (0,0)).1)),(vI ((([(0,1),(1,0)]).getD 1 (0,0)).2))] [(vI 1),(vI 0)]).trans (congrArg (fun b=>Result.ok b _) (show (zgM [(vI ((([(0,1),(1,0)]).getD 1 (0,0)).1)),(vI ((([(0,1),(1,0)]).getD 1 (0,0)).2))] [(vI 1),(vI 0)])=true from rfl))))) (zg hT161 [(38,94,vF),(39,95,vF)] 2 ?_))))))))
   refine zan hT161 40 w21.heap.size 0 (fun w' hC=>(((hBw22.ext hEw23).ext hC).all)) (zZ _) ?_
   have hK18:=(((((hK8.ext hX3).ext hEw20).ext hEw21).ext hEw22).ext hEw23)
   refine zan hT161 42 w2.heap.size 0 (fun w' hC=>((hK18.ext hC).all)) (zam _) (zx 41 (zp (zcb 3 _ (by first | omega | decide | exact UInt8.toNat_lt _)) ?_))
   rintro _ w24 ⟨rfl,hEw24⟩
   have hzw24:=hEw24.size
   refine ⟨.inr hEw24, ?_⟩
   refine zn (hw:=hEw24) hT161 43 (vA (zM wR1)) (zag (Instr.build 68 #[(0,(vB 1)),(1,(vA (zbf (za2 3)))),(2,(vA (zR (mkD 3))))]) (fun w' hC=>(zdb 1 (za2 3) (mkD 3) (by decide)).trans (congrArg (fun z:Rec=>Result.ok (Value.agg (zM z).toArray) _) (show (⟨1,(za2 3),(mkD 3),by decide⟩:Rec)=wR1 from rfl)))) (zn (hw:=hEw24) hT161 44 vF (zag (bo .neq 68 (.tmp 96) (.tmp 99) (vA (zM (wR1))) (vA (zM wR1))) (fun w' hC=>zat (r:=true) (T:=68) ((zdj (dd:=9997) (t:=68) (t8:=5) (tn:=56) (td:=59) (e:=5) (t32:=53) (t64:=54) (wR1) wR1).trans (congrArg (fun b=>Result.ok b _) (show ((wR1).eqb wR1)=true from (Rec.eqb_iff _ _).2 rfl))))) (zg (hw:=hEw24) hT161 [(45,101,vF),(46,102,vF),(47,103,(vP w17.heap.size 1))] 3 ?_))
   have hK19:=((((hBw19.ext hEw20).ext hEw21).ext hEw22).ext hEw23)
   refine zA (hw:=hEw24) hT161 48 w17.heap.size 1 (fun w' hC=>((hK19.ext hC).cell rfl)) (zg (hw:=hEw24) hT161 [(49,105,(vI (tot 5)))] 1 (zn (hw:=hEw24) hT161 50 vF (zaN ((((tot 5):Nat):Int) !=((3:Nat):Int)) (zax)) (zg (hw:=hEw24) hT161 [(51,107,vF)] 1 (zE (zb (zh (zk (zb (ze ?_)))))))))
   refine zd (zc 1 [(108,(vA (zJ (Nod.mt 0 1))))] (zal (zJ (Nod.mt 0 1)) 74 (zQ _) (zb0 _) ?_))
   intro w25 hBw25 hEw25 hzw25 hlw25
   refine zf (zb (ze (zd ?_)))
   have hK20:=(((hBw22.ext hEw23).ext hEw24).ext hEw25)
   refine za (zT w21.heap.size 0 (hK20.all) (zZ _) ?_)
   refine zc 1 [(110,(vP w24.heap.size 2))] (za (zbg w24.heap.size 2 0 4 35 ?_))
   refine za (zG 68 w24.heap.size (2+0*35) 74 (vA (zM (wR1))) (zJ (Nod.mt 0 1)) (zM (wR1)) hBw25 (by rw [zZ];kernel_rfl) (by first |(simp;done)|(simp;omega)) (zbb _) ?_)
   intro w26 hBw26 hCw26
   have hzw26:=hCw26.size
   rw [show (zV (zJ (Nod.mt 0 1)) (2+0*35) (zM (wR1)):List Value)=zJ ((Nod.mt 0 1).setR 0 (wR1)) from nod_setR (by omega)] at hBw26
   refine zf (zb (ze (ze (zab 11 (fun w27 hEw27 hzw27 hT230=> ?_)))))
   refine zg hT230 [(0,112,(vP w17.heap.size 1))] 1 ?_
   have hK21:=((((hK19.ext hEw24).ext hEw25).chg hCw26).ext hEw27)
   refine zA hT230 1 w17.heap.size 1 (fun w' hC=>((hK21.ext hC).cell rfl)) ?_
   obtain ⟨b2,o2,rfl⟩:=hK16.addr (by omega) (by decide)
   refine zas hT230 2 b2 o2 (tot 5) (tot 5) 2 280 (zg hT230 [(3,115,(vP b2 (o2+2*280))),(4,116,(vP b2 (o2+2*280+142)))] 2 (zaP hT230 5 b2 (o2+2*280+142) 1 4 33 ?_))
   have hK22:=(((((((hK16.ext hEw21).ext hEw22).ext hEw23).ext hEw24).ext hEw25).chg hCw26).ext hEw27)
   refine zan hT230 6 b2 (o2+2*280+142+1*33) (fun w' hC=>(((hK22.ext hC).at Un.zero (by omega)).sub2 142 _ (zai ((wT1.getD 2 Un.zero).nd.es.get 1)) (znl (by omega)))) (zaK _) (zan hT230 7 w24.heap.size 0 (fun w' hC=>(((hBw26.ext hEw27).ext hC).all)) (zQ _) (zx 8 (zp (zfA ((Nod.mt 0 1).setR 0 (wR1)) _) ?_)))
   rintro _ w28 ⟨rfl,hEw28⟩
   have hzw28:=hEw28.size
   refine ⟨.inr hEw28, ?_⟩
   refine zn (hw:=hEw28) hT230 9 (vA (zai (⟨1,(zS (zN ((Nod.mt 0 1).setR 0 (wR1)))),by decide⟩))) (zag (Instr.build 71 #[(0,(vB 1)),(1,(vA (zR (zS (zN ((Nod.mt 0 1).setR 0 (wR1)))))))]) (fun w' hC=>zcA 1 (zS (zN ((Nod.mt 0 1).setR 0 (wR1)))) (by decide))) (zn (hw:=hEw28) hT230 10 vF (zag (bo .neq 71 (.tmp 118) (.tmp 121) (vA (zai ((wT1.getD 2 Un.zero).nd.es.get 1))) (vA (zai (⟨1,(zS (zN ((Nod.mt 0 1).setR 0 (wR1)))),by decide⟩)))) (fun w' hC=>zat (r:=true) (T:=71) ((zcs (dd:=9997) (t:=71) (t8:=5) (td:=59) (e:=5) ((wT1.getD 2 Un.zero).nd.es.get 1) (⟨1,(zS (zN ((Nod.mt 0 1).setR 0 (wR1)))),by decide⟩)).trans (congrArg (fun b=>Result.ok b _) (show (((wT1.getD 2 Un.zero).nd.es.get 1).eqb (⟨1,(zS (zN ((Nod.mt 0 1).setR 0 (wR1)))),by decide⟩))=true from (Ent.eqb_iff _ _).2 zqw))))) (zE (zb (zh (zk (zb (ze (zab 12 (fun w29 hEw29 hzw29 hT253=> ?_)))))))))
   refine zaO hT253 0 w17.heap.size 0 (fun w' hC=>((((hK21.ext hEw28).ext hEw29).ext hC).all)) ?_
   have hK23:=((((((((((((((((((((hBw6.ext hEw7).ext hEw8).ext hEw9).ext hEw10).ext hEw11).ext hEw12).ext hEw13).ext hEw14).ext hEw15).ext hX3).ext hEw20).ext hEw21).ext hEw22).ext hEw23).ext hEw24).ext hEw25).chg hCw26).ext hEw27).ext hEw28).ext hEw29)
   refine zan hT253 2 w3.heap.size 0 (fun w' hC=>((hK23.ext hC).all)) (zam _) (zbt 1 8 ?_ ?_)
   ·refine zp (zcb 4 _ (by first | omega | decide | exact UInt8.toNat_lt _)) ?_
    rintro _ w30 ⟨rfl,hEw30⟩
    have hzw30:=hEw30.size
    refine ⟨.inr hEw30, ?_⟩
    refine zbt 3 8 ?_ ?_
    ·have hK24:=(((hK22.ext hEw28).ext hEw29).ext hEw30)
     have hK25:=(((((((((((hK13.ext hEw20).ext hEw21).ext hEw22).ext hEw23).ext hEw24).ext hEw25).chg hCw26).ext hEw27).ext hEw28).ext hEw29).ext hEw30)
     have hK26:=(((((((((((hK14.ext hEw20).ext hEw21).ext hEw22).ext hEw23).ext hEw24).ext hEw25).chg hCw26).ext hEw27).ext hEw28).ext hEw29).ext hEw30)
     have hK27:=(((((((((((hK15.ext hEw20).ext hEw21).ext hEw22).ext hEw23).ext hEw24).ext hEw25).chg hCw26).ext hEw27).ext hEw28).ext hEw29).ext hEw30)
     refine zp (zcY 5 4 (za2 4) (mkD 4) _ hK24 (by first | omega | decide) (by first | omega | decide) (by first | omega | decide) (zba wO1) (zaV (n:=5) wO1 rfl) (by first | omega | decide) hK25 hK26 hK27) ?_
     rintro _ w31 ⟨a5,rfl,hFz13_0,hEw31⟩
     have hzw31:=hEw31.size
     have hlea5:=hFz13_0.le
     rw [show zc4 5 wT1 4 (za2 4) (mkD 4)=wT2 from wE1] at hFz13_0
     rw [show (zaZ (wT1.getD (4/4) Un.zero) (4%4))=0 from wG1]
     have hX4:Ext w29 w31:=(hEw30.trans hEw31)
     refine ⟨.inr hX4, ?_⟩
     refine zg (hw:=hX4) hT253 [(4,123,(.tuple #[(vA [(vI 5),(.slice a5 (tot 5) (tot 5))]),(vI 0),(vI 0)])),(5,128,(vA [(vI 5),(.slice a5 (tot 5) (tot 5))])),(6,129,(vI 0)),(7,130,(vI 0))] 4 (zx 8 (zaf ([(vI 0),(.slice none 0 0)]) 38 ?_))
     intro w32 hBw32 hEw32 hzw32 hlw32
     have hX5:Ext w29 w32:=((hEw30.trans hEw31).trans hEw32)
     refine ⟨.inr hX5, ?_⟩
     refine zx 9 (zG 38 w31.heap.size 0 38 (vA [(vI 5),(.slice a5 (tot 5) (tot 5))]) ([(vI 0),(.slice none 0 0)]) ([(vI 5),(.slice a5 (tot 5) (tot 5))]) hBw32 (by kernel_rfl) (by first | decide |(simp;done)|(simp;omega)) (by simp [Value.oneCell']) ?_)
     intro w33 hBw33 hCw33
     have hzw33:=hCw33.size
     rw [zy _ _ (by kernel_rfl)] at hBw33
     have hX6:Ext w29 w33:=(Ext.own ((hEw30.trans hEw31).trans hEw32) hCw33 (by omega))
     refine ⟨.inr hX6, ?_⟩
     refine zg (hw:=hX6) hT253 [(10,10,(vI 0)),(11,4,(vI 0))] 2 (zE (zb (ze (zd (za (zO w31.heap.size 0 (hBw33.all) ?_))))))
     have hK28:=(((hK25.ext hEw31).ext hEw32).chg hCw33)
     have hK29:=(((hK26.ext hEw31).ext hEw32).chg hCw33)
     have hK30:=(((hK27.ext hEw31).ext hEw32).chg hCw33)
     refine za (zp (zeo 5 _ ((hFz13_0.ext hEw32).chg hCw33) (by first | omega | decide) (by first | omega | decide) (by first | omega | decide) (zba wO2) (zaV (n:=5) wO2 rfl) hK28 hK29 hK30) ?_)
     rintro _ w34 ⟨a6,rfl,hFz14_0,hEw34⟩
     have hzw34:=hEw34.size
     have hlea6:=hFz14_0.le
     rw [show zc8 (tot 5) wT2=wT3 from wE2] at hFz14_0
     refine zc 3 [(135,(vI 0)),(134,(vA [(vI 5),(.slice a6 (tot 5) (tot 5))])),(131,(.tuple #[(vA [(vI 5),(.slice a6 (tot 5) (tot 5))]),(vI 0)]))] (zal ([(vI 5),(.slice a6 (tot 5) (tot 5))]) 38 rfl (by simp [Value.oneCell']) ?_)
     intro w35 hBw35 hEw35 hzw35 hlw35
     refine zc 1 [(6,(vI 0))] (zf (zb (ze (zd (za (zO w34.heap.size 0 (hBw35.all) ?_))))))
     refine za (zp (zer 5 4 _ (hFz14_0.ext hEw35) (by first | omega | decide) (by first | omega | decide) (by first | omega | decide) (zba wO3) (zaV (n:=5) wO3 rfl) (by first | omega | decide) ((hK28.ext hEw34).ext hEw35) ((hK29.ext hEw34).ext hEw35) ((hK30.ext hEw34).ext hEw35)) ?_)
     rintro _ w36 ⟨rfl,hEw36⟩
     have hzw36:=hEw36.size
     rw [show zaZ (wT3.getD (4/4) Un.zero) (4%4)=1 from wG3]
     refine zc 5 [(8,(vI 0)),(7,(vI 1)),(140,(vI 0)),(139,(vI 1)),(136,(.tuple #[(vI 1),(vI 0)]))] (zf (zb (ze (zd (zc 2 [(142,(vI 0)),(141,(vI 0))] (za (zo (some 143) .i64 (IntKind.i64.wrap (((0:Nat):Int)+((0:Nat):Int))) 0 (zu) ?_)))))))
     refine zc 1 [(144,(vI 0))] (za (zo (some 145) .i64 (IntKind.i64.wrap (((0:Nat):Int)+((0:Nat):Int))) 0 (zu) ?_))
     refine zc 3 [(148,(vI 0)),(147,vT),(146,vT)] (za (zae (some 149) (((0:Nat):Int)==((0:Nat):Int)) true (zaq) ?_))
     refine zc 3 [(152,(vI 1)),(151,vT),(150,vT)] (za (zae (some 153) (((1:Nat):Int)==((1:Nat):Int)) true (zaq) ?_))
     refine zc 3 [(156,(vP w34.heap.size 1)),(155,vT),(154,vT)] (za (zm w34.heap.size 1 ((hBw35.ext hEw36).cell rfl) ?_))
     refine zc 1 [(158,(vI (tot 5)))] (za (zae (some 159) ((((tot 5):Nat):Int)==((3:Nat):Int)) true (zaq) ?_))
     refine zc 3 [(162,(vP w34.heap.size 1)),(161,vT),(160,vT)] (za (zm w34.heap.size 1 ((hBw35.ext hEw36).cell rfl) ?_))
     obtain ⟨b3,o3,rfl⟩:=hFz14_0.addr (by omega) (by decide)
     refine za (zah b3 o3 (tot 5) (tot 5) 1 280 ?_)
     refine zc 1 [(165,(vP b3 (o3+1*280+274)))] (za (zm b3 (o3+1*280+274) (((hFz14_0.ext hEw35).ext hEw36).cell (j:=274) (i:=1) Un.zero (by omega) (zbU _)) ?_))
     refine za (zae (some 167) ((wT3.getD 1 Un.zero).sl==((0:Nat):Int)) true (zaq) ?_)
     refine zc 3 [(170,(vP w34.heap.size 1)),(169,vT),(168,vT)] (za (zm w34.heap.size 1 ((hBw35.ext hEw36).cell rfl) ?_))
     refine za (zah b3 o3 (tot 5) (tot 5) 2 280 ?_)
     refine zc 1 [(173,(vP b3 (o3+2*280+274)))] (za (zm b3 (o3+2*280+274) (((hFz14_0.ext hEw35).ext hEw36).cell (j:=274) (i:=2) Un.zero (by omega) (zbU _)) ?_))
     refine za (zae (some 175) ((wT3.getD 2 Un.zero).sl==((1:Nat):Int)) true (zaq) ?_)
     refine zc 2 [(0,vT),(176,vT)] (zf (zb (zj (zl vT ?_))))
     have hX7:Ext w w36:=((((((((Ext.own (((((((((((((((((Ext.own (Ext.own (((hEw1.trans hEw2).trans hEw3).trans hEw4) hCw5 (by omega)) hCw6 (by omega)).trans hEw7).trans hEw8).trans hEw9).trans hEw10).trans hEw11).trans hEw12).trans hEw13).trans hEw14).trans hEw15).trans hX3).trans hEw20).trans hEw21).trans hEw22).trans hEw23).trans hEw24).trans hEw25) hCw26 (by omega)).trans hEw27).trans hEw28).trans hEw29).trans hX6).trans hEw34).trans hEw35).trans hEw36)
     exact ⟨rfl,hX7⟩
    ·refine zaf ([(vI 0),(.slice none 0 0)]) 38 ?_
     intro w37 hBw37 hEw37 hzw37 hlw37
     have hX8:Ext w29 w37:=(hEw30.trans hEw37)
     refine ⟨.inr hX8, ?_⟩
     have hK31:=((((hK22.ext hEw28).ext hEw29).ext hEw30).ext hEw37)
     have hK32:=((((((((((((hK13.ext hEw20).ext hEw21).ext hEw22).ext hEw23).ext hEw24).ext hEw25).chg hCw26).ext hEw27).ext hEw28).ext hEw29).ext hEw30).ext hEw37)
     have hK33:=((((((((((((hK14.ext hEw20).ext hEw21).ext hEw22).ext hEw23).ext hEw24).ext hEw25).chg hCw26).ext hEw27).ext hEw28).ext hEw29).ext hEw30).ext hEw37)
     have hK34:=((((((((((((hK15.ext hEw20).ext hEw21).ext hEw22).ext hEw23).ext hEw24).ext hEw25).chg hCw26).ext hEw27).ext hEw28).ext hEw29).ext hEw30).ext hEw37)
     refine zx 3 (zp (zcY 5 4 (za2 4) (mkD 4) _ hK31 (by first | omega | decide) (by first | omega | decide) (by first | omega | decide) (zba wO1) (zaV (n:=5) wO1 rfl) (by first | omega | decide) hK32 hK33 hK34) ?_)
     rintro _ w38 ⟨a7,rfl,hFz16_0,hEw38⟩
     have hzw38:=hEw38.size
     have hlea7:=hFz16_0.le
     rw [show zc4 5 wT1 4 (za2 4) (mkD 4)=wT2 from wE1] at hFz16_0
     rw [show (zaZ (wT1.getD (4/4) Un.zero) (4%4))=0 from wG1]
     have hX9:Ext w29 w38:=((hEw30.trans hEw37).trans hEw38)
     refine ⟨.inr hX9, ?_⟩
     refine zg (hw:=hX9) hT253 [(4,123,(.tuple #[(vA [(vI 5),(.slice a7 (tot 5) (tot 5))]),(vI 0),(vI 0)])),(5,128,(vA [(vI 5),(.slice a7 (tot 5) (tot 5))])),(6,129,(vI 0)),(7,130,(vI 0))] 4 (zx 9 (zG 38 w30.heap.size 0 38 (vA [(vI 5),(.slice a7 (tot 5) (tot 5))]) ([(vI 0),(.slice none 0 0)]) ([(vI 5),(.slice a7 (tot 5) (tot 5))]) (hBw37.ext hEw38) (by kernel_rfl) (by first | decide |(simp;done)|(simp;omega)) (by simp [Value.oneCell']) ?_))
     intro w39 hBw39 hCw39
     have hzw39:=hCw39.size
     rw [zy _ _ (by kernel_rfl)] at hBw39
     have hX10:Ext w29 w39:=(Ext.own ((hEw30.trans hEw37).trans hEw38) hCw39 (by omega))
     refine ⟨.inr hX10, ?_⟩
     refine zg (hw:=hX10) hT253 [(10,10,(vI 0)),(11,4,(vI 0))] 2 (zE (zb (ze (zd (za (zO w30.heap.size 0 (hBw39.all) ?_))))))
     refine za (zp (zeo 5 _ (hFz16_0.chg hCw39) (by first | omega | decide) (by first | omega | decide) (by first | omega | decide) (zba wO2) (zaV (n:=5) wO2 rfl) ((hK32.ext hEw38).chg hCw39) ((hK33.ext hEw38).chg hCw39) ((hK34.ext hEw38).chg hCw39)) ?_)
     rintro _ w40 ⟨a8,rfl,hFz17_0,hEw40⟩
     have hzw40:=hEw40.size
     have hlea8:=hFz17_0.le
     rw [show zc8 (tot 5) wT2=wT3 from wE2] at hFz17_0
     refine zc 3 [(135,(vI 0)),(134,(vA [(vI 5),(.slice a8 (tot 5) (tot 5))])),(131,(.tuple #[(vA [(vI 5),(.slice a8 (tot 5) (tot 5))]),(vI 0)]))] (zal ([(vI 5),(.slice a8 (tot 5) (tot 5))]) 38 rfl (by simp [Value.oneCell']) ?_)
     intro w41 hBw41 hEw41 hzw41 hlw41
     refine zc 1 [(6,(vI 0))] (zf (zb (ze (zd (za (zO w40.heap.size 0 (hBw41.all) ?_))))))
     have hK35:=((((hK32.ext hEw38).chg hCw39).ext hEw40).ext hEw41)
     have hK36:=((((hK33.ext hEw38).chg hCw39).ext hEw40).ext hEw41)
     have hK37:=((((hK34.ext hEw38).chg hCw39).ext hEw40).ext hEw41)
     refine za (zp (zer 5 4 _ (hFz17_0.ext hEw41) (by first | omega | decide) (by first | omega | decide) (by first | omega | decide) (zba wO3) (zaV (n:=5) wO3 rfl) (by first | omega | decide) hK35 hK36 hK37) ?_)
     rintro _ w42 ⟨rfl,hEw42⟩
     have hzw42:=hEw42.size
     rw [show zaZ (wT3.getD (4/4) Un.zero) (4%4)=1 from wG3]
     refine zc 5 [(8,(vI 0)),(7,(vI 1)),(140,(vI 0)),(139,(vI 1)),(136,(.tuple #[(vI 1),(vI 0)]))] (zf (zb (ze (zd (zc 2 [(142,(vI 0)),(141,(vI 0))] (za (zo (some 143) .i64 (IntKind.i64.wrap (((0:Nat):Int)+((0:Nat):Int))) 0 (zu) ?_)))))))
     refine zc 1 [(144,(vI 0))] (za (zo (some 145) .i64 (IntKind.i64.wrap (((0:Nat):Int)+((0:Nat):Int))) 0 (zu) ?_))
     refine zc 3 [(148,(vI 0)),(147,vT),(146,vT)] (za (zae (some 149) (((0:Nat):Int)==((0:Nat):Int)) true (zaq) ?_))
     refine zc 3 [(152,(vI 1)),(151,vT),(150,vT)] (za (zae (some 153) (((1:Nat):Int)==((1:Nat):Int)) true (zaq) ?_))
     refine zc 3 [(156,(vP w40.heap.size 1)),(155,vT),(154,vT)] (za (zm w40.heap.size 1 ((hBw41.ext hEw42).cell rfl) ?_))
     refine zc 1 [(158,(vI (tot 5)))] (za (zae (some 159) ((((tot 5):Nat):Int)==((3:Nat):Int)) true (zaq) ?_))
     refine zc 3 [(162,(vP w40.heap.size 1)),(161,vT),(160,vT)] (za (zm w40.heap.size 1 ((hBw41.ext hEw42).cell rfl) ?_))
     obtain ⟨b4,o4,rfl⟩:=hFz17_0.addr (by omega) (by decide)
     refine za (zah b4 o4 (tot 5) (tot 5) 1 280 ?_)
     refine zc 1 [(165,(vP b4 (o4+1*280+274)))] (za (zm b4 (o4+1*280+274) (((hFz17_0.ext hEw41).ext hEw42).cell (j:=274) (i:=1) Un.zero (by omega) (zbU _)) ?_))
     refine za (zae (some 167) ((wT3.getD 1 Un.zero).sl==((0:Nat):Int)) true (zaq) ?_)
     refine zc 3 [(170,(vP w40.heap.size 1)),(169,vT),(168,vT)] (za (zm w40.heap.size 1 ((hBw41.ext hEw42).cell rfl) ?_))
     refine za (zah b4 o4 (tot 5) (tot 5) 2 280 ?_)
     refine zc 1 [(173,(vP b4 (o4+2*280+274)))] (za (zm b4 (o4+2*280+274) (((hFz17_0.ext hEw41).ext hEw42).cell (j:=274) (i:=2) Un.zero (by omega) (zbU _)) ?_))
     refine za (zae (some 175) ((wT3.getD 2 Un.zero).sl==((1:Nat):Int)) true (zaq) ?_)
     refine zc 2 [(0,vT),(176,vT)] (zf (zb (zj (zl vT ?_))))
     have hX11:Ext w w42:=((((((((Ext.own (((((((((((((((((Ext.own (Ext.own (((hEw1.trans hEw2).trans hEw3).trans hEw4) hCw5 (by omega)) hCw6 (by omega)).trans hEw7).trans hEw8).trans hEw9).trans hEw10).trans hEw11).trans hEw12).trans hEw13).trans hEw14).trans hEw15).trans hX3).trans hEw20).trans hEw21).trans hEw22).trans hEw23).trans hEw24).trans hEw25) hCw26 (by omega)).trans hEw27).trans hEw28).trans hEw29).trans hX10).trans hEw40).trans hEw41).trans hEw42)
     exact ⟨rfl,hX11⟩
   ·refine zaf ([(vI 0),(.slice none 0 0)]) 38 ?_
    intro w43 hBw43 hEw43 hzw43 hlw43
    refine ⟨.inr hEw43, ?_⟩
    refine zx 1 (zp (zcb 4 _ (by first | omega | decide | exact UInt8.toNat_lt _)) ?_)
    rintro _ w44 ⟨rfl,hEw44⟩
    have hzw44:=hEw44.size
    have hX12:Ext w29 w44:=(hEw43.trans hEw44)
    refine ⟨.inr hX12, ?_⟩
    have hK38:=((((hK22.ext hEw28).ext hEw29).ext hEw43).ext hEw44)
    have hK39:=((((((((((((hK13.ext hEw20).ext hEw21).ext hEw22).ext hEw23).ext hEw24).ext hEw25).chg hCw26).ext hEw27).ext hEw28).ext hEw29).ext hEw43).ext hEw44)
    have hK40:=((((((((((((hK14.ext hEw20).ext hEw21).ext hEw22).ext hEw23).ext hEw24).ext hEw25).chg hCw26).ext hEw27).ext hEw28).ext hEw29).ext hEw43).ext hEw44)
    have hK41:=((((((((((((hK15.ext hEw20).ext hEw21).ext hEw22).ext hEw23).ext hEw24).ext hEw25).chg hCw26).ext hEw27).ext hEw28).ext hEw29).ext hEw43).ext hEw44)
    refine zx 3 (zp (zcY 5 4 (za2 4) (mkD 4) _ hK38 (by first | omega | decide) (by first | omega | decide) (by first | omega | decide) (zba wO1) (zaV (n:=5) wO1 rfl) (by first | omega | decide) hK39 hK40 hK41) ?_)
    rintro _ w45 ⟨a9,rfl,hFz20_0,hEw45⟩
    have hzw45:=hEw45.size
    have hlea9:=hFz20_0.le
    rw [show zc4 5 wT1 4 (za2 4) (mkD 4)=wT2 from wE1] at hFz20_0
    rw [show (zaZ (wT1.getD (4/4) Un.zero) (4%4))=0 from wG1]
    have hX13:Ext w29 w45:=((hEw43.trans hEw44).trans hEw45)
    refine ⟨.inr hX13, ?_⟩
    refine zg (hw:=hX13) hT253 [(4,123,(.tuple #[(vA [(vI 5),(.slice a9 (tot 5) (tot 5))]),(vI 0),(vI 0)])),(5,128,(vA [(vI 5),(.slice a9 (tot 5) (tot 5))])),(6,129,(vI 0)),(7,130,(vI 0))] 4 (zx 9 (zG 38 w29.heap.size 0 38 (vA [(vI 5),(.slice a9 (tot 5) (tot 5))]) ([(vI 0),(.slice none 0 0)]) ([(vI 5),(.slice a9 (tot 5) (tot 5))]) ((hBw43.ext hEw44).ext hEw45) (by kernel_rfl) (by first | decide |(simp;done)|(simp;omega)) (by simp [Value.oneCell']) ?_))
    intro w46 hBw46 hCw46
    have hzw46:=hCw46.size
    rw [zy _ _ (by kernel_rfl)] at hBw46
    have hX14:Ext w29 w46:=(Ext.own ((hEw43.trans hEw44).trans hEw45) hCw46 (by omega))
    refine ⟨.inr hX14, ?_⟩
    refine zg (hw:=hX14) hT253 [(10,10,(vI 0)),(11,4,(vI 0))] 2 (zE (zb (ze (zd (za (zO w29.heap.size 0 (hBw46.all) ?_))))))
    refine za (zp (zeo 5 _ (hFz20_0.chg hCw46) (by first | omega | decide) (by first | omega | decide) (by first | omega | decide) (zba wO2) (zaV (n:=5) wO2 rfl) ((hK39.ext hEw45).chg hCw46) ((hK40.ext hEw45).chg hCw46) ((hK41.ext hEw45).chg hCw46)) ?_)
    rintro _ w47 ⟨a10,rfl,hFz21_0,hEw47⟩
    have hzw47:=hEw47.size
    have hlea10:=hFz21_0.le
    rw [show zc8 (tot 5) wT2=wT3 from wE2] at hFz21_0
    refine zc 3 [(135,(vI 0)),(134,(vA [(vI 5),(.slice a10 (tot 5) (tot 5))])),(131,(.tuple #[(vA [(vI 5),(.slice a10 (tot 5) (tot 5))]),(vI 0)]))] (zal ([(vI 5),(.slice a10 (tot 5) (tot 5))]) 38 rfl (by simp [Value.oneCell']) ?_)
    intro w48 hBw48 hEw48 hzw48 hlw48
    refine zc 1 [(6,(vI 0))] (zf (zb (ze (zd (za (zO w47.heap.size 0 (hBw48.all) ?_))))))
    have hK42:=((((hK39.ext hEw45).chg hCw46).ext hEw47).ext hEw48)
    have hK43:=((((hK40.ext hEw45).chg hCw46).ext hEw47).ext hEw48)
    have hK44:=((((hK41.ext hEw45).chg hCw46).ext hEw47).ext hEw48)
    refine za (zp (zer 5 4 _ (hFz21_0.ext hEw48) (by first | omega | decide) (by first | omega | decide) (by first | omega | decide) (zba wO3) (zaV (n:=5) wO3 rfl) (by first | omega | decide) hK42 hK43 hK44) ?_)
    rintro _ w49 ⟨rfl,hEw49⟩
    have hzw49:=hEw49.size
    rw [show zaZ (wT3.getD (4/4) Un.zero) (4%4)=1 from wG3]
    refine zc 5 [(8,(vI 0)),(7,(vI 1)),(140,(vI 0)),(139,(vI 1)),(136,(.tuple #[(vI 1),(vI 0)]))] (zf (zb (ze (zd (zc 2 [(142,(vI 0)),(141,(vI 0))] (za (zo (some 143) .i64 (IntKind.i64.wrap (((0:Nat):Int)+((0:Nat):Int))) 0 (zu) ?_)))))))
    refine zc 1 [(144,(vI 0))] (za (zo (some 145) .i64 (IntKind.i64.wrap (((0:Nat):Int)+((0:Nat):Int))) 0 (zu) ?_))
    refine zc 3 [(148,(vI 0)),(147,vT),(146,vT)] (za (zae (some 149) (((0:Nat):Int)==((0:Nat):Int)) true (zaq) ?_))
    refine zc 3 [(152,(vI 1)),(151,vT),(150,vT)] (za (zae (some 153) (((1:Nat):Int)==((1:Nat):Int)) true (zaq) ?_))
    refine zc 3 [(156,(vP w47.heap.size 1)),(155,vT),(154,vT)] (za (zm w47.heap.size 1 ((hBw48.ext hEw49).cell rfl) ?_))
    refine zc 1 [(158,(vI (tot 5)))] (za (zae (some 159) ((((tot 5):Nat):Int)==((3:Nat):Int)) true (zaq) ?_))
    refine zc 3 [(162,(vP w47.heap.size 1)),(161,vT),(160,vT)] (za (zm w47.heap.size 1 ((hBw48.ext hEw49).cell rfl) ?_))
    obtain ⟨b5,o5,rfl⟩:=hFz21_0.addr (by omega) (by decide)
    refine za (zah b5 o5 (tot 5) (tot 5) 1 280 ?_)
    refine zc 1 [(165,(vP b5 (o5+1*280+274)))] (za (zm b5 (o5+1*280+274) (((hFz21_0.ext hEw48).ext hEw49).cell (j:=274) (i:=1) Un.zero (by omega) (zbU _)) ?_))
    refine za (zae (some 167) ((wT3.getD 1 Un.zero).sl==((0:Nat):Int)) true (zaq) ?_)
    refine zc 3 [(170,(vP w47.heap.size 1)),(169,vT),(168,vT)] (za (zm w47.heap.size 1 ((hBw48.ext hEw49).cell rfl) ?_))
    refine za (zah b5 o5 (tot 5) (tot 5) 2 280 ?_)
    refine zc 1 [(173,(vP b5 (o5+2*280+274)))] (za (zm b5 (o5+2*280+274) (((hFz21_0.ext hEw48).ext hEw49).cell (j:=274) (i:=2) Un.zero (by omega) (zbU _)) ?_))
    refine za (zae (some 175) ((wT3.getD 2 Un.zero).sl==((1:Nat):Int)) true (zaq) ?_)
    refine zc 2 [(0,vT),(176,vT)] (zf (zb (zj (zl vT ?_))))
    have hX15:Ext w w49:=((((((((Ext.own (((((((((((((((((Ext.own (Ext.own (((hEw1.trans hEw2).trans hEw3).trans hEw4) hCw5 (by omega)) hCw6 (by omega)).trans hEw7).trans hEw8).trans hEw9).trans hEw10).trans hEw11).trans hEw12).trans hEw13).trans hEw14).trans hEw15).trans hX3).trans hEw20).trans hEw21).trans hEw22).trans hEw23).trans hEw24).trans hEw25) hCw26 (by omega)).trans hEw27).trans hEw28).trans hEw29).trans hX14).trans hEw47).trans hEw48).trans hEw49)
    exact ⟨rfl,hX15⟩
  ·refine zaf ([(vI 0),(.slice none 0 0)]) 38 ?_
   intro w50 hBw50 hEw50 hzw50 hlw50
   have hX16:Ext w15 w50:=(hEw16.trans hEw50)
   refine ⟨.inr hX16, ?_⟩
   have hK45:=(((((hFz4_0.ext hEw13).ext hEw14).ext hEw15).ext hEw16).ext hEw50)
   have hK46:=((((((hK4.ext hEw12).ext hEw13).ext hEw14).ext hEw15).ext hEw16).ext hEw50)
   have hK47:=((((((hK5.ext hEw12).ext hEw13).ext hEw14).ext hEw15).ext hEw16).ext hEw50)
   have hK48:=((((((hK6.ext hEw12).ext hEw13).ext hEw14).ext hEw15).ext hEw16).ext hEw50)
   refine zx 3 (zp (zcY 5 4 (za2 3) (mkD 3) _ hK45 (by first | omega | decide) (by first | omega | decide) (by first | omega | decide) (zba wO0) (zaV (n:=5) wO0 rfl) (by first | omega | decide) hK46 hK47 hK48) ?_)
   rintro _ w51 ⟨a11,rfl,hFz23_0,hEw51⟩
   have hzw51:=hEw51.size
   have hlea11:=hFz23_0.le
   rw [show zc4 5 wT0 4 (za2 3) (mkD 3)=wT1 from wE0] at hFz23_0
   rw [show (zaZ (wT0.getD (4/4) Un.zero) (4%4))=0 from wG0]
   have hX17:Ext w15 w51:=((hEw16.trans hEw50).trans hEw51)
   refine ⟨.inr hX17, ?_⟩
   refine zg (hw:=hX17) hT93 [(4,38,(.tuple #[(vA [(vI 5),(.slice a11 (tot 5) (tot 5))]),(vI 0),(vI 0)])),(5,43,(vA [(vI 5),(.slice a11 (tot 5) (tot 5))])),(6,44,(vI 0)),(7,45,(vI 0))] 4 (zx 9 (zG 38 w16.heap.size 0 38 (vA [(vI 5),(.slice a11 (tot 5) (tot 5))]) ([(vI 0),(.slice none 0 0)]) ([(vI 5),(.slice a11 (tot 5) (tot 5))]) (hBw50.ext hEw51) (by kernel_rfl) (by first | decide |(simp;done)|(simp;omega)) (by simp [Value.oneCell']) ?_))
   intro w52 hBw52 hCw52
   have hzw52:=hCw52.size
   rw [zy _ _ (by kernel_rfl)] at hBw52
   have hX18:Ext w15 w52:=(Ext.own ((hEw16.trans hEw50).trans hEw51) hCw52 (by omega))
   refine ⟨.inr hX18, ?_⟩
   refine zg (hw:=hX18) hT93 [(10,10,(vI 0)),(11,11,(vI 0))] 2 (zE (zb (ze (zd (za (zO w16.heap.size 0 (hBw52.all) ?_))))))
   refine za (zp (zkM 5 _ (hFz23_0.chg hCw52) (by first | omega | decide) (by first | omega | decide) (by first | omega | decide) (zba wO1) (zaV (n:=5) wO1 rfl) ((hK46.ext hEw51).chg hCw52) ((hK47.ext hEw51).chg hCw52) ((hK48.ext hEw51).chg hCw52)) ?_)
   rintro _ w53 ⟨a12,rfl,hFz24_0,hEw53⟩
   have hzw53:=hEw53.size
   have hlea12:=hFz24_0.le
   rw [wD1,show List.length [(0,1),(1,0)]=2 from rfl] at hFz24_0
   rw [show zbj 5 wT1 (tot 5)= [(0,1),(1,0)] from wD1]
   rw [show List.length ([(0,1),(1,0)])=2 from rfl]
   refine zc 5 [(13,(vI 0)),(12,(.slice a12 2 2)),(50,(vI 0)),(49,(.slice a12 2 2)),(46,(.tuple #[(.slice a12 2 2),(vI 0)]))] (zf (zb (ze (zd (za (zO w16.heap.size 0 ((hBw52.ext hEw53).all) ?_))))))
   have hK49:=(((hK46.ext hEw51).chg hCw52).ext hEw53)
   have hK50:=(((hK47.ext hEw51).chg hCw52).ext hEw53)
   have hK51:=(((hK48.ext hEw51).chg hCw52).ext hEw53)
   refine za (zp (zl5 5 4 _ ((hFz23_0.chg hCw52).ext hEw53) (by first | omega | decide) (by first | omega | decide) (by first | omega | decide) (zba wO1) (zaV (n:=5) wO1 rfl) (by first | omega | decide) hK49 hK50 hK51) ?_)
   rintro _ w54 ⟨rfl,hEw54⟩
   have hzw54:=hEw54.size
   rw [show (wT1.getD (4/4) Un.zero).nd.rs.get (4%4)=wR1 from znx]
   refine zc 3 [(55,(vI 0)),(54,(vA (zM (wR1)))),(51,(.tuple #[(vA (zM (wR1))),(vI 0)]))] (zal (zM (wR1)) 68 (zZ _) (zbb _) ?_)
   intro w55 hBw55 hEw55 hzw55 hlw55
   refine zc 1 [(15,(vI 0))] (zf (zb (ze (ze (zab 52 (fun w56 hEw56 hzw56 hT585=> ?_))))))
   refine zg hT585 [(0,56,(vI 0)),(1,57,(vI 0))] 2 (zn hT585 2 (vI 0) (zY .i64 (IntKind.i64.wrap (((0:Nat):Int)+((0:Nat):Int))) (zu)) (zg hT585 [(3,59,(vI 0))] 1 (zn hT585 4 (vI 0) (zY .i64 (IntKind.i64.wrap (((0:Nat):Int)+((0:Nat):Int))) (zu)) (zg hT585 [(5,61,(vI 0))] 1 (zn hT585 6 (vI 0) (zY .i64 (IntKind.i64.wrap (((0:Nat):Int)+((0:Nat):Int))) (zu)) (zg hT585 [(7,63,(vI 0))] 1 (zn hT585 8 (vI 0) (zY .i64 (IntKind.i64.wrap (((0:Nat):Int)+((0:Nat):Int))) (zu)) (zg hT585 [(9,65,(vI 0))] 1 (zn hT585 10 (vI 0) (zY .i64 (IntKind.i64.wrap (((0:Nat):Int)+((0:Nat):Int))) (zu)) ?_)))))))))
   refine zg hT585 [(11,67,vF),(12,68,vF),(13,69,(vI 0))] 3 (zn hT585 14 vF (zaN (((0:Nat):Int) !=((0:Nat):Int)) (zax)) (zg hT585 [(15,71,vF),(16,72,vF),(17,73,(vI 0))] 3 (zn hT585 18 vF (zaN (((0:Nat):Int) !=((0:Nat):Int)) (zax)) (zg hT585 [(19,75,vF),(20,76,vF),(21,77,(.slice a12 2 2)),(22,78,(vI 2)),(23,79,vF),(24,80,vF),(25,81,vF),(26,82,(.slice a12 2 2))] 8 ?_))))
   obtain ⟨b6,o6,rfl⟩:=hFz24_0.addr (by omega) (by decide)
   refine zas hT585 27 b6 o6 2 2 0 2 ?_
   have hK52:=(((hFz24_0.ext hEw54).ext hEw55).ext hEw56)
   refine zaO hT585 28 b6 (o6+0*2) (fun w' hC=>((hK52.ext hC).at (0,0) (by omega))) (zg hT585 [(29,85,(vA [(vI 0),(vI 1)]))] 1 (zn hT585 30 vF (zag (bo .neq 89 (.tmp 84) (.tmp 85) (vA [(vI ((([(0,1),(1,0)]).getD 0 (0,0)).1)),(vI ((([(0,1),(1,0)]).getD 0 (0,0)).2))]) (vA [(vI 0),(vI 1)])) (fun w' hC=>zat (r:=true) (T:=89) ((zdL (dd:=9998) (t:=89) [(vI ((([(0,1),(1,0)]).getD 0 (0,0)).1)),(vI ((([(0,1),(1,0)]).getD 0 (0,0)).2))] [(vI 0),(vI 1)]).trans (congrArg (fun b=>Result.ok b _) (show (zgM [(vI ((([(0,1),(1,0)]).getD 0 (0,0)).1)),(vI ((([(0,1),(1,0)]).getD 0 (0,0)).2))] [(vI 0),(vI 1)])=true from rfl))))) (zg hT585 [(31,87,vF),(32,88,vF),(33,89,(.slice (pA b6 o6) 2 2))] 3 (zas hT585 34 b6 o6 2 2 1 2 (zaO hT585 35 b6 (o6+1*2) (fun w' hC=>((hK52.ext hC).at (0,0) (by omega))) (zg hT585 [(36,92,(vA [(vI 1),(vI 0)]))] 1 (zn hT585 37 vF (zag (bo .neq 89 (.tmp 91) (.tmp 92) (vA [(vI ((([(0,1),(1,0)]).getD 1 (0,0)).1)),(vI ((([(0,1),(1,0)]).getD 1 (0,0)).2))]) (vA [(vI 1),(vI 0)])) (fun w' hC=>zat (r:=true) (T:=89) ((zdL (dd:=9998) (t:=89) [(vI ((([(0,1),(1,0)]).getD 1 (0,0)).1)),(vI ((([(0,1),(1,0)]).getD 1 (0,0)).2))] [(vI 1),(vI 0)]).trans (congrArg (fun b=>Result.ok b _) (show (zgM [(vI ((([(0,1),(1,0)]).getD 1 (0,0)).1)),(vI ((([(0,1),(1,0)]).getD 1 (0,0)).2))] [(vI 1),(vI 0)])=true from rfl))))) (zg hT585 [(38,94,vF),(39,95,vF)] 2 ?_))))))))
   refine zan hT585 40 w54.heap.size 0 (fun w' hC=>(((hBw55.ext hEw56).ext hC).all)) (zZ _) ?_
   have hK53:=(((((hK8.ext hX18).ext hEw53).ext hEw54).ext hEw55).ext hEw56)
   refine zan hT585 42 w2.heap.size 0 (fun w' hC=>((hK53.ext hC).all)) (zam _) (zx 41 (zp (zcb 3 _ (by first | omega | decide | exact UInt8.toNat_lt _)) ?_))
   rintro _ w57 ⟨rfl,hEw57⟩
   have hzw57:=hEw57.size
   refine ⟨.inr hEw57, ?_⟩
   refine zn (hw:=hEw57) hT585 43 (vA (zM wR1)) (zag (Instr.build 68 #[(0,(vB 1)),(1,(vA (zbf (za2 3)))),(2,(vA (zR (mkD 3))))]) (fun w' hC=>(zdb 1 (za2 3) (mkD 3) (by decide)).trans (congrArg (fun z:Rec=>Result.ok (Value.agg (zM z).toArray) _) (show (⟨1,(za2 3),(mkD 3),by decide⟩:Rec)=wR1 from rfl)))) (zn (hw:=hEw57) hT585 44 vF (zag (bo .neq 68 (.tmp 96) (.tmp 99) (vA (zM (wR1))) (vA (zM wR1))) (fun w' hC=>zat (r:=true) (T:=68) ((zdj (dd:=9997) (t:=68) (t8:=5) (tn:=56) (td:=59) (e:=5) (t32:=53) (t64:=54) (wR1) wR1).trans (congrArg (fun b=>Result.ok b _) (show ((wR1).eqb wR1)=true from (Rec.eqb_iff _ _).2 rfl))))) (zg (hw:=hEw57) hT585 [(45,101,vF),(46,102,vF),(47,103,(vP w16.heap.size 1))] 3 ?_))
   have hK54:=((((hBw52.ext hEw53).ext hEw54).ext hEw55).ext hEw56)
   refine zA (hw:=hEw57) hT585 48 w16.heap.size 1 (fun w' hC=>((hK54.ext hC).cell rfl)) (zg (hw:=hEw57) hT585 [(49,105,(vI (tot 5)))] 1 (zn (hw:=hEw57) hT585 50 vF (zaN ((((tot 5):Nat):Int) !=((3:Nat):Int)) (zax)) (zg (hw:=hEw57) hT585 [(51,107,vF)] 1 (zE (zb (zh (zk (zb (ze ?_)))))))))
   refine zd (zc 1 [(108,(vA (zJ (Nod.mt 0 1))))] (zal (zJ (Nod.mt 0 1)) 74 (zQ _) (zb0 _) ?_))
   intro w58 hBw58 hEw58 hzw58 hlw58
   refine zf (zb (ze (zd ?_)))
   have hK55:=(((hBw55.ext hEw56).ext hEw57).ext hEw58)
   refine za (zT w54.heap.size 0 (hK55.all) (zZ _) ?_)
   refine zc 1 [(110,(vP w57.heap.size 2))] (za (zbg w57.heap.size 2 0 4 35 ?_))
   refine za (zG 68 w57.heap.size (2+0*35) 74 (vA (zM (wR1))) (zJ (Nod.mt 0 1)) (zM (wR1)) hBw58 (by rw [zZ];kernel_rfl) (by first |(simp;done)|(simp;omega)) (zbb _) ?_)
   intro w59 hBw59 hCw59
   have hzw59:=hCw59.size
   rw [show (zV (zJ (Nod.mt 0 1)) (2+0*35) (zM (wR1)):List Value)=zJ ((Nod.mt 0 1).setR 0 (wR1)) from nod_setR (by omega)] at hBw59
   refine zf (zb (ze (ze (zab 11 (fun w60 hEw60 hzw60 hT654=> ?_)))))
   refine zg hT654 [(0,112,(vP w16.heap.size 1))] 1 ?_
   have hK56:=((((hK54.ext hEw57).ext hEw58).chg hCw59).ext hEw60)
   refine zA hT654 1 w16.heap.size 1 (fun w' hC=>((hK56.ext hC).cell rfl)) ?_
   obtain ⟨b7,o7,rfl⟩:=hFz23_0.addr (by omega) (by decide)
   refine zas hT654 2 b7 o7 (tot 5) (tot 5) 2 280 (zg hT654 [(3,115,(vP b7 (o7+2*280))),(4,116,(vP b7 (o7+2*280+142)))] 2 (zaP hT654 5 b7 (o7+2*280+142) 1 4 33 ?_))
   have hK57:=(((((((((hFz23_0.chg hCw52).ext hEw53).ext hEw54).ext hEw55).ext hEw56).ext hEw57).ext hEw58).chg hCw59).ext hEw60)
   refine zan hT654 6 b7 (o7+2*280+142+1*33) (fun w' hC=>(((hK57.ext hC).at Un.zero (by omega)).sub2 142 _ (zai ((wT1.getD 2 Un.zero).nd.es.get 1)) (znl (by omega)))) (zaK _) (zan hT654 7 w57.heap.size 0 (fun w' hC=>(((hBw59.ext hEw60).ext hC).all)) (zQ _) (zx 8 (zp (zfA ((Nod.mt 0 1).setR 0 (wR1)) _) ?_)))
   rintro _ w61 ⟨rfl,hEw61⟩
   have hzw61:=hEw61.size
   refine ⟨.inr hEw61, ?_⟩
   refine zn (hw:=hEw61) hT654 9 (vA (zai (⟨1,(zS (zN ((Nod.mt 0 1).setR 0 (wR1)))),by decide⟩))) (zag (Instr.build 71 #[(0,(vB 1)),(1,(vA (zR (zS (zN ((Nod.mt 0 1).setR 0 (wR1)))))))]) (fun w' hC=>zcA 1 (zS (zN ((Nod.mt 0 1).setR 0 (wR1)))) (by decide))) (zn (hw:=hEw61) hT654 10 vF (zag (bo .neq 71 (.tmp 118) (.tmp 121) (vA (zai ((wT1.getD 2 Un.zero).nd.es.get 1))) (vA (zai (⟨1,(zS (zN ((Nod.mt 0 1).setR 0 (wR1)))),by decide⟩)))) (fun w' hC=>zat (r:=true) (T:=71) ((zcs (dd:=9997) (t:=71) (t8:=5) (td:=59) (e:=5) ((wT1.getD 2 Un.zero).nd.es.get 1) (⟨1,(zS (zN ((Nod.mt 0 1).setR 0 (wR1)))),by decide⟩)).trans (congrArg (fun b=>Result.ok b _) (show (((wT1.getD 2 Un.zero).nd.es.get 1).eqb (⟨1,(zS (zN ((Nod.mt 0 1).setR 0 (wR1)))),by decide⟩))=true from (Ent.eqb_iff _ _).2 zqw))))) (zE (zb (zh (zk (zb (ze (zab 12 (fun w62 hEw62 hzw62 hT677=> ?_)))))))))
   refine zaO hT677 0 w16.heap.size 0 (fun w' hC=>((((hK56.ext hEw61).ext hEw62).ext hC).all)) ?_
   have hK58:=((((((((((((((((((((hBw6.ext hEw7).ext hEw8).ext hEw9).ext hEw10).ext hEw11).ext hEw12).ext hEw13).ext hEw14).ext hEw15).ext hX18).ext hEw53).ext hEw54).ext hEw55).ext hEw56).ext hEw57).ext hEw58).chg hCw59).ext hEw60).ext hEw61).ext hEw62)
   refine zan hT677 2 w3.heap.size 0 (fun w' hC=>((hK58.ext hC).all)) (zam _) (zbt 1 8 ?_ ?_)
   ·refine zp (zcb 4 _ (by first | omega | decide | exact UInt8.toNat_lt _)) ?_
    rintro _ w63 ⟨rfl,hEw63⟩
    have hzw63:=hEw63.size
    refine ⟨.inr hEw63, ?_⟩
    refine zbt 3 8 ?_ ?_
    ·have hK59:=(((hK57.ext hEw61).ext hEw62).ext hEw63)
     have hK60:=((((((((((hK49.ext hEw54).ext hEw55).ext hEw56).ext hEw57).ext hEw58).chg hCw59).ext hEw60).ext hEw61).ext hEw62).ext hEw63)
     have hK61:=((((((((((hK50.ext hEw54).ext hEw55).ext hEw56).ext hEw57).ext hEw58).chg hCw59).ext hEw60).ext hEw61).ext hEw62).ext hEw63)
     have hK62:=((((((((((hK51.ext hEw54).ext hEw55).ext hEw56).ext hEw57).ext hEw58).chg hCw59).ext hEw60).ext hEw61).ext hEw62).ext hEw63)
     refine zp (zcY 5 4 (za2 4) (mkD 4) _ hK59 (by first | omega | decide) (by first | omega | decide) (by first | omega | decide) (zba wO1) (zaV (n:=5) wO1 rfl) (by first | omega | decide) hK60 hK61 hK62) ?_
     rintro _ w64 ⟨a13,rfl,hFz29_0,hEw64⟩
     have hzw64:=hEw64.size
     have hlea13:=hFz29_0.le
     rw [show zc4 5 wT1 4 (za2 4) (mkD 4)=wT2 from wE1] at hFz29_0
     rw [show (zaZ (wT1.getD (4/4) Un.zero) (4%4))=0 from wG1]
     have hX19:Ext w62 w64:=(hEw63.trans hEw64)
     refine ⟨.inr hX19, ?_⟩
     refine zg (hw:=hX19) hT677 [(4,123,(.tuple #[(vA [(vI 5),(.slice a13 (tot 5) (tot 5))]),(vI 0),(vI 0)])),(5,128,(vA [(vI 5),(.slice a13 (tot 5) (tot 5))])),(6,129,(vI 0)),(7,130,(vI 0))] 4 (zx 8 (zaf ([(vI 0),(.slice none 0 0)]) 38 ?_))
     intro w65 hBw65 hEw65 hzw65 hlw65
     have hX20:Ext w62 w65:=((hEw63.trans hEw64).trans hEw65)
     refine ⟨.inr hX20, ?_⟩
     refine zx 9 (zG 38 w64.heap.size 0 38 (vA [(vI 5),(.slice a13 (tot 5) (tot 5))]) ([(vI 0),(.slice none 0 0)]) ([(vI 5),(.slice a13 (tot 5) (tot 5))]) hBw65 (by kernel_rfl) (by first | decide |(simp;done)|(simp;omega)) (by simp [Value.oneCell']) ?_)
     intro w66 hBw66 hCw66
     have hzw66:=hCw66.size
     rw [zy _ _ (by kernel_rfl)] at hBw66
     have hX21:Ext w62 w66:=(Ext.own ((hEw63.trans hEw64).trans hEw65) hCw66 (by omega))
     refine ⟨.inr hX21, ?_⟩
     refine zg (hw:=hX21) hT677 [(10,10,(vI 0)),(11,4,(vI 0))] 2 (zE (zb (ze (zd (za (zO w64.heap.size 0 (hBw66.all) ?_))))))
     have hK63:=(((hK60.ext hEw64).ext hEw65).chg hCw66)
     have hK64:=(((hK61.ext hEw64).ext hEw65).chg hCw66)
     have hK65:=(((hK62.ext hEw64).ext hEw65).chg hCw66)
     refine za (zp (zeo 5 _ ((hFz29_0.ext hEw65).chg hCw66) (by first | omega | decide) (by first | omega | decide) (by first | omega | decide) (zba wO2) (zaV (n:=5) wO2 rfl) hK63 hK64 hK65) ?_)
     rintro _ w67 ⟨a14,rfl,hFz30_0,hEw67⟩
     have hzw67:=hEw67.size
     have hlea14:=hFz30_0.le
     rw [show zc8 (tot 5) wT2=wT3 from wE2] at hFz30_0
     refine zc 3 [(135,(vI 0)),(134,(vA [(vI 5),(.slice a14 (tot 5) (tot 5))])),(131,(.tuple #[(vA [(vI 5),(.slice a14 (tot 5) (tot 5))]),(vI 0)]))] (zal ([(vI 5),(.slice a14 (tot 5) (tot 5))]) 38 rfl (by simp [Value.oneCell']) ?_)
     intro w68 hBw68 hEw68 hzw68 hlw68
     refine zc 1 [(6,(vI 0))] (zf (zb (ze (zd (za (zO w67.heap.size 0 (hBw68.all) ?_))))))
     refine za (zp (zer 5 4 _ (hFz30_0.ext hEw68) (by first | omega | decide) (by first | omega | decide) (by first | omega | decide) (zba wO3) (zaV (n:=5) wO3 rfl) (by first | omega | decide) ((hK63.ext hEw67).ext hEw68) ((hK64.ext hEw67).ext hEw68) ((hK65.ext hEw67).ext hEw68)) ?_)
     rintro _ w69 ⟨rfl,hEw69⟩
     have hzw69:=hEw69.size
     rw [show zaZ (wT3.getD (4/4) Un.zero) (4%4)=1 from wG3]
     refine zc 5 [(8,(vI 0)),(7,(vI 1)),(140,(vI 0)),(139,(vI 1)),(136,(.tuple #[(vI 1),(vI 0)]))] (zf (zb (ze (zd (zc 2 [(142,(vI 0)),(141,(vI 0))] (za (zo (some 143) .i64 (IntKind.i64.wrap (((0:Nat):Int)+((0:Nat):Int))) 0 (zu) ?_)))))))
     refine zc 1 [(144,(vI 0))] (za (zo (some 145) .i64 (IntKind.i64.wrap (((0:Nat):Int)+((0:Nat):Int))) 0 (zu) ?_))
     refine zc 3 [(148,(vI 0)),(147,vT),(146,vT)] (za (zae (some 149) (((0:Nat):Int)==((0:Nat):Int)) true (zaq) ?_))
     refine zc 3 [(152,(vI 1)),(151,vT),(150,vT)] (za (zae (some 153) (((1:Nat):Int)==((1:Nat):Int)) true (zaq) ?_))
     refine zc 3 [(156,(vP w67.heap.size 1)),(155,vT),(154,vT)] (za (zm w67.heap.size 1 ((hBw68.ext hEw69).cell rfl) ?_))
     refine zc 1 [(158,(vI (tot 5)))] (za (zae (some 159) ((((tot 5):Nat):Int)==((3:Nat):Int)) true (zaq) ?_))
     refine zc 3 [(162,(vP w67.heap.size 1)),(161,vT),(160,vT)] (za (zm w67.heap.size 1 ((hBw68.ext hEw69).cell rfl) ?_))
     obtain ⟨b8,o8,rfl⟩:=hFz30_0.addr (by omega) (by decide)
     refine za (zah b8 o8 (tot 5) (tot 5) 1 280 ?_)
     refine zc 1 [(165,(vP b8 (o8+1*280+274)))] (za (zm b8 (o8+1*280+274) (((hFz30_0.ext hEw68).ext hEw69).cell (j:=274) (i:=1) Un.zero (by omega) (zbU _)) ?_))
     refine za (zae (some 167) ((wT3.getD 1 Un.zero).sl==((0:Nat):Int)) true (zaq) ?_)
     refine zc 3 [(170,(vP w67.heap.size 1)),(169,vT),(168,vT)] (za (zm w67.heap.size 1 ((hBw68.ext hEw69).cell rfl) ?_))
     refine za (zah b8 o8 (tot 5) (tot 5) 2 280 ?_)
     refine zc 1 [(173,(vP b8 (o8+2*280+274)))] (za (zm b8 (o8+2*280+274) (((hFz30_0.ext hEw68).ext hEw69).cell (j:=274) (i:=2) Un.zero (by omega) (zbU _)) ?_))
     refine za (zae (some 175) ((wT3.getD 2 Un.zero).sl==((1:Nat):Int)) true (zaq) ?_)
     refine zc 2 [(0,vT),(176,vT)] (zf (zb (zj (zl vT ?_))))
     have hX22:Ext w w69:=((((((((Ext.own (((((((((((((((((Ext.own (Ext.own (((hEw1.trans hEw2).trans hEw3).trans hEw4) hCw5 (by omega)) hCw6 (by omega)).trans hEw7).trans hEw8).trans hEw9).trans hEw10).trans hEw11).trans hEw12).trans hEw13).trans hEw14).trans hEw15).trans hX18).trans hEw53).trans hEw54).trans hEw55).trans hEw56).trans hEw57).trans hEw58) hCw59 (by omega)).trans hEw60).trans hEw61).trans hEw62).trans hX21).trans hEw67).trans hEw68).trans hEw69)
     exact ⟨rfl,hX22⟩
    ·refine zaf ([(vI 0),(.slice none 0 0)]) 38 ?_
     intro w70 hBw70 hEw70 hzw70 hlw70
     have hX23:Ext w62 w70:=(hEw63.trans hEw70)
     refine ⟨.inr hX23, ?_⟩
     have hK66:=((((hK57.ext hEw61).ext hEw62).ext hEw63).ext hEw70)
     have hK67:=(((((((((((hK49.ext hEw54).ext hEw55).ext hEw56).ext hEw57).ext hEw58).chg hCw59).ext hEw60).ext hEw61).ext hEw62).ext hEw63).ext hEw70)
     have hK68:=(((((((((((hK50.ext hEw54).ext hEw55).ext hEw56).ext hEw57).ext hEw58).chg hCw59).ext hEw60).ext hEw61).ext hEw62).ext hEw63).ext hEw70)
     have hK69:=(((((((((((hK51.ext hEw54).ext hEw55).ext hEw56).ext hEw57).ext hEw58).chg hCw59).ext hEw60).ext hEw61).ext hEw62).ext hEw63).ext hEw70)
     refine zx 3 (zp (zcY 5 4 (za2 4) (mkD 4) _ hK66 (by first | omega | decide) (by first | omega | decide) (by first | omega | decide) (zba wO1) (zaV (n:=5) wO1 rfl) (by first | omega | decide) hK67 hK68 hK69) ?_)
     rintro _ w71 ⟨a15,rfl,hFz32_0,hEw71⟩
     have hzw71:=hEw71.size
     have hlea15:=hFz32_0.le
     rw [show zc4 5 wT1 4 (za2 4) (mkD 4)=wT2 from wE1] at hFz32_0
     rw [show (zaZ (wT1.getD (4/4) Un.zero) (4%4))=0 from wG1]
     have hX24:Ext w62 w71:=((hEw63.trans hEw70).trans hEw71)
     refine ⟨.inr hX24, ?_⟩
     refine zg (hw:=hX24) hT677 [(4,123,(.tuple #[(vA [(vI 5),(.slice a15 (tot 5) (tot 5))]),(vI 0),(vI 0)])),(5,128,(vA [(vI 5),(.slice a15 (tot 5) (tot 5))])),(6,129,(vI 0)),(7,130,(vI 0))] 4 (zx 9 (zG 38 w63.heap.size 0 38 (vA [(vI 5),(.slice a15 (tot 5) (tot 5))]) ([(vI 0),(.slice none 0 0)]) ([(vI 5),(.slice a15 (tot 5) (tot 5))]) (hBw70.ext hEw71) (by kernel_rfl) (by first | decide |(simp;done)|(simp;omega)) (by simp [Value.oneCell']) ?_))
     intro w72 hBw72 hCw72
     have hzw72:=hCw72.size
     rw [zy _ _ (by kernel_rfl)] at hBw72
     have hX25:Ext w62 w72:=(Ext.own ((hEw63.trans hEw70).trans hEw71) hCw72 (by omega))
     refine ⟨.inr hX25, ?_⟩
     refine zg (hw:=hX25) hT677 [(10,10,(vI 0)),(11,4,(vI 0))] 2 (zE (zb (ze (zd (za (zO w63.heap.size 0 (hBw72.all) ?_))))))
     refine za (zp (zeo 5 _ (hFz32_0.chg hCw72) (by first | omega | decide) (by first | omega | decide) (by first | omega | decide) (zba wO2) (zaV (n:=5) wO2 rfl) ((hK67.ext hEw71).chg hCw72) ((hK68.ext hEw71).chg hCw72) ((hK69.ext hEw71).chg hCw72)) ?_)
     rintro _ w73 ⟨a16,rfl,hFz33_0,hEw73⟩
     have hzw73:=hEw73.size
     have hlea16:=hFz33_0.le
     rw [show zc8 (tot 5) wT2=wT3 from wE2] at hFz33_0
     refine zc 3 [(135,(vI 0)),(134,(vA [(vI 5),(.slice a16 (tot 5) (tot 5))])),(131,(.tuple #[(vA [(vI 5),(.slice a16 (tot 5) (tot 5))]),(vI 0)]))] (zal ([(vI 5),(.slice a16 (tot 5) (tot 5))]) 38 rfl (by simp [Value.oneCell']) ?_)
     intro w74 hBw74 hEw74 hzw74 hlw74
     refine zc 1 [(6,(vI 0))] (zf (zb (ze (zd (za (zO w73.heap.size 0 (hBw74.all) ?_))))))
     have hK70:=((((hK67.ext hEw71).chg hCw72).ext hEw73).ext hEw74)
     have hK71:=((((hK68.ext hEw71).chg hCw72).ext hEw73).ext hEw74)
     have hK72:=((((hK69.ext hEw71).chg hCw72).ext hEw73).ext hEw74)
     refine za (zp (zer 5 4 _ (hFz33_0.ext hEw74) (by first | omega | decide) (by first | omega | decide) (by first | omega | decide) (zba wO3) (zaV (n:=5) wO3 rfl) (by first | omega | decide) hK70 hK71 hK72) ?_)
     rintro _ w75 ⟨rfl,hEw75⟩
     have hzw75:=hEw75.size
     rw [show zaZ (wT3.getD (4/4) Un.zero) (4%4)=1 from wG3]
     refine zc 5 [(8,(vI 0)),(7,(vI 1)),(140,(vI 0)),(139,(vI 1)),(136,(.tuple #[(vI 1),(vI 0)]))] (zf (zb (ze (zd (zc 2 [(142,(vI 0)),(141,(vI 0))] (za (zo (some 143) .i64 (IntKind.i64.wrap (((0:Nat):Int)+((0:Nat):Int))) 0 (zu) ?_)))))))
     refine zc 1 [(144,(vI 0))] (za (zo (some 145) .i64 (IntKind.i64.wrap (((0:Nat):Int)+((0:Nat):Int))) 0 (zu) ?_))
     refine zc 3 [(148,(vI 0)),(147,vT),(146,vT)] (za (zae (some 149) (((0:Nat):Int)==((0:Nat):Int)) true (zaq) ?_))
     refine zc 3 [(152,(vI 1)),(151,vT),(150,vT)] (za (zae (some 153) (((1:Nat):Int)==((1:Nat):Int)) true (zaq) ?_))
     refine zc 3 [(156,(vP w73.heap.size 1)),(155,vT),(154,vT)] (za (zm w73.heap.size 1 ((hBw74.ext hEw75).cell rfl) ?_))
     refine zc 1 [(158,(vI (tot 5)))] (za (zae (some 159) ((((tot 5):Nat):Int)==((3:Nat):Int)) true (zaq) ?_))
     refine zc 3 [(162,(vP w73.heap.size 1)),(161,vT),(160,vT)] (za (zm w73.heap.size 1 ((hBw74.ext hEw75).cell rfl) ?_))
     obtain ⟨b9,o9,rfl⟩:=hFz33_0.addr (by omega) (by decide)
     refine za (zah b9 o9 (tot 5) (tot 5) 1 280 ?_)
     refine zc 1 [(165,(vP b9 (o9+1*280+274)))] (za (zm b9 (o9+1*280+274) (((hFz33_0.ext hEw74).ext hEw75).cell (j:=274) (i:=1) Un.zero (by omega) (zbU _)) ?_))
     refine za (zae (some 167) ((wT3.getD 1 Un.zero).sl==((0:Nat):Int)) true (zaq) ?_)
     refine zc 3 [(170,(vP w73.heap.size 1)),(169,vT),(168,vT)] (za (zm w73.heap.size 1 ((hBw74.ext hEw75).cell rfl) ?_))
     refine za (zah b9 o9 (tot 5) (tot 5) 2 280 ?_)
     refine zc 1 [(173,(vP b9 (o9+2*280+274)))] (za (zm b9 (o9+2*280+274) (((hFz33_0.ext hEw74).ext hEw75).cell (j:=274) (i:=2) Un.zero (by omega) (zbU _)) ?_))
     refine za (zae (some 175) ((wT3.getD 2 Un.zero).sl==((1:Nat):Int)) true (zaq) ?_)
     refine zc 2 [(0,vT),(176,vT)] (zf (zb (zj (zl vT ?_))))
     have hX26:Ext w w75:=((((((((Ext.own (((((((((((((((((Ext.own (Ext.own (((hEw1.trans hEw2).trans hEw3).trans hEw4) hCw5 (by omega)) hCw6 (by omega)).trans hEw7).trans hEw8).trans hEw9).trans hEw10).trans hEw11).trans hEw12).trans hEw13).trans hEw14).trans hEw15).trans hX18).trans hEw53).trans hEw54).trans hEw55).trans hEw56).trans hEw57).trans hEw58) hCw59 (by omega)).trans hEw60).trans hEw61).trans hEw62).trans hX25).trans hEw73).trans hEw74).trans hEw75)
     exact ⟨rfl,hX26⟩
   ·refine zaf ([(vI 0),(.slice none 0 0)]) 38 ?_
    intro w76 hBw76 hEw76 hzw76 hlw76
    refine ⟨.inr hEw76, ?_⟩
    refine zx 1 (zp (zcb 4 _ (by first | omega | decide | exact UInt8.toNat_lt _)) ?_)
    rintro _ w77 ⟨rfl,hEw77⟩
    have hzw77:=hEw77.size
    have hX27:Ext w62 w77:=(hEw76.trans hEw77)
    refine ⟨.inr hX27, ?_⟩
    have hK73:=((((hK57.ext hEw61).ext hEw62).ext hEw76).ext hEw77)
    have hK74:=(((((((((((hK49.ext hEw54).ext hEw55).ext hEw56).ext hEw57).ext hEw58).chg hCw59).ext hEw60).ext hEw61).ext hEw62).ext hEw76).ext hEw77)
    have hK75:=(((((((((((hK50.ext hEw54).ext hEw55).ext hEw56).ext hEw57).ext hEw58).chg hCw59).ext hEw60).ext hEw61).ext hEw62).ext hEw76).ext hEw77)
    have hK76:=(((((((((((hK51.ext hEw54).ext hEw55).ext hEw56).ext hEw57).ext hEw58).chg hCw59).ext hEw60).ext hEw61).ext hEw62).ext hEw76).ext hEw77)
    refine zx 3 (zp (zcY 5 4 (za2 4) (mkD 4) _ hK73 (by first | omega | decide) (by first | omega | decide) (by first | omega | decide) (zba wO1) (zaV (n:=5) wO1 rfl) (by first | omega | decide) hK74 hK75 hK76) ?_)
    rintro _ w78 ⟨a17,rfl,hFz36_0,hEw78⟩
    have hzw78:=hEw78.size
    have hlea17:=hFz36_0.le
    rw [show zc4 5 wT1 4 (za2 4) (mkD 4)=wT2 from wE1] at hFz36_0
    rw [show (zaZ (wT1.getD (4/4) Un.zero) (4%4))=0 from wG1]
    have hX28:Ext w62 w78:=((hEw76.trans hEw77).trans hEw78)
    refine ⟨.inr hX28, ?_⟩
    refine zg (hw:=hX28) hT677 [(4,123,(.tuple #[(vA [(vI 5),(.slice a17 (tot 5) (tot 5))]),(vI 0),(vI 0)])),(5,128,(vA [(vI 5),(.slice a17 (tot 5) (tot 5))])),(6,129,(vI 0)),(7,130,(vI 0))] 4 (zx 9 (zG 38 w62.heap.size 0 38 (vA [(vI 5),(.slice a17 (tot 5) (tot 5))]) ([(vI 0),(.slice none 0 0)]) ([(vI 5),(.slice a17 (tot 5) (tot 5))]) ((hBw76.ext hEw77).ext hEw78) (by kernel_rfl) (by first | decide |(simp;done)|(simp;omega)) (by simp [Value.oneCell']) ?_))
    intro w79 hBw79 hCw79
    have hzw79:=hCw79.size
    rw [zy _ _ (by kernel_rfl)] at hBw79
    have hX29:Ext w62 w79:=(Ext.own ((hEw76.trans hEw77).trans hEw78) hCw79 (by omega))
    refine ⟨.inr hX29, ?_⟩
    refine zg (hw:=hX29) hT677 [(10,10,(vI 0)),(11,4,(vI 0))] 2 (zE (zb (ze (zd (za (zO w62.heap.size 0 (hBw79.all) ?_))))))
    refine za (zp (zeo 5 _ (hFz36_0.chg hCw79) (by first | omega | decide) (by first | omega | decide) (by first | omega | decide) (zba wO2) (zaV (n:=5) wO2 rfl) ((hK74.ext hEw78).chg hCw79) ((hK75.ext hEw78).chg hCw79) ((hK76.ext hEw78).chg hCw79)) ?_)
    rintro _ w80 ⟨a18,rfl,hFz37_0,hEw80⟩
    have hzw80:=hEw80.size
    have hlea18:=hFz37_0.le
    rw [show zc8 (tot 5) wT2=wT3 from wE2] at hFz37_0
    refine zc 3 [(135,(vI 0)),(134,(vA [(vI 5),(.slice a18 (tot 5) (tot 5))])),(131,(.tuple #[(vA [(vI 5),(.slice a18 (tot 5) (tot 5))]),(vI 0)]))] (zal ([(vI 5),(.slice a18 (tot 5) (tot 5))]) 38 rfl (by simp [Value.oneCell']) ?_)
    intro w81 hBw81 hEw81 hzw81 hlw81
    refine zc 1 [(6,(vI 0))] (zf (zb (ze (zd (za (zO w80.heap.size 0 (hBw81.all) ?_))))))
    have hK77:=((((hK74.ext hEw78).chg hCw79).ext hEw80).ext hEw81)
    have hK78:=((((hK75.ext hEw78).chg hCw79).ext hEw80).ext hEw81)
    have hK79:=((((hK76.ext hEw78).chg hCw79).ext hEw80).ext hEw81)
    refine za (zp (zer 5 4 _ (hFz37_0.ext hEw81) (by first | omega | decide) (by first | omega | decide) (by first | omega | decide) (zba wO3) (zaV (n:=5) wO3 rfl) (by first | omega | decide) hK77 hK78 hK79) ?_)
    rintro _ w82 ⟨rfl,hEw82⟩
    have hzw82:=hEw82.size
    rw [show zaZ (wT3.getD (4/4) Un.zero) (4%4)=1 from wG3]
    refine zc 5 [(8,(vI 0)),(7,(vI 1)),(140,(vI 0)),(139,(vI 1)),(136,(.tuple #[(vI 1),(vI 0)]))] (zf (zb (ze (zd (zc 2 [(142,(vI 0)),(141,(vI 0))] (za (zo (some 143) .i64 (IntKind.i64.wrap (((0:Nat):Int)+((0:Nat):Int))) 0 (zu) ?_)))))))
    refine zc 1 [(144,(vI 0))] (za (zo (some 145) .i64 (IntKind.i64.wrap (((0:Nat):Int)+((0:Nat):Int))) 0 (zu) ?_))
    refine zc 3 [(148,(vI 0)),(147,vT),(146,vT)] (za (zae (some 149) (((0:Nat):Int)==((0:Nat):Int)) true (zaq) ?_))
    refine zc 3 [(152,(vI 1)),(151,vT),(150,vT)] (za (zae (some 153) (((1:Nat):Int)==((1:Nat):Int)) true (zaq) ?_))
    refine zc 3 [(156,(vP w80.heap.size 1)),(155,vT),(154,vT)] (za (zm w80.heap.size 1 ((hBw81.ext hEw82).cell rfl) ?_))
    refine zc 1 [(158,(vI (tot 5)))] (za (zae (some 159) ((((tot 5):Nat):Int)==((3:Nat):Int)) true (zaq) ?_))
    refine zc 3 [(162,(vP w80.heap.size 1)),(161,vT),(160,vT)] (za (zm w80.heap.size 1 ((hBw81.ext hEw82).cell rfl) ?_))
    obtain ⟨b10,o10,rfl⟩:=hFz37_0.addr (by omega) (by decide)
    refine za (zah b10 o10 (tot 5) (tot 5) 1 280 ?_)
    refine zc 1 [(165,(vP b10 (o10+1*280+274)))] (za (zm b10 (o10+1*280+274) (((hFz37_0.ext hEw81).ext hEw82).cell (j:=274) (i:=1) Un.zero (by omega) (zbU _)) ?_))
    refine za (zae (some 167) ((wT3.getD 1 Un.zero).sl==((0:Nat):Int)) true (zaq) ?_)
    refine zc 3 [(170,(vP w80.heap.size 1)),(169,vT),(168,vT)] (za (zm w80.heap.size 1 ((hBw81.ext hEw82).cell rfl) ?_))
    refine za (zah b10 o10 (tot 5) (tot 5) 2 280 ?_)
    refine zc 1 [(173,(vP b10 (o10+2*280+274)))] (za (zm b10 (o10+2*280+274) (((hFz37_0.ext hEw81).ext hEw82).cell (j:=274) (i:=2) Un.zero (by omega) (zbU _)) ?_))
    refine za (zae (some 175) ((wT3.getD 2 Un.zero).sl==((1:Nat):Int)) true (zaq) ?_)
    refine zc 2 [(0,vT),(176,vT)] (zf (zb (zj (zl vT ?_))))
    have hX30:Ext w w82:=((((((((Ext.own (((((((((((((((((Ext.own (Ext.own (((hEw1.trans hEw2).trans hEw3).trans hEw4) hCw5 (by omega)) hCw6 (by omega)).trans hEw7).trans hEw8).trans hEw9).trans hEw10).trans hEw11).trans hEw12).trans hEw13).trans hEw14).trans hEw15).trans hX18).trans hEw53).trans hEw54).trans hEw55).trans hEw56).trans hEw57).trans hEw58) hCw59 (by omega)).trans hEw60).trans hEw61).trans hEw62).trans hX29).trans hEw80).trans hEw81).trans hEw82)
    exact ⟨rfl,hX30⟩
 ·refine zaf ([(vI 0),(.slice none 0 0)]) 38 ?_
  intro w83 hBw83 hEw83 hzw83 hlw83
  refine ⟨.inr hEw83, ?_⟩
  refine zx 1 (zp (zcb 3 _ (by first | omega | decide | exact UInt8.toNat_lt _)) ?_)
  rintro _ w84 ⟨rfl,hEw84⟩
  have hzw84:=hEw84.size
  have hX31:Ext w15 w84:=(hEw83.trans hEw84)
  refine ⟨.inr hX31, ?_⟩
  have hK80:=(((((hFz4_0.ext hEw13).ext hEw14).ext hEw15).ext hEw83).ext hEw84)
  have hK81:=((((((hK4.ext hEw12).ext hEw13).ext hEw14).ext hEw15).ext hEw83).ext hEw84)
  have hK82:=((((((hK5.ext hEw12).ext hEw13).ext hEw14).ext hEw15).ext hEw83).ext hEw84)
  have hK83:=((((((hK6.ext hEw12).ext hEw13).ext hEw14).ext hEw15).ext hEw83).ext hEw84)
  refine zx 3 (zp (zcY 5 4 (za2 3) (mkD 3) _ hK80 (by first | omega | decide) (by first | omega | decide) (by first | omega | decide) (zba wO0) (zaV (n:=5) wO0 rfl) (by first | omega | decide) hK81 hK82 hK83) ?_)
  rintro _ w85 ⟨a19,rfl,hFz40_0,hEw85⟩
  have hzw85:=hEw85.size
  have hlea19:=hFz40_0.le
  rw [show zc4 5 wT0 4 (za2 3) (mkD 3)=wT1 from wE0] at hFz40_0
  rw [show (zaZ (wT0.getD (4/4) Un.zero) (4%4))=0 from wG0]
  have hX32:Ext w15 w85:=((hEw83.trans hEw84).trans hEw85)
  refine ⟨.inr hX32, ?_⟩
  refine zg (hw:=hX32) hT93 [(4,38,(.tuple #[(vA [(vI 5),(.slice a19 (tot 5) (tot 5))]),(vI 0),(vI 0)])),(5,43,(vA [(vI 5),(.slice a19 (tot 5) (tot 5))])),(6,44,(vI 0)),(7,45,(vI 0))] 4 (zx 9 (zG 38 w15.heap.size 0 38 (vA [(vI 5),(.slice a19 (tot 5) (tot 5))]) ([(vI 0),(.slice none 0 0)]) ([(vI 5),(.slice a19 (tot 5) (tot 5))]) ((hBw83.ext hEw84).ext hEw85) (by kernel_rfl) (by first | decide |(simp;done)|(simp;omega)) (by simp [Value.oneCell']) ?_))
  intro w86 hBw86 hCw86
  have hzw86:=hCw86.size
  rw [zy _ _ (by kernel_rfl)] at hBw86
  have hX33:Ext w15 w86:=(Ext.own ((hEw83.trans hEw84).trans hEw85) hCw86 (by omega))
  refine ⟨.inr hX33, ?_⟩
  refine zg (hw:=hX33) hT93 [(10,10,(vI 0)),(11,11,(vI 0))] 2 (zE (zb (ze (zd (za (zO w15.heap.size 0 (hBw86.all) ?_))))))
  refine za (zp (zkM 5 _ (hFz40_0.chg hCw86) (by first | omega | decide) (by first | omega | decide) (by first | omega | decide) (zba wO1) (zaV (n:=5) wO1 rfl) ((hK81.ext hEw85).chg hCw86) ((hK82.ext hEw85).chg hCw86) ((hK83.ext hEw85).chg hCw86)) ?_)
  rintro _ w87 ⟨a20,rfl,hFz41_0,hEw87⟩
  have hzw87:=hEw87.size
  have hlea20:=hFz41_0.le
  rw [wD1,show List.length [(0,1),(1,0)]=2 from rfl] at hFz41_0
  rw [show zbj 5 wT1 (tot 5)= [(0,1),(1,0)] from wD1]
  rw [show List.length ([(0,1),(1,0)])=2 from rfl]
  refine zc 5 [(13,(vI 0)),(12,(.slice a20 2 2)),(50,(vI 0)),(49,(.slice a20 2 2)),(46,(.tuple #[(.slice a20 2 2),(vI 0)]))] (zf (zb (ze (zd (za (zO w15.heap.size 0 ((hBw86.ext hEw87).all) ?_))))))
  have hK84:=(((hK81.ext hEw85).chg hCw86).ext hEw87)
  have hK85:=(((hK82.ext hEw85).chg hCw86).ext hEw87)
  have hK86:=(((hK83.ext hEw85).chg hCw86).ext hEw87)
  refine za (zp (zl5 5 4 _ ((hFz40_0.chg hCw86).ext hEw87) (by first | omega | decide) (by first | omega | decide) (by first | omega | decide) (zba wO1) (zaV (n:=5) wO1 rfl) (by first | omega | decide) hK84 hK85 hK86) ?_)
  rintro _ w88 ⟨rfl,hEw88⟩
  have hzw88:=hEw88.size
  rw [show (wT1.getD (4/4) Un.zero).nd.rs.get (4%4)=wR1 from znx]
  refine zc 3 [(55,(vI 0)),(54,(vA (zM (wR1)))),(51,(.tuple #[(vA (zM (wR1))),(vI 0)]))] (zal (zM (wR1)) 68 (zZ _) (zbb _) ?_)
  intro w89 hBw89 hEw89 hzw89 hlw89
  refine zc 1 [(15,(vI 0))] (zf (zb (ze (ze (zab 52 (fun w90 hEw90 hzw90 hT1013=> ?_))))))
  refine zg hT1013 [(0,56,(vI 0)),(1,57,(vI 0))] 2 (zn hT1013 2 (vI 0) (zY .i64 (IntKind.i64.wrap (((0:Nat):Int)+((0:Nat):Int))) (zu)) (zg hT1013 [(3,59,(vI 0))] 1 (zn hT1013 4 (vI 0) (zY .i64 (IntKind.i64.wrap (((0:Nat):Int)+((0:Nat):Int))) (zu)) (zg hT1013 [(5,61,(vI 0))] 1 (zn hT1013 6 (vI 0) (zY .i64 (IntKind.i64.wrap (((0:Nat):Int)+((0:Nat):Int))) (zu)) (zg hT1013 [(7,63,(vI 0))] 1 (zn hT1013 8 (vI 0) (zY .i64 (IntKind.i64.wrap (((0:Nat):Int)+((0:Nat):Int))) (zu)) (zg hT1013 [(9,65,(vI 0))] 1 (zn hT1013 10 (vI 0) (zY .i64 (IntKind.i64.wrap (((0:Nat):Int)+((0:Nat):Int))) (zu)) ?_)))))))))
  refine zg hT1013 [(11,67,vF),(12,68,vF),(13,69,(vI 0))] 3 (zn hT1013 14 vF (zaN (((0:Nat):Int) !=((0:Nat):Int)) (zax)) (zg hT1013 [(15,71,vF),(16,72,vF),(17,73,(vI 0))] 3 (zn hT1013 18 vF (zaN (((0:Nat):Int) !=((0:Nat):Int)) (zax)) (zg hT1013 [(19,75,vF),(20,76,vF),(21,77,(.slice a20 2 2)),(22,78,(vI 2)),(23,79,vF),(24,80,vF),(25,81,vF),(26,82,(.slice a20 2 2))] 8 ?_))))
  obtain ⟨b11,o11,rfl⟩:=hFz41_0.addr (by omega) (by decide)
  refine zas hT1013 27 b11 o11 2 2 0 2 ?_
  have hK87:=(((hFz41_0.ext hEw88).ext hEw89).ext hEw90)
  refine zaO hT1013 28 b11 (o11+0*2) (fun w' hC=>((hK87.ext hC).at (0,0) (by omega))) (zg hT1013 [(29,85,(vA [(vI 0),(vI 1)]))] 1 (zn hT1013 30 vF (zag (bo .neq 89 (.tmp 84) (.tmp 85) (vA [(vI ((([(0,1),(1,0)]).getD 0 (0,0)).1)),(vI ((([(0,1),(1,0)]).getD 0 (0,0)).2))]) (vA [(vI 0),(vI 1)])) (fun w' hC=>zat (r:=true) (T:=89) ((zdL (dd:=9998) (t:=89) [(vI ((([(0,1),(1,0)]).getD 0 (0,0)).1)),(vI ((([(0,1),(1,0)]).getD 0 (0,0)).2))] [(vI 0),(vI 1)]).trans (congrArg (fun b=>Result.ok b _) (show (zgM [(vI ((([(0,1),(1,0)]).getD 0 (0,0)).1)),(vI ((([(0,1),(1,0)]).getD 0 (0,0)).2))] [(vI 0),(vI 1)])=true from rfl))))) (zg hT1013 [(31,87,vF),(32,88,vF),(33,89,(.slice (pA b11 o11) 2 2))] 3 (zas hT1013 34 b11 o11 2 2 1 2 (zaO hT1013 35 b11 (o11+1*2) (fun w' hC=>((hK87.ext hC).at (0,0) (by omega))) (zg hT1013 [(36,92,(vA [(vI 1),(vI 0)]))] 1 (zn hT1013 37 vF (zag (bo .neq 89 (.tmp 91) (.tmp 92) (vA [(vI ((([(0,1),(1,0)]).getD 1 (0,0)).1)),(vI ((([(0,1),(1,0)]).getD 1 (0,0)).2))]) (vA [(vI 1),(vI 0)])) (fun w' hC=>zat (r:=true) (T:=89) ((zdL (dd:=9998) (t:=89) [(vI ((([(0,1),(1,0)]).getD 1 (0,0)).1)),(vI ((([(0,1),(1,0)]).getD 1 (0,0)).2))] [(vI 1),(vI 0)]).trans (congrArg (fun b=>Result.ok b _) (show (zgM [(vI ((([(0,1),(1,0)]).getD 1 (0,0)).1)),(vI ((([(0,1),(1,0)]).getD 1 (0,0)).2))] [(vI 1),(vI 0)])=true from rfl))))) (zg hT1013 [(38,94,vF),(39,95,vF)] 2 ?_))))))))
  refine zan hT1013 40 w88.heap.size 0 (fun w' hC=>(((hBw89.ext hEw90).ext hC).all)) (zZ _) ?_
  have hK88:=(((((hK8.ext hX33).ext hEw87).ext hEw88).ext hEw89).ext hEw90)
  refine zan hT1013 42 w2.heap.size 0 (fun w' hC=>((hK88.ext hC).all)) (zam _) (zx 41 (zp (zcb 3 _ (by first | omega | decide | exact UInt8.toNat_lt _)) ?_))
  rintro _ w91 ⟨rfl,hEw91⟩
  have hzw91:=hEw91.size
  refine ⟨.inr hEw91, ?_⟩
  refine zn (hw:=hEw91) hT1013 43 (vA (zM wR1)) (zag (Instr.build 68 #[(0,(vB 1)),(1,(vA (zbf (za2 3)))),(2,(vA (zR (mkD 3))))]) (fun w' hC=>(zdb 1 (za2 3) (mkD 3) (by decide)).trans (congrArg (fun z:Rec=>Result.ok (Value.agg (zM z).toArray) _) (show (⟨1,(za2 3),(mkD 3),by decide⟩:Rec)=wR1 from rfl)))) (zn (hw:=hEw91) hT1013 44 vF (zag (bo .neq 68 (.tmp 96) (.tmp 99) (vA (zM (wR1))) (vA (zM wR1))) (fun w' hC=>zat (r:=true) (T:=68) ((zdj (dd:=9997) (t:=68) (t8:=5) (tn:=56) (td:=59) (e:=5) (t32:=53) (t64:=54) (wR1) wR1).trans (congrArg (fun b=>Result.ok b _) (show ((wR1).eqb wR1)=true from (Rec.eqb_iff _ _).2 rfl))))) (zg (hw:=hEw91) hT1013 [(45,101,vF),(46,102,vF),(47,103,(vP w15.heap.size 1))] 3 ?_))
  have hK89:=((((hBw86.ext hEw87).ext hEw88).ext hEw89).ext hEw90)
  refine zA (hw:=hEw91) hT1013 48 w15.heap.size 1 (fun w' hC=>((hK89.ext hC).cell rfl)) (zg (hw:=hEw91) hT1013 [(49,105,(vI (tot 5)))] 1 (zn (hw:=hEw91) hT1013 50 vF (zaN ((((tot 5):Nat):Int) !=((3:Nat):Int)) (zax)) (zg (hw:=hEw91) hT1013 [(51,107,vF)] 1 (zE (zb (zh (zk (zb (ze ?_)))))))))
  refine zd (zc 1 [(108,(vA (zJ (Nod.mt 0 1))))] (zal (zJ (Nod.mt 0 1)) 74 (zQ _) (zb0 _) ?_))
  intro w92 hBw92 hEw92 hzw92 hlw92
  refine zf (zb (ze (zd ?_)))
  have hK90:=(((hBw89.ext hEw90).ext hEw91).ext hEw92)
  refine za (zT w88.heap.size 0 (hK90.all) (zZ _) ?_)
  refine zc 1 [(110,(vP w91.heap.size 2))] (za (zbg w91.heap.size 2 0 4 35 ?_))
  refine za (zG 68 w91.heap.size (2+0*35) 74 (vA (zM (wR1))) (zJ (Nod.mt 0 1)) (zM (wR1)) hBw92 (by rw [zZ];kernel_rfl) (by first |(simp;done)|(simp;omega)) (zbb _) ?_)
  intro w93 hBw93 hCw93
  have hzw93:=hCw93.size
  rw [show (zV (zJ (Nod.mt 0 1)) (2+0*35) (zM (wR1)):List Value)=zJ ((Nod.mt 0 1).setR 0 (wR1)) from nod_setR (by omega)] at hBw93
  refine zf (zb (ze (ze (zab 11 (fun w94 hEw94 hzw94 hT1082=> ?_)))))
  refine zg hT1082 [(0,112,(vP w15.heap.size 1))] 1 ?_
  have hK91:=((((hK89.ext hEw91).ext hEw92).chg hCw93).ext hEw94)
  refine zA hT1082 1 w15.heap.size 1 (fun w' hC=>((hK91.ext hC).cell rfl)) ?_
  obtain ⟨b12,o12,rfl⟩:=hFz40_0.addr (by omega) (by decide)
  refine zas hT1082 2 b12 o12 (tot 5) (tot 5) 2 280 (zg hT1082 [(3,115,(vP b12 (o12+2*280))),(4,116,(vP b12 (o12+2*280+142)))] 2 (zaP hT1082 5 b12 (o12+2*280+142) 1 4 33 ?_))
  have hK92:=(((((((((hFz40_0.chg hCw86).ext hEw87).ext hEw88).ext hEw89).ext hEw90).ext hEw91).ext hEw92).chg hCw93).ext hEw94)
  refine zan hT1082 6 b12 (o12+2*280+142+1*33) (fun w' hC=>(((hK92.ext hC).at Un.zero (by omega)).sub2 142 _ (zai ((wT1.getD 2 Un.zero).nd.es.get 1)) (znl (by omega)))) (zaK _) (zan hT1082 7 w91.heap.size 0 (fun w' hC=>(((hBw93.ext hEw94).ext hC).all)) (zQ _) (zx 8 (zp (zfA ((Nod.mt 0 1).setR 0 (wR1)) _) ?_)))
  rintro _ w95 ⟨rfl,hEw95⟩
  have hzw95:=hEw95.size
  refine ⟨.inr hEw95, ?_⟩
  refine zn (hw:=hEw95) hT1082 9 (vA (zai (⟨1,(zS (zN ((Nod.mt 0 1).setR 0 (wR1)))),by decide⟩))) (zag (Instr.build 71 #[(0,(vB 1)),(1,(vA (zR (zS (zN ((Nod.mt 0 1).setR 0 (wR1)))))))]) (fun w' hC=>zcA 1 (zS (zN ((Nod.mt 0 1).setR 0 (wR1)))) (by decide))) (zn (hw:=hEw95) hT1082 10 vF (zag (bo .neq 71 (.tmp 118) (.tmp 121) (vA (zai ((wT1.getD 2 Un.zero).nd.es.get 1))) (vA (zai (⟨1,(zS (zN ((Nod.mt 0 1).setR 0 (wR1)))),by decide⟩)))) (fun w' hC=>zat (r:=true) (T:=71) ((zcs (dd:=9997) (t:=71) (t8:=5) (td:=59) (e:=5) ((wT1.getD 2 Un.zero).nd.es.get 1) (⟨1,(zS (zN ((Nod.mt 0 1).setR 0 (wR1)))),by decide⟩)).trans (congrArg (fun b=>Result.ok b _) (show (((wT1.getD 2 Un.zero).nd.es.get 1).eqb (⟨1,(zS (zN ((Nod.mt 0 1).setR 0 (wR1)))),by decide⟩))=true from (Ent.eqb_iff _ _).2 zqw))))) (zE (zb (zh (zk (zb (ze (zab 12 (fun w96 hEw96 hzw96 hT1105=> ?_)))))))))
  refine zaO hT1105 0 w15.heap.size 0 (fun w' hC=>((((hK91.ext hEw95).ext hEw96).ext hC).all)) ?_
  have hK93:=((((((((((((((((((((hBw6.ext hEw7).ext hEw8).ext hEw9).ext hEw10).ext hEw11).ext hEw12).ext hEw13).ext hEw14).ext hEw15).ext hX33).ext hEw87).ext hEw88).ext hEw89).ext hEw90).ext hEw91).ext hEw92).chg hCw93).ext hEw94).ext hEw95).ext hEw96)
  refine zan hT1105 2 w3.heap.size 0 (fun w' hC=>((hK93.ext hC).all)) (zam _) (zbt 1 8 ?_ ?_)
  ·refine zp (zcb 4 _ (by first | omega | decide | exact UInt8.toNat_lt _)) ?_
   rintro _ w97 ⟨rfl,hEw97⟩
   have hzw97:=hEw97.size
   refine ⟨.inr hEw97, ?_⟩
   refine zbt 3 8 ?_ ?_
   ·have hK94:=(((hK92.ext hEw95).ext hEw96).ext hEw97)
    have hK95:=((((((((((hK84.ext hEw88).ext hEw89).ext hEw90).ext hEw91).ext hEw92).chg hCw93).ext hEw94).ext hEw95).ext hEw96).ext hEw97)
    have hK96:=((((((((((hK85.ext hEw88).ext hEw89).ext hEw90).ext hEw91).ext hEw92).chg hCw93).ext hEw94).ext hEw95).ext hEw96).ext hEw97)
    have hK97:=((((((((((hK86.ext hEw88).ext hEw89).ext hEw90).ext hEw91).ext hEw92).chg hCw93).ext hEw94).ext hEw95).ext hEw96).ext hEw97)
    refine zp (zcY 5 4 (za2 4) (mkD 4) _ hK94 (by first | omega | decide) (by first | omega | decide) (by first | omega | decide) (zba wO1) (zaV (n:=5) wO1 rfl) (by first | omega | decide) hK95 hK96 hK97) ?_
    rintro _ w98 ⟨a21,rfl,hFz46_0,hEw98⟩
    have hzw98:=hEw98.size
    have hlea21:=hFz46_0.le
    rw [show zc4 5 wT1 4 (za2 4) (mkD 4)=wT2 from wE1] at hFz46_0
    rw [show (zaZ (wT1.getD (4/4) Un.zero) (4%4))=0 from wG1]
    have hX34:Ext w96 w98:=(hEw97.trans hEw98)
    refine ⟨.inr hX34, ?_⟩
    refine zg (hw:=hX34) hT1105 [(4,123,(.tuple #[(vA [(vI 5),(.slice a21 (tot 5) (tot 5))]),(vI 0),(vI 0)])),(5,128,(vA [(vI 5),(.slice a21 (tot 5) (tot 5))])),(6,129,(vI 0)),(7,130,(vI 0))] 4 (zx 8 (zaf ([(vI 0),(.slice none 0 0)]) 38 ?_))
    intro w99 hBw99 hEw99 hzw99 hlw99
    have hX35:Ext w96 w99:=((hEw97.trans hEw98).trans hEw99)
    refine ⟨.inr hX35, ?_⟩
    refine zx 9 (zG 38 w98.heap.size 0 38 (vA [(vI 5),(.slice a21 (tot 5) (tot 5))]) ([(vI 0),(.slice none 0 0)]) ([(vI 5),(.slice a21 (tot 5) (tot 5))]) hBw99 (by kernel_rfl) (by first | decide |(simp;done)|(simp;omega)) (by simp [Value.oneCell']) ?_)
    intro w100 hBw100 hCw100
    have hzw100:=hCw100.size
    rw [zy _ _ (by kernel_rfl)] at hBw100
    have hX36:Ext w96 w100:=(Ext.own ((hEw97.trans hEw98).trans hEw99) hCw100 (by omega))
    refine ⟨.inr hX36, ?_⟩
    refine zg (hw:=hX36) hT1105 [(10,10,(vI 0)),(11,4,(vI 0))] 2 (zE (zb (ze (zd (za (zO w98.heap.size 0 (hBw100.all) ?_))))))
    have hK98:=(((hK95.ext hEw98).ext hEw99).chg hCw100)
    have hK99:=(((hK96.ext hEw98).ext hEw99).chg hCw100)
    have hK100:=(((hK97.ext hEw98).ext hEw99).chg hCw100)
    refine za (zp (zeo 5 _ ((hFz46_0.ext hEw99).chg hCw100) (by first | omega | decide) (by first | omega | decide) (by first | omega | decide) (zba wO2) (zaV (n:=5) wO2 rfl) hK98 hK99 hK100) ?_)
    rintro _ w101 ⟨a22,rfl,hFz47_0,hEw101⟩
    have hzw101:=hEw101.size
    have hlea22:=hFz47_0.le
    rw [show zc8 (tot 5) wT2=wT3 from wE2] at hFz47_0
    refine zc 3 [(135,(vI 0)),(134,(vA [(vI 5),(.slice a22 (tot 5) (tot 5))])),(131,(.tuple #[(vA [(vI 5),(.slice a22 (tot 5) (tot 5))]),(vI 0)]))] (zal ([(vI 5),(.slice a22 (tot 5) (tot 5))]) 38 rfl (by simp [Value.oneCell']) ?_)
    intro w102 hBw102 hEw102 hzw102 hlw102
    refine zc 1 [(6,(vI 0))] (zf (zb (ze (zd (za (zO w101.heap.size 0 (hBw102.all) ?_))))))
    refine za (zp (zer 5 4 _ (hFz47_0.ext hEw102) (by first | omega | decide) (by first | omega | decide) (by first | omega | decide) (zba wO3) (zaV (n:=5) wO3 rfl) (by first | omega | decide) ((hK98.ext hEw101).ext hEw102) ((hK99.ext hEw101).ext hEw102) ((hK100.ext hEw101).ext hEw102)) ?_)
    rintro _ w103 ⟨rfl,hEw103⟩
    have hzw103:=hEw103.size
    rw [show zaZ (wT3.getD (4/4) Un.zero) (4%4)=1 from wG3]
    refine zc 5 [(8,(vI 0)),(7,(vI 1)),(140,(vI 0)),(139,(vI 1)),(136,(.tuple #[(vI 1),(vI 0)]))] (zf (zb (ze (zd (zc 2 [(142,(vI 0)),(141,(vI 0))] (za (zo (some 143) .i64 (IntKind.i64.wrap (((0:Nat):Int)+((0:Nat):Int))) 0 (zu) ?_)))))))
    refine zc 1 [(144,(vI 0))] (za (zo (some 145) .i64 (IntKind.i64.wrap (((0:Nat):Int)+((0:Nat):Int))) 0 (zu) ?_))
    refine zc 3 [(148,(vI 0)),(147,vT),(146,vT)] (za (zae (some 149) (((0:Nat):Int)==((0:Nat):Int)) true (zaq) ?_))
    refine zc 3 [(152,(vI 1)),(151,vT),(150,vT)] (za (zae (some 153) (((1:Nat):Int)==((1:Nat):Int)) true (zaq) ?_))
    refine zc 3 [(156,(vP w101.heap.size 1)),(155,vT),(154,vT)] (za (zm w101.heap.size 1 ((hBw102.ext hEw103).cell rfl) ?_))
    refine zc 1 [(158,(vI (tot 5)))] (za (zae (some 159) ((((tot 5):Nat):Int)==((3:Nat):Int)) true (zaq) ?_))
    refine zc 3 [(162,(vP w101.heap.size 1)),(161,vT),(160,vT)] (za (zm w101.heap.size 1 ((hBw102.ext hEw103).cell rfl) ?_))
    obtain ⟨b13,o13,rfl⟩:=hFz47_0.addr (by omega) (by decide)
    refine za (zah b13 o13 (tot 5) (tot 5) 1 280 ?_)
    refine zc 1 [(165,(vP b13 (o13+1*280+274)))] (za (zm b13 (o13+1*280+274) (((hFz47_0.ext hEw102).ext hEw103).cell (j:=274) (i:=1) Un.zero (by omega) (zbU _)) ?_))
    refine za (zae (some 167) ((wT3.getD 1 Un.zero).sl==((0:Nat):Int)) true (zaq) ?_)
    refine zc 3 [(170,(vP w101.heap.size 1)),(169,vT),(168,vT)] (za (zm w101.heap.size 1 ((hBw102.ext hEw103).cell rfl) ?_))
    refine za (zah b13 o13 (tot 5) (tot 5) 2 280 ?_)
    refine zc 1 [(173,(vP b13 (o13+2*280+274)))] (za (zm b13 (o13+2*280+274) (((hFz47_0.ext hEw102).ext hEw103).cell (j:=274) (i:=2) Un.zero (by omega) (zbU _)) ?_))
    refine za (zae (some 175) ((wT3.getD 2 Un.zero).sl==((1:Nat):Int)) true (zaq) ?_)
    refine zc 2 [(0,vT),(176,vT)] (zf (zb (zj (zl vT ?_))))
    have hX37:Ext w w103:=((((((((Ext.own (((((((((((((((((Ext.own (Ext.own (((hEw1.trans hEw2).trans hEw3).trans hEw4) hCw5 (by omega)) hCw6 (by omega)).trans hEw7).trans hEw8).trans hEw9).trans hEw10).trans hEw11).trans hEw12).trans hEw13).trans hEw14).trans hEw15).trans hX33).trans hEw87).trans hEw88).trans hEw89).trans hEw90).trans hEw91).trans hEw92) hCw93 (by omega)).trans hEw94).trans hEw95).trans hEw96).trans hX36).trans hEw101).trans hEw102).trans hEw103)
    exact ⟨rfl,hX37⟩
   ·refine zaf ([(vI 0),(.slice none 0 0)]) 38 ?_
    intro w104 hBw104 hEw104 hzw104 hlw104
    have hX38:Ext w96 w104:=(hEw97.trans hEw104)
    refine ⟨.inr hX38, ?_⟩
    have hK101:=((((hK92.ext hEw95).ext hEw96).ext hEw97).ext hEw104)
    have hK102:=(((((((((((hK84.ext hEw88).ext hEw89).ext hEw90).ext hEw91).ext hEw92).chg hCw93).ext hEw94).ext hEw95).ext hEw96).ext hEw97).ext hEw104)
    have hK103:=(((((((((((hK85.ext hEw88).ext hEw89).ext hEw90).ext hEw91).ext hEw92).chg hCw93).ext hEw94).ext hEw95).ext hEw96).ext hEw97).ext hEw104)
    have hK104:=(((((((((((hK86.ext hEw88).ext hEw89).ext hEw90).ext hEw91).ext hEw92).chg hCw93).ext hEw94).ext hEw95).ext hEw96).ext hEw97).ext hEw104)
    refine zx 3 (zp (zcY 5 4 (za2 4) (mkD 4) _ hK101 (by first | omega | decide) (by first | omega | decide) (by first | omega | decide) (zba wO1) (zaV (n:=5) wO1 rfl) (by first | omega | decide) hK102 hK103 hK104) ?_)
    rintro _ w105 ⟨a23,rfl,hFz49_0,hEw105⟩
    have hzw105:=hEw105.size
    have hlea23:=hFz49_0.le
    rw [show zc4 5 wT1 4 (za2 4) (mkD 4)=wT2 from wE1] at hFz49_0
    rw [show (zaZ (wT1.getD (4/4) Un.zero) (4%4))=0 from wG1]
    have hX39:Ext w96 w105:=((hEw97.trans hEw104).trans hEw105)
    refine ⟨.inr hX39, ?_⟩
    refine zg (hw:=hX39) hT1105 [(4,123,(.tuple #[(vA [(vI 5),(.slice a23 (tot 5) (tot 5))]),(vI 0),(vI 0)])),(5,128,(vA [(vI 5),(.slice a23 (tot 5) (tot 5))])),(6,129,(vI 0)),(7,130,(vI 0))] 4 (zx 9 (zG 38 w97.heap.size 0 38 (vA [(vI 5),(.slice a23 (tot 5) (tot 5))]) ([(vI 0),(.slice none 0 0)]) ([(vI 5),(.slice a23 (tot 5) (tot 5))]) (hBw104.ext hEw105) (by kernel_rfl) (by first | decide |(simp;done)|(simp;omega)) (by simp [Value.oneCell']) ?_))
    intro w106 hBw106 hCw106
    have hzw106:=hCw106.size
    rw [zy _ _ (by kernel_rfl)] at hBw106
    have hX40:Ext w96 w106:=(Ext.own ((hEw97.trans hEw104).trans hEw105) hCw106 (by omega))
    refine ⟨.inr hX40, ?_⟩
    refine zg (hw:=hX40) hT1105 [(10,10,(vI 0)),(11,4,(vI 0))] 2 (zE (zb (ze (zd (za (zO w97.heap.size 0 (hBw106.all) ?_))))))
    refine za (zp (zeo 5 _ (hFz49_0.chg hCw106) (by first | omega | decide) (by first | omega | decide) (by first | omega | decide) (zba wO2) (zaV (n:=5) wO2 rfl) ((hK102.ext hEw105).chg hCw106) ((hK103.ext hEw105).chg hCw106) ((hK104.ext hEw105).chg hCw106)) ?_)
    rintro _ w107 ⟨a24,rfl,hFz50_0,hEw107⟩
    have hzw107:=hEw107.size
    have hlea24:=hFz50_0.le
    rw [show zc8 (tot 5) wT2=wT3 from wE2] at hFz50_0
    refine zc 3 [(135,(vI 0)),(134,(vA [(vI 5),(.slice a24 (tot 5) (tot 5))])),(131,(.tuple #[(vA [(vI 5),(.slice a24 (tot 5) (tot 5))]),(vI 0)]))] (zal ([(vI 5),(.slice a24 (tot 5) (tot 5))]) 38 rfl (by simp [Value.oneCell']) ?_)
    intro w108 hBw108 hEw108 hzw108 hlw108
    refine zc 1 [(6,(vI 0))] (zf (zb (ze (zd (za (zO w107.heap.size 0 (hBw108.all) ?_))))))
    have hK105:=((((hK102.ext hEw105).chg hCw106).ext hEw107).ext hEw108)
    have hK106:=((((hK103.ext hEw105).chg hCw106).ext hEw107).ext hEw108)
    have hK107:=((((hK104.ext hEw105).chg hCw106).ext hEw107).ext hEw108)
    refine za (zp (zer 5 4 _ (hFz50_0.ext hEw108) (by first | omega | decide) (by first | omega | decide) (by first | omega | decide) (zba wO3) (zaV (n:=5) wO3 rfl) (by first | omega | decide) hK105 hK106 hK107) ?_)
    rintro _ w109 ⟨rfl,hEw109⟩
    have hzw109:=hEw109.size
    rw [show zaZ (wT3.getD (4/4) Un.zero) (4%4)=1 from wG3]
    refine zc 5 [(8,(vI 0)),(7,(vI 1)),(140,(vI 0)),(139,(vI 1)),(136,(.tuple #[(vI 1),(vI 0)]))] (zf (zb (ze (zd (zc 2 [(142,(vI 0)),(141,(vI 0))] (za (zo (some 143) .i64 (IntKind.i64.wrap (((0:Nat):Int)+((0:Nat):Int))) 0 (zu) ?_)))))))
    refine zc 1 [(144,(vI 0))] (za (zo (some 145) .i64 (IntKind.i64.wrap (((0:Nat):Int)+((0:Nat):Int))) 0 (zu) ?_))
    refine zc 3 [(148,(vI 0)),(147,vT),(146,vT)] (za (zae (some 149) (((0:Nat):Int)==((0:Nat):Int)) true (zaq) ?_))
    refine zc 3 [(152,(vI 1)),(151,vT),(150,vT)] (za (zae (some 153) (((1:Nat):Int)==((1:Nat):Int)) true (zaq) ?_))
    refine zc 3 [(156,(vP w107.heap.size 1)),(155,vT),(154,vT)] (za (zm w107.heap.size 1 ((hBw108.ext hEw109).cell rfl) ?_))
    refine zc 1 [(158,(vI (tot 5)))] (za (zae (some 159) ((((tot 5):Nat):Int)==((3:Nat):Int)) true (zaq) ?_))
    refine zc 3 [(162,(vP w107.heap.size 1)),(161,vT),(160,vT)] (za (zm w107.heap.size 1 ((hBw108.ext hEw109).cell rfl) ?_))
    obtain ⟨b14,o14,rfl⟩:=hFz50_0.addr (by omega) (by decide)
    refine za (zah b14 o14 (tot 5) (tot 5) 1 280 ?_)
    refine zc 1 [(165,(vP b14 (o14+1*280+274)))] (za (zm b14 (o14+1*280+274) (((hFz50_0.ext hEw108).ext hEw109).cell (j:=274) (i:=1) Un.zero (by omega) (zbU _)) ?_))
    refine za (zae (some 167) ((wT3.getD 1 Un.zero).sl==((0:Nat):Int)) true (zaq) ?_)
    refine zc 3 [(170,(vP w107.heap.size 1)),(169,vT),(168,vT)] (za (zm w107.heap.size 1 ((hBw108.ext hEw109).cell rfl) ?_))
    refine za (zah b14 o14 (tot 5) (tot 5) 2 280 ?_)
    refine zc 1 [(173,(vP b14 (o14+2*280+274)))] (za (zm b14 (o14+2*280+274) (((hFz50_0.ext hEw108).ext hEw109).cell (j:=274) (i:=2) Un.zero (by omega) (zbU _)) ?_))
    refine za (zae (some 175) ((wT3.getD 2 Un.zero).sl==((1:Nat):Int)) true (zaq) ?_)
    refine zc 2 [(0,vT),(176,vT)] (zf (zb (zj (zl vT ?_))))
    have hX41:Ext w w109:=((((((((Ext.own (((((((((((((((((Ext.own (Ext.own (((hEw1.trans hEw2).trans hEw3).trans hEw4) hCw5 (by omega)) hCw6 (by omega)).trans hEw7).trans hEw8).trans hEw9).trans hEw10).trans hEw11).trans hEw12).trans hEw13).trans hEw14).trans hEw15).trans hX33).trans hEw87).trans hEw88).trans hEw89).trans hEw90).trans hEw91).trans hEw92) hCw93 (by omega)).trans hEw94).trans hEw95).trans hEw96).trans hX40).trans hEw107).trans hEw108).trans hEw109)
    exact ⟨rfl,hX41⟩
  ·refine zaf ([(vI 0),(.slice none 0 0)]) 38 ?_
   intro w110 hBw110 hEw110 hzw110 hlw110
   refine ⟨.inr hEw110, ?_⟩
   refine zx 1 (zp (zcb 4 _ (by first | omega | decide | exact UInt8.toNat_lt _)) ?_)
   rintro _ w111 ⟨rfl,hEw111⟩
   have hzw111:=hEw111.size
   have hX42:Ext w96 w111:=(hEw110.trans hEw111)
   refine ⟨.inr hX42, ?_⟩
   have hK108:=((((hK92.ext hEw95).ext hEw96).ext hEw110).ext hEw111)
   have hK109:=(((((((((((hK84.ext hEw88).ext hEw89).ext hEw90).ext hEw91).ext hEw92).chg hCw93).ext hEw94).ext hEw95).ext hEw96).ext hEw110).ext hEw111)
   have hK110:=(((((((((((hK85.ext hEw88).ext hEw89).ext hEw90).ext hEw91).ext hEw92).chg hCw93).ext hEw94).ext hEw95).ext hEw96).ext hEw110).ext hEw111)
   have hK111:=(((((((((((hK86.ext hEw88).ext hEw89).ext hEw90).ext hEw91).ext hEw92).chg hCw93).ext hEw94).ext hEw95).ext hEw96).ext hEw110).ext hEw111)
   refine zx 3 (zp (zcY 5 4 (za2 4) (mkD 4) _ hK108 (by first | omega | decide) (by first | omega | decide) (by first | omega | decide) (zba wO1) (zaV (n:=5) wO1 rfl) (by first | omega | decide) hK109 hK110 hK111) ?_)
   rintro _ w112 ⟨a25,rfl,hFz53_0,hEw112⟩
   have hzw112:=hEw112.size
   have hlea25:=hFz53_0.le
   rw [show zc4 5 wT1 4 (za2 4) (mkD 4)=wT2 from wE1] at hFz53_0
   rw [show (zaZ (wT1.getD (4/4) Un.zero) (4%4))=0 from wG1]
   have hX43:Ext w96 w112:=((hEw110.trans hEw111).trans hEw112)
   refine ⟨.inr hX43, ?_⟩
   refine zg (hw:=hX43) hT1105 [(4,123,(.tuple #[(vA [(vI 5),(.slice a25 (tot 5) (tot 5))]),(vI 0),(vI 0)])),(5,128,(vA [(vI 5),(.slice a25 (tot 5) (tot 5))])),(6,129,(vI 0)),(7,130,(vI 0))] 4 (zx 9 (zG 38 w96.heap.size 0 38 (vA [(vI 5),(.slice a25 (tot 5) (tot 5))]) ([(vI 0),(.slice none 0 0)]) ([(vI 5),(.slice a25 (tot 5) (tot 5))]) ((hBw110.ext hEw111).ext hEw112) (by kernel_rfl) (by first | decide |(simp;done)|(simp;omega)) (by simp [Value.oneCell']) ?_))
   intro w113 hBw113 hCw113
   have hzw113:=hCw113.size
   rw [zy _ _ (by kernel_rfl)] at hBw113
   have hX44:Ext w96 w113:=(Ext.own ((hEw110.trans hEw111).trans hEw112) hCw113 (by omega))
   refine ⟨.inr hX44, ?_⟩
   refine zg (hw:=hX44) hT1105 [(10,10,(vI 0)),(11,4,(vI 0))] 2 (zE (zb (ze (zd (za (zO w96.heap.size 0 (hBw113.all) ?_))))))
   refine za (zp (zeo 5 _ (hFz53_0.chg hCw113) (by first | omega | decide) (by first | omega | decide) (by first | omega | decide) (zba wO2) (zaV (n:=5) wO2 rfl) ((hK109.ext hEw112).chg hCw113) ((hK110.ext hEw112).chg hCw113) ((hK111.ext hEw112).chg hCw113)) ?_)
   rintro _ w114 ⟨a26,rfl,hFz54_0,hEw114⟩
   have hzw114:=hEw114.size
   have hlea26:=hFz54_0.le
   rw [show zc8 (tot 5) wT2=wT3 from wE2] at hFz54_0
   refine zc 3 [(135,(vI 0)),(134,(vA [(vI 5),(.slice a26 (tot 5) (tot 5))])),(131,(.tuple #[(vA [(vI 5),(.slice a26 (tot 5) (tot 5))]),(vI 0)]))] (zal ([(vI 5),(.slice a26 (tot 5) (tot 5))]) 38 rfl (by simp [Value.oneCell']) ?_)
   intro w115 hBw115 hEw115 hzw115 hlw115
   refine zc 1 [(6,(vI 0))] (zf (zb (ze (zd (za (zO w114.heap.size 0 (hBw115.all) ?_))))))
   have hK112:=((((hK109.ext hEw112).chg hCw113).ext hEw114).ext hEw115)
   have hK113:=((((hK110.ext hEw112).chg hCw113).ext hEw114).ext hEw115)
   have hK114:=((((hK111.ext hEw112).chg hCw113).ext hEw114).ext hEw115)
   refine za (zp (zer 5 4 _ (hFz54_0.ext hEw115) (by first | omega | decide) (by first | omega | decide) (by first | omega | decide) (zba wO3) (zaV (n:=5) wO3 rfl) (by first | omega | decide) hK112 hK113 hK114) ?_)
   rintro _ w116 ⟨rfl,hEw116⟩
   have hzw116:=hEw116.size
   rw [show zaZ (wT3.getD (4/4) Un.zero) (4%4)=1 from wG3]
   refine zc 5 [(8,(vI 0)),(7,(vI 1)),(140,(vI 0)),(139,(vI 1)),(136,(.tuple #[(vI 1),(vI 0)]))] (zf (zb (ze (zd (zc 2 [(142,(vI 0)),(141,(vI 0))] (za (zo (some 143) .i64 (IntKind.i64.wrap (((0:Nat):Int)+((0:Nat):Int))) 0 (zu) ?_)))))))
   refine zc 1 [(144,(vI 0))] (za (zo (some 145) .i64 (IntKind.i64.wrap (((0:Nat):Int)+((0:Nat):Int))) 0 (zu) ?_))
   refine zc 3 [(148,(vI 0)),(147,vT),(146,vT)] (za (zae (some 149) (((0:Nat):Int)==((0:Nat):Int)) true (zaq) ?_))
   refine zc 3 [(152,(vI 1)),(151,vT),(150,vT)] (za (zae (some 153) (((1:Nat):Int)==((1:Nat):Int)) true (zaq) ?_))
   refine zc 3 [(156,(vP w114.heap.size 1)),(155,vT),(154,vT)] (za (zm w114.heap.size 1 ((hBw115.ext hEw116).cell rfl) ?_))
   refine zc 1 [(158,(vI (tot 5)))] (za (zae (some 159) ((((tot 5):Nat):Int)==((3:Nat):Int)) true (zaq) ?_))
   refine zc 3 [(162,(vP w114.heap.size 1)),(161,vT),(160,vT)] (za (zm w114.heap.size 1 ((hBw115.ext hEw116).cell rfl) ?_))
   obtain ⟨b15,o15,rfl⟩:=hFz54_0.addr (by omega) (by decide)
   refine za (zah b15 o15 (tot 5) (tot 5) 1 280 ?_)
   refine zc 1 [(165,(vP b15 (o15+1*280+274)))] (za (zm b15 (o15+1*280+274) (((hFz54_0.ext hEw115).ext hEw116).cell (j:=274) (i:=1) Un.zero (by omega) (zbU _)) ?_))
   refine za (zae (some 167) ((wT3.getD 1 Un.zero).sl==((0:Nat):Int)) true (zaq) ?_)
   refine zc 3 [(170,(vP w114.heap.size 1)),(169,vT),(168,vT)] (za (zm w114.heap.size 1 ((hBw115.ext hEw116).cell rfl) ?_))
   refine za (zah b15 o15 (tot 5) (tot 5) 2 280 ?_)
   refine zc 1 [(173,(vP b15 (o15+2*280+274)))] (za (zm b15 (o15+2*280+274) (((hFz54_0.ext hEw115).ext hEw116).cell (j:=274) (i:=2) Un.zero (by omega) (zbU _)) ?_))
   refine za (zae (some 175) ((wT3.getD 2 Un.zero).sl==((1:Nat):Int)) true (zaq) ?_)
   refine zc 2 [(0,vT),(176,vT)] (zf (zb (zj (zl vT ?_))))
   have hX45:Ext w w116:=((((((((Ext.own (((((((((((((((((Ext.own (Ext.own (((hEw1.trans hEw2).trans hEw3).trans hEw4) hCw5 (by omega)) hCw6 (by omega)).trans hEw7).trans hEw8).trans hEw9).trans hEw10).trans hEw11).trans hEw12).trans hEw13).trans hEw14).trans hEw15).trans hX33).trans hEw87).trans hEw88).trans hEw89).trans hEw90).trans hEw91).trans hEw92) hCw93 (by omega)).trans hEw94).trans hEw95).trans hEw96).trans hX44).trans hEw114).trans hEw115).trans hEw116)
   exact ⟨rfl,hX45⟩
end Go.Proofs.YtkmhgepdhilllaaGreatDoor
namespace Go.Proofs.YtkmhgepdhilllaaGreatDoor
open Go Go.RowKit Go.Cs
set_option maxRecDepth 100000
end Go.Proofs.YtkmhgepdhilllaaGreatDoor
namespace Go.Proofs.YtkmhgepdhilllaaGreatDoor
open Go Go.RowKit Go.Cs
set_option maxRecDepth 100000
end Go.Proofs.YtkmhgepdhilllaaGreatDoor
namespace Go.Proofs.YtkmhgepdhilllaaGreatDoor
open Go Go.RowKit Go.Cs
set_option maxRecDepth 100000
set_option maxHeartbeats 4000000 in
theorem zzm (k:Nat) {lo_p hi_p:Nat} {a_p:Option Addr} {n_p c_p:Nat} {p:List (UInt8×UInt8)} {lo_s hi_s:Nat} {a_s:Option Addr} {n_s c_s:Nat} {s:List UInt8} {lo_q hi_q:Nat} {a_q:Option Addr} {n_q c_q:Nat} {q:List (UInt8×UInt8)} (e:Nat) (f:Nat) (w:World) (h_p:Ms b2C 2 lo_p hi_p w a_p n_p c_p p) (h_s:Bs lo_s hi_s w a_s n_s c_s s) (h_q:Ms b2C 2 lo_q hi_q w a_q n_q c_q q) (hp0:k<256) (hp1:e<256) (hp2:f<256) (hp3:¬e%zt k=f%zt k) (hg0:Gl 0 [vI 45,vI 33] w) (hg1:Gl 1 (w8C zbp) w) (hg2:Gl 3 (zay kA) w) (hg3:Gl 2 [.iface 227 (.agg #[.pointer (some ⟨4,160,none⟩)])] w):
  Calls Tryz.prog 4 #[(vA [(vB k),(.slice a_p n_p c_p),(.slice a_s n_s c_s),(.slice a_q n_q c_q)]),(vB e),(vB f)] w (Ret fun r w'=>r=vT∧Ext w w'):=by
 refine zD (n:=161) (σ:= [(0,(vA [(vB k),(.slice a_p n_p c_p),(.slice a_s n_s c_s),(.slice a_q n_q c_q)])),(1,(vB e)),(2,(vB f))]) Tryz.func4 rfl ?_
 replace h_p:=h_p.now;have hle_p:=h_p.le
 replace h_s:=h_s.now;have hle_s:=h_s.le
 replace h_q:=h_q.now;have hle_q:=h_q.le
 have hgl0:=hg0.lt
 have hgl1:=hg1.lt
 have hgl2:=hg2.lt
 have hgl3:=hg3.lt
 have hbk:=zgJ k
 have h5:=zar (zt k)
 have hts:=zaB (n:=zt k) (by omega)
 have htp:=zcF (n:=zt k) (by omega) (by omega)
 refine ze (zd (za (zaa (Instr.box 27 (vA [(vB k),(.slice a_p n_p c_p),(.slice a_s n_s c_s),(.slice a_q n_q c_q)])) (vP w.heap.size 0) ([(vB k),(.slice a_p n_p c_p),(.slice a_s n_s c_s),(.slice a_q n_q c_q)]) 27 ?_)))
 intro w1 hBw1 hEw1 hzw1 hlw1
 refine zc 1 [(6,vF)] (zf (zb (ze (zd (za (zO w.heap.size 0 (hBw1.all) ?_))))))
 refine za (zp (zzk k _ (h_p.ext hEw1) (h_s.ext hEw1) (h_q.ext hEw1) (by omega)) ?_)
 rintro _ w2 ⟨a1L,a1C,a1S,a1a,a1b,a1c,a1d,a1e,a1f,rfl,hFz1_0,hFz1_1,hFz1_2,hFz1_3,hFz1_4,hEw2⟩
 have hzw2:=hEw2.size
 have hO:=hFz1_0;have hLn:=hFz1_1;have hl1:=hFz1_2.le;have hl2:=hFz1_3.le;have hl3:=hFz1_4.le
 refine zal ([(.slice a1a (zt k) a1b),(.slice a1c (zt k) a1d),(.slice a1e (tot (zt k)) a1f)]) 34 rfl (by simp [Value.oneCell']) ?_
 intro w3 hBw3 hEw3 hzw3 hlw3
 refine zf (zb (ze (zd (za (zO w2.heap.size 0 (hBw3.all) ?_)))))
 refine za (zp (zic _ (hFz1_2.ext hEw3) (hFz1_3.ext hEw3) (hFz1_4.ext hEw3) (by first | omega | decide) (by first | omega | decide) (by first | omega | decide) (by first | omega | decide) (hO.m.sl)) ?_)
 rintro _ w4 ⟨a2,ca2,rfl,hFz2_0,hEw4⟩
 have hzw4:=hEw4.size
 have hma2:=hFz2_0.ms;have hlea2:=hma2.le
 refine zal ([(vI (zt k)),(.slice a2 (tot (zt k)) ca2)]) 38 rfl (by simp [Value.oneCell']) ?_
 intro w5 hBw5 hEw5 hzw5 hlw5
 refine zf (zb (ze (zd (zc 1 [(35,(vP w2.heap.size 0))] (za (zm w2.heap.size 0 (((hBw3.ext hEw4).ext hEw5).cell rfl) ?_))))))
 refine zc 2 [(9,(vI (zt k))),(37,(vI (zt k)))] (zf (zb (ze (zab 10 (fun w6 hEw6 hzw6 hT52=> ?_)))))
 refine zg hT52 [(0,38,(vB e))] 1 (zn hT52 1 (vI e) (zY .i64 (IntKind.i64.wrap ((e:Nat):Int)) (zu rfl)) (zg hT52 [(2,40,(vI (zt k)))] 1 (zn hT52 3 (vI (e%(zt k))) (zag (bo .rem 3 (.tmp 39) (.tmp 40) (vI e) (vI (zt k))) (fun w' hC=>zrY (by omega))) ?_)))
 obtain ⟨i,hi⟩:∃z,z=e%(zt k):=⟨_,rfl⟩
 rw [←hi]
 have hib:i<zt k:=by rw [hi];exact Nat.mod_lt _ (by omega)
 refine zg hT52 [(4,42,(vB f))] 1 (zn hT52 5 (vI f) (zY .i64 (IntKind.i64.wrap ((f:Nat):Int)) (zu rfl)) (zg hT52 [(6,44,(vI (zt k)))] 1 (zn hT52 7 (vI (f%(zt k))) (zag (bo .rem 3 (.tmp 43) (.tmp 44) (vI f) (vI (zt k))) (fun w' hC=>zrY (by omega))) ?_)))
 obtain ⟨j,hj⟩:∃z,z=f%(zt k):=⟨_,rfl⟩
 rw [←hj]
 have hjb:j<zt k:=by rw [hj];exact Nat.mod_lt _ (by omega)
 refine zg hT52 [(8,10,(vI i)),(9,11,(vI j))] 2 (zE (zb (ze (zd (zc 1 [(46,(vB e))] (za (zp (zgI e _ (by omega)) ?_)))))))
 rintro _ w7 ⟨rfl,hEw7⟩
 have hzw7:=hEw7.size
 refine zc 1 [(48,(vB f))] (za (zp (zgI f _ (by omega)) ?_))
 rintro _ w8 ⟨rfl,hEw8⟩
 have hzw8:=hEw8.size
 refine za (zaf (zR Dig.zero) 59 ?_)
 intro w9 hBw9 hEw9 hzw9 hlw9
 refine za (zaf (zR Dig.zero) 59 ?_)
 intro w10 hBw10 hEw10 hzw10 hlw10
 refine za (zG 59 w8.heap.size 0 59 (vA (zR (mkD e))) (zR Dig.zero) (zR (mkD e)) (hBw9.ext hEw10) (by rw [zam];kernel_rfl) (by first |(simp;done)|(simp;omega)) (zbW _) ?_)
 intro w11 hBw11 hCw11
 have hzw11:=hCw11.size
 rw [zy _ _ (by simp)] at hBw11
 refine za (zG 59 w9.heap.size 0 59 (vA (zR (mkD f))) (zR Dig.zero) (zR (mkD f)) (hBw10.chg hCw11) (by rw [zam];kernel_rfl) (by first |(simp;done)|(simp;omega)) (zbW _) ?_)
 intro w12 hBw12 hCw12
 have hzw12:=hCw12.size
 rw [zy _ _ (by simp)] at hBw12
 refine zf (zb ?_)
 obtain ⟨L1,hL1⟩:∃z,z=a1L.set i (zaH a1L a1C i (za2 e) (mkD e)):=⟨_,rfl⟩
 obtain ⟨C1,hC1⟩:∃z,z=a1C.set i true:=⟨_,rfl⟩
 have hO1:OkW L1 C1 a1S:=by rw [hL1,hC1];exact hO.set (by rw [hLn];exact hib)
 have hLn1:L1.length=zt k:=by rw [hL1,List.length_set];exact hLn
 refine zqN (X:=Nat×Option Addr) (fun ⟨bj14,aj14⟩=> [(14,(vP bj14 0)),(15,(vI (za1 a1L a1C i))),(16,(vI 0))]) [50,51,52,53,54,55,56,57,58,59] (fun ⟨bj14,aj14⟩ w13=>Blk w13 bj14 ([(vI (zt k)),(.slice aj14 (tot (zt k)) (tot (zt k)))]) 38∧Ms unC 280 w12.heap.size w13.heap.size w13 aj14 (tot (zt k)) (tot (zt k)) (zaw L1 C1 a1S)∧w12.heap.size≤bj14∧Ext w12 w13) ?_ ?_
 ·refine zab 14 (fun w14 hEw14 hzw14 hT99=> ?_)
  have hK1:=((((((((hBw5.ext hEw6).ext hEw7).ext hEw8).ext hEw9).ext hEw10).chg hCw11).chg hCw12).ext hEw14)
  refine zaO hT99 0 w4.heap.size 0 (fun w' hC=>((hK1.ext hC).all)) (zg hT99 [(1,52,(vI i)),(2,53,(vB e))] 2 (zan hT99 4 w8.heap.size 0 (fun w' hC=>((((hBw11.chg hCw12).ext hEw14).ext hC).all)) (zam _) (zbt 3 10 ?_ ?_)))
  ·refine zp (zcb e _ (by first | omega | decide | exact UInt8.toNat_lt _)) ?_
   rintro _ w15 ⟨rfl,hEw15⟩
   have hzw15:=hEw15.size
   refine ⟨.inr hEw15, ?_⟩
   refine zbt 5 10 ?_ ?_
   ·have hK2:=((((((((((hma2.ext hEw5).ext hEw6).ext hEw7).ext hEw8).ext hEw9).ext hEw10).chg hCw11).chg hCw12).ext hEw14).ext hEw15)
    have hK3:=((((((((((((((hg0.ext hEw1).ext hEw2).ext hEw3).ext hEw4).ext hEw5).ext hEw6).ext hEw7).ext hEw8).ext hEw9).ext hEw10).chg hCw11).chg hCw12).ext hEw14).ext hEw15)
    have hK4:=((((((((((((((hg1.ext hEw1).ext hEw2).ext hEw3).ext hEw4).ext hEw5).ext hEw6).ext hEw7).ext hEw8).ext hEw9).ext hEw10).chg hCw11).chg hCw12).ext hEw14).ext hEw15)
    have hK5:=((((((((((((((hg2.ext hEw1).ext hEw2).ext hEw3).ext hEw4).ext hEw5).ext hEw6).ext hEw7).ext hEw8).ext hEw9).ext hEw10).chg hCw11).chg hCw12).ext hEw14).ext hEw15)
    refine zp (zcY (zt k) i (za2 e) (mkD e) _ hK2 (by omega) (by omega) (by omega) (zba hO) (zaV hO hLn) (hib) hK3 hK4 hK5) ?_
    rintro _ w16 ⟨a3,rfl,hFz6_0,hEw16⟩
    have hzw16:=hEw16.size
    have hlea3:=hFz6_0.le
    rw [show zc4 (zt k) (zaw a1L a1C a1S) i (za2 e) (mkD e)=(zaw L1 C1 a1S) from by rw [hL1,hC1];exact zgu hO hLn hib] at hFz6_0
    rw [show (zaZ ((zaw a1L a1C a1S).getD (i/4) Un.zero) (i%4))=za1 a1L a1C i from zf4 hO hLn hib]
    have hX1:Ext w14 w16:=(hEw15.trans hEw16)
    refine ⟨.inr hX1, ?_⟩
    refine zg (hw:=hX1) hT99 [(6,50,(.tuple #[(vA [(vI (zt k)),(.slice a3 (tot (zt k)) (tot (zt k)))]),(vI (za1 a1L a1C i)),(vI 0)])),(7,57,(vA [(vI (zt k)),(.slice a3 (tot (zt k)) (tot (zt k)))])),(8,58,(vI (za1 a1L a1C i))),(9,59,(vI 0))] 4 (zx 10 (zaf ([(vI 0),(.slice none 0 0)]) 38 ?_))
    intro w17 hBw17 hEw17 hzw17 hlw17
    have hX2:Ext w14 w17:=((hEw15.trans hEw16).trans hEw17)
    refine ⟨.inr hX2, ?_⟩
    refine zx 11 (zG 38 w16.heap.size 0 38 (vA [(vI (zt k)),(.slice a3 (tot (zt k)) (tot (zt k)))]) ([(vI 0),(.slice none 0 0)]) ([(vI (zt k)),(.slice a3 (tot (zt k)) (tot (zt k)))]) hBw17 (by kernel_rfl) (by first | decide |(simp;done)|(simp;omega)) (by simp [Value.oneCell']) ?_)
    intro w18 hBw18 hCw18
    have hzw18:=hCw18.size
    rw [zy _ _ (by kernel_rfl)] at hBw18
    have hX3:Ext w14 w18:=(Ext.own ((hEw15.trans hEw16).trans hEw17) hCw18 (by omega))
    refine ⟨.inr hX3, ?_⟩
    exact zg (hw:=hX3) hT99 [(12,15,(vI (za1 a1L a1C i))),(13,16,(vI 0))] 2 (zE (zz (zm2 (w16.heap.size,a3) (⟨hBw18,(((hFz6_0.ext hEw17).chg hCw18)).now.mono (by omega) (Nat.le_refl _),by omega,(hEw14.trans hX3)⟩))))
   ·refine zaf ([(vI 0),(.slice none 0 0)]) 38 ?_
    intro w19 hBw19 hEw19 hzw19 hlw19
    have hX4:Ext w14 w19:=(hEw15.trans hEw19)
    refine ⟨.inr hX4, ?_⟩
    have hK6:=(((((((((((hma2.ext hEw5).ext hEw6).ext hEw7).ext hEw8).ext hEw9).ext hEw10).chg hCw11).chg hCw12).ext hEw14).ext hEw15).ext hEw19)
    have hK7:=(((((((((((((((hg0.ext hEw1).ext hEw2).ext hEw3).ext hEw4).ext hEw5).ext hEw6).ext hEw7).ext hEw8).ext hEw9).ext hEw10).chg hCw11).chg hCw12).ext hEw14).ext hEw15).ext hEw19)
    have hK8:=(((((((((((((((hg1.ext hEw1).ext hEw2).ext hEw3).ext hEw4).ext hEw5).ext hEw6).ext hEw7).ext hEw8).ext hEw9).ext hEw10).chg hCw11).chg hCw12).ext hEw14).ext hEw15).ext hEw19)
    have hK9:=(((((((((((((((hg2.ext hEw1).ext hEw2).ext hEw3).ext hEw4).ext hEw5).ext hEw6).ext hEw7).ext hEw8).ext hEw9).ext hEw10).chg hCw11).chg hCw12).ext hEw14).ext hEw15).ext hEw19)
    refine zx 5 (zp (zcY (zt k) i (za2 e) (mkD e) _ hK6 (by omega) (by omega) (by omega) (zba hO) (zaV hO hLn) (hib) hK7 hK8 hK9) ?_)
    rintro _ w20 ⟨a4,rfl,hFz7_0,hEw20⟩
    have hzw20:=hEw20.size
    have hlea4:=hFz7_0.le
    rw [show zc4 (zt k) (zaw a1L a1C a1S) i (za2 e) (mkD e)=(zaw L1 C1 a1S) from by rw [hL1,hC1];exact zgu hO hLn hib] at hFz7_0
    rw [show (zaZ ((zaw a1L a1C a1S).getD (i/4) Un.zero) (i%4))=za1 a1L a1C i from zf4 hO hLn hib]
    have hX5:Ext w14 w20:=((hEw15.trans hEw19).trans hEw20)
    refine ⟨.inr hX5, ?_⟩
    refine zg (hw:=hX5) hT99 [(6,50,(.tuple #[(vA [(vI (zt k)),(.slice a4 (tot (zt k)) (tot (zt k)))]),(vI (za1 a1L a1C i)),(vI 0)])),(7,57,(vA [(vI (zt k)),(.slice a4 (tot (zt k)) (tot (zt k)))])),(8,58,(vI (za1 a1L a1C i))),(9,59,(vI 0))] 4 (zx 11 (zG 38 w15.heap.size 0 38 (vA [(vI (zt k)),(.slice a4 (tot (zt k)) (tot (zt k)))]) ([(vI 0),(.slice none 0 0)]) ([(vI (zt k)),(.slice a4 (tot (zt k)) (tot (zt k)))]) (hBw19.ext hEw20) (by kernel_rfl) (by first | decide |(simp;done)|(simp;omega)) (by simp [Value.oneCell']) ?_))
    intro w21 hBw21 hCw21
    have hzw21:=hCw21.size
    rw [zy _ _ (by kernel_rfl)] at hBw21
    have hX6:Ext w14 w21:=(Ext.own ((hEw15.trans hEw19).trans hEw20) hCw21 (by omega))
    refine ⟨.inr hX6, ?_⟩
    exact zg (hw:=hX6) hT99 [(12,15,(vI (za1 a1L a1C i))),(13,16,(vI 0))] 2 (zE (zz (zm2 (w15.heap.size,a4) (⟨hBw21,((hFz7_0.chg hCw21)).now.mono (by omega) (Nat.le_refl _),by omega,(hEw14.trans hX6)⟩))))
  ·refine zaf ([(vI 0),(.slice none 0 0)]) 38 ?_
   intro w22 hBw22 hEw22 hzw22 hlw22
   refine ⟨.inr hEw22, ?_⟩
   refine zx 3 (zp (zcb e _ (by first | omega | decide | exact UInt8.toNat_lt _)) ?_)
   rintro _ w23 ⟨rfl,hEw23⟩
   have hzw23:=hEw23.size
   have hX7:Ext w14 w23:=(hEw22.trans hEw23)
   refine ⟨.inr hX7, ?_⟩
   have hK10:=(((((((((((hma2.ext hEw5).ext hEw6).ext hEw7).ext hEw8).ext hEw9).ext hEw10).chg hCw11).chg hCw12).ext hEw14).ext hEw22).ext hEw23)
   have hK11:=(((((((((((((((hg0.ext hEw1).ext hEw2).ext hEw3).ext hEw4).ext hEw5).ext hEw6).ext hEw7).ext hEw8).ext hEw9).ext hEw10).chg hCw11).chg hCw12).ext hEw14).ext hEw22).ext hEw23)
   have hK12:=(((((((((((((((hg1.ext hEw1).ext hEw2).ext hEw3).ext hEw4).ext hEw5).ext hEw6).ext hEw7).ext hEw8).ext hEw9).ext hEw10).chg hCw11).chg hCw12).ext hEw14).ext hEw22).ext hEw23)
   have hK13:=(((((((((((((((hg2.ext hEw1).ext hEw2).ext hEw3).ext hEw4).ext hEw5).ext hEw6).ext hEw7).ext hEw8).ext hEw9).ext hEw10).chg hCw11).chg hCw12).ext hEw14).ext hEw22).ext hEw23)
   refine zx 5 (zp (zcY (zt k) i (za2 e) (mkD e) _ hK10 (by omega) (by omega) (by omega) (zba hO) (zaV hO hLn) (hib) hK11 hK12 hK13) ?_)
   rintro _ w24 ⟨a5,rfl,hFz9_0,hEw24⟩
   have hzw24:=hEw24.size
   have hlea5:=hFz9_0.le
   rw [show zc4 (zt k) (zaw a1L a1C a1S) i (za2 e) (mkD e)=(zaw L1 C1 a1S) from by rw [hL1,hC1];exact zgu hO hLn hib] at hFz9_0
   rw [show (zaZ ((zaw a1L a1C a1S).getD (i/4) Un.zero) (i%4))=za1 a1L a1C i from zf4 hO hLn hib]
   have hX8:Ext w14 w24:=((hEw22.trans hEw23).trans hEw24)
   refine ⟨.inr hX8, ?_⟩
   refine zg (hw:=hX8) hT99 [(6,50,(.tuple #[(vA [(vI (zt k)),(.slice a5 (tot (zt k)) (tot (zt k)))]),(vI (za1 a1L a1C i)),(vI 0)])),(7,57,(vA [(vI (zt k)),(.slice a5 (tot (zt k)) (tot (zt k)))])),(8,58,(vI (za1 a1L a1C i))),(9,59,(vI 0))] 4 (zx 11 (zG 38 w14.heap.size 0 38 (vA [(vI (zt k)),(.slice a5 (tot (zt k)) (tot (zt k)))]) ([(vI 0),(.slice none 0 0)]) ([(vI (zt k)),(.slice a5 (tot (zt k)) (tot (zt k)))]) ((hBw22.ext hEw23).ext hEw24) (by kernel_rfl) (by first | decide |(simp;done)|(simp;omega)) (by simp [Value.oneCell']) ?_))
   intro w25 hBw25 hCw25
   have hzw25:=hCw25.size
   rw [zy _ _ (by kernel_rfl)] at hBw25
   have hX9:Ext w14 w25:=(Ext.own ((hEw22.trans hEw23).trans hEw24) hCw25 (by omega))
   refine ⟨.inr hX9, ?_⟩
   exact zg (hw:=hX9) hT99 [(12,15,(vI (za1 a1L a1C i))),(13,16,(vI 0))] 2 (zE (zz (zm2 (w14.heap.size,a5) (⟨hBw25,((hFz9_0.chg hCw25)).now.mono (by omega) (Nat.le_refl _),by omega,(hEw14.trans hX9)⟩))))
 rintro ⟨bj14,aj14⟩ dw13 w13 ⟨hJ14,hM14,hJs14,hEj14⟩
 have hzj14:=hEj14.size;have hJl14:=hJ14.lt;have hle14:=hM14.le
 obtain ⟨L2,hL2⟩:∃z,z=L1.set j (zaH L1 C1 j (za2 f) (mkD f)):=⟨_,rfl⟩
 obtain ⟨C2,hC2⟩:∃z,z=C1.set j true:=⟨_,rfl⟩
 have hO2:OkW L2 C2 a1S:=by rw [hL2,hC2];exact hO1.set (by rw [hLn1];exact hjb)
 have hLn2:L2.length=zt k:=by rw [hL2,List.length_set];exact hLn1
 have hkp:za1 L2 C2 i=za1 a1L a1C i:=by rw [hL2,hC2,zlu (by omega) (by have:=hO1.hc;omega),hL1,hC1,zlu (by omega) (by have:=hO.hc;omega)]
 refine zqN (X:=Nat×Option Addr) (fun ⟨bj17,aj17⟩=> [(17,(vP bj17 0)),(18,(vI (za1 L1 C1 j))),(19,(vI 0))]) [60,61,62,63,64,65,66,67,68,69] (fun ⟨bj17,aj17⟩ w26=>Blk w26 bj17 ([(vI (zt k)),(.slice aj17 (tot (zt k)) (tot (zt k)))]) 38∧Ms unC 280 w13.heap.size w26.heap.size w26 aj17 (tot (zt k)) (tot (zt k)) (zaw L2 C2 a1S)∧w13.heap.size≤bj17∧Ext w13 w26) ?_ ?_
 ·refine zab 14 (fun w27 hEw27 hzw27 hT206=> ?_)
  refine zaO hT206 0 bj14 0 (fun w' hC=>(((hJ14.ext hEw27).ext hC).all)) (zg hT206 [(1,62,(vI j)),(2,63,(vB f))] 2 (zan hT206 4 w9.heap.size 0 (fun w' hC=>((((hBw12.ext hEj14).ext hEw27).ext hC).all)) (zam _) (zbt 3 10 ?_ ?_)))
  ·refine zp (zcb f _ (by first | omega | decide | exact UInt8.toNat_lt _)) ?_
   rintro _ w28 ⟨rfl,hEw28⟩
   have hzw28:=hEw28.size
   refine ⟨.inr hEw28, ?_⟩
   refine zbt 5 10 ?_ ?_
   ·have hK14:=(((((((((((((((hg0.ext hEw1).ext hEw2).ext hEw3).ext hEw4).ext hEw5).ext hEw6).ext hEw7).ext hEw8).ext hEw9).ext hEw10).chg hCw11).chg hCw12).ext hEj14).ext hEw27).ext hEw28)
    have hK15:=(((((((((((((((hg1.ext hEw1).ext hEw2).ext hEw3).ext hEw4).ext hEw5).ext hEw6).ext hEw7).ext hEw8).ext hEw9).ext hEw10).chg hCw11).chg hCw12).ext hEj14).ext hEw27).ext hEw28)
    have hK16:=(((((((((((((((hg2.ext hEw1).ext hEw2).ext hEw3).ext hEw4).ext hEw5).ext hEw6).ext hEw7).ext hEw8).ext hEw9).ext hEw10).chg hCw11).chg hCw12).ext hEj14).ext hEw27).ext hEw28)
    refine zp (zcY (zt k) j (za2 f) (mkD f) _ ((hM14.ext hEw27).ext hEw28) (by omega) (by omega) (by omega) (zba hO1) (zaV hO1 hLn1) (hjb) hK14 hK15 hK16) ?_
    rintro _ w29 ⟨a6,rfl,hFz11_0,hEw29⟩
    have hzw29:=hEw29.size
    have hlea6:=hFz11_0.le
    rw [show zc4 (zt k) (zaw L1 C1 a1S) j (za2 f) (mkD f)=(zaw L2 C2 a1S) from by rw [hL2,hC2];exact zgu hO1 hLn1 hjb] at hFz11_0
    rw [show (zaZ ((zaw L1 C1 a1S).getD (j/4) Un.zero) (j%4))=za1 L1 C1 j from zf4 hO1 hLn1 hjb]
    have hX10:Ext w27 w29:=(hEw28.trans hEw29)
    refine ⟨.inr hX10, ?_⟩
    refine zg (hw:=hX10) hT206 [(6,60,(.tuple #[(vA [(vI (zt k)),(.slice a6 (tot (zt k)) (tot (zt k)))]),(vI (za1 L1 C1 j)),(vI 0)])),(7,67,(vA [(vI (zt k)),(.slice a6 (tot (zt k)) (tot (zt k)))])),(8,68,(vI (za1 L1 C1 j))),(9,69,(vI 0))] 4 (zx 10 (zaf ([(vI 0),(.slice none 0 0)]) 38 ?_))
    intro w30 hBw30 hEw30 hzw30 hlw30
    have hX11:Ext w27 w30:=((hEw28.trans hEw29).trans hEw30)
    refine ⟨.inr hX11, ?_⟩
    refine zx 11 (zG 38 w29.heap.size 0 38 (vA [(vI (zt k)),(.slice a6 (tot (zt k)) (tot (zt k)))]) ([(vI 0),(.slice none 0 0)]) ([(vI (zt k)),(.slice a6 (tot (zt k)) (tot (zt k)))]) hBw30 (by kernel_rfl) (by first | decide |(simp;done)|(simp;omega)) (by simp [Value.oneCell']) ?_)
    intro w31 hBw31 hCw31
    have hzw31:=hCw31.size
    rw [zy _ _ (by kernel_rfl)] at hBw31
    have hX12:Ext w27 w31:=(Ext.own ((hEw28.trans hEw29).trans hEw30) hCw31 (by omega))
    refine ⟨.inr hX12, ?_⟩
    exact zg (hw:=hX12) hT206 [(12,18,(vI (za1 L1 C1 j))),(13,19,(vI 0))] 2 (zE (zz (zm2 (w29.heap.size,a6) (⟨hBw31,(((hFz11_0.ext hEw30).chg hCw31)).now.mono (by omega) (Nat.le_refl _),by omega,(hEw27.trans hX12)⟩))))
   ·refine zaf ([(vI 0),(.slice none 0 0)]) 38 ?_
    intro w32 hBw32 hEw32 hzw32 hlw32
    have hX13:Ext w27 w32:=(hEw28.trans hEw32)
    refine ⟨.inr hX13, ?_⟩
    have hK17:=(((hM14.ext hEw27).ext hEw28).ext hEw32)
    have hK18:=((((((((((((((((hg0.ext hEw1).ext hEw2).ext hEw3).ext hEw4).ext hEw5).ext hEw6).ext hEw7).ext hEw8).ext hEw9).ext hEw10).chg hCw11).chg hCw12).ext hEj14).ext hEw27).ext hEw28).ext hEw32)
    have hK19:=((((((((((((((((hg1.ext hEw1).ext hEw2).ext hEw3).ext hEw4).ext hEw5).ext hEw6).ext hEw7).ext hEw8).ext hEw9).ext hEw10).chg hCw11).chg hCw12).ext hEj14).ext hEw27).ext hEw28).ext hEw32)
    have hK20:=((((((((((((((((hg2.ext hEw1).ext hEw2).ext hEw3).ext hEw4).ext hEw5).ext hEw6).ext hEw7).ext hEw8).ext hEw9).ext hEw10).chg hCw11).chg hCw12).ext hEj14).ext hEw27).ext hEw28).ext hEw32)
    refine zx 5 (zp (zcY (zt k) j (za2 f) (mkD f) _ hK17 (by omega) (by omega) (by omega) (zba hO1) (zaV hO1 hLn1) (hjb) hK18 hK19 hK20) ?_)
    rintro _ w33 ⟨a7,rfl,hFz12_0,hEw33⟩
    have hzw33:=hEw33.size
    have hlea7:=hFz12_0.le
    rw [show zc4 (zt k) (zaw L1 C1 a1S) j (za2 f) (mkD f)=(zaw L2 C2 a1S) from by rw [hL2,hC2];exact zgu hO1 hLn1 hjb] at hFz12_0
    rw [show (zaZ ((zaw L1 C1 a1S).getD (j/4) Un.zero) (j%4))=za1 L1 C1 j from zf4 hO1 hLn1 hjb]
    have hX14:Ext w27 w33:=((hEw28.trans hEw32).trans hEw33)
    refine ⟨.inr hX14, ?_⟩
    refine zg (hw:=hX14) hT206 [(6,60,(.tuple #[(vA [(vI (zt k)),(.slice a7 (tot (zt k)) (tot (zt k)))]),(vI (za1 L1 C1 j)),(vI 0)])),(7,67,(vA [(vI (zt k)),(.slice a7 (tot (zt k)) (tot (zt k)))])),(8,68,(vI (za1 L1 C1 j))),(9,69,(vI 0))] 4 (zx 11 (zG 38 w28.heap.size 0 38 (vA [(vI (zt k)),(.slice a7 (tot (zt k)) (tot (zt k)))]) ([(vI 0),(.slice none 0 0)]) ([(vI (zt k)),(.slice a7 (tot (zt k)) (tot (zt k)))]) (hBw32.ext hEw33) (by kernel_rfl) (by first | decide |(simp;done)|(simp;omega)) (by simp [Value.oneCell']) ?_))
    intro w34 hBw34 hCw34
    have hzw34:=hCw34.size
    rw [zy _ _ (by kernel_rfl)] at hBw34
    have hX15:Ext w27 w34:=(Ext.own ((hEw28.trans hEw32).trans hEw33) hCw34 (by omega))
    refine ⟨.inr hX15, ?_⟩
    exact zg (hw:=hX15) hT206 [(12,18,(vI (za1 L1 C1 j))),(13,19,(vI 0))] 2 (zE (zz (zm2 (w28.heap.size,a7) (⟨hBw34,((hFz12_0.chg hCw34)).now.mono (by omega) (Nat.le_refl _),by omega,(hEw27.trans hX15)⟩))))
  ·refine zaf ([(vI 0),(.slice none 0 0)]) 38 ?_
   intro w35 hBw35 hEw35 hzw35 hlw35
   refine ⟨.inr hEw35, ?_⟩
   refine zx 3 (zp (zcb f _ (by first | omega | decide | exact UInt8.toNat_lt _)) ?_)
   rintro _ w36 ⟨rfl,hEw36⟩
   have hzw36:=hEw36.size
   have hX16:Ext w27 w36:=(hEw35.trans hEw36)
   refine ⟨.inr hX16, ?_⟩
   have hK21:=(((hM14.ext hEw27).ext hEw35).ext hEw36)
   have hK22:=((((((((((((((((hg0.ext hEw1).ext hEw2).ext hEw3).ext hEw4).ext hEw5).ext hEw6).ext hEw7).ext hEw8).ext hEw9).ext hEw10).chg hCw11).chg hCw12).ext hEj14).ext hEw27).ext hEw35).ext hEw36)
   have hK23:=((((((((((((((((hg1.ext hEw1).ext hEw2).ext hEw3).ext hEw4).ext hEw5).ext hEw6).ext hEw7).ext hEw8).ext hEw9).ext hEw10).chg hCw11).chg hCw12).ext hEj14).ext hEw27).ext hEw35).ext hEw36)
   have hK24:=((((((((((((((((hg2.ext hEw1).ext hEw2).ext hEw3).ext hEw4).ext hEw5).ext hEw6).ext hEw7).ext hEw8).ext hEw9).ext hEw10).chg hCw11).chg hCw12).ext hEj14).ext hEw27).ext hEw35).ext hEw36)
   refine zx 5 (zp (zcY (zt k) j (za2 f) (mkD f) _ hK21 (by omega) (by omega) (by omega) (zba hO1) (zaV hO1 hLn1) (hjb) hK22 hK23 hK24) ?_)
   rintro _ w37 ⟨a8,rfl,hFz14_0,hEw37⟩
   have hzw37:=hEw37.size
   have hlea8:=hFz14_0.le
   rw [show zc4 (zt k) (zaw L1 C1 a1S) j (za2 f) (mkD f)=(zaw L2 C2 a1S) from by rw [hL2,hC2];exact zgu hO1 hLn1 hjb] at hFz14_0
   rw [show (zaZ ((zaw L1 C1 a1S).getD (j/4) Un.zero) (j%4))=za1 L1 C1 j from zf4 hO1 hLn1 hjb]
   have hX17:Ext w27 w37:=((hEw35.trans hEw36).trans hEw37)
   refine ⟨.inr hX17, ?_⟩
   refine zg (hw:=hX17) hT206 [(6,60,(.tuple #[(vA [(vI (zt k)),(.slice a8 (tot (zt k)) (tot (zt k)))]),(vI (za1 L1 C1 j)),(vI 0)])),(7,67,(vA [(vI (zt k)),(.slice a8 (tot (zt k)) (tot (zt k)))])),(8,68,(vI (za1 L1 C1 j))),(9,69,(vI 0))] 4 (zx 11 (zG 38 w27.heap.size 0 38 (vA [(vI (zt k)),(.slice a8 (tot (zt k)) (tot (zt k)))]) ([(vI 0),(.slice none 0 0)]) ([(vI (zt k)),(.slice a8 (tot (zt k)) (tot (zt k)))]) ((hBw35.ext hEw36).ext hEw37) (by kernel_rfl) (by first | decide |(simp;done)|(simp;omega)) (by simp [Value.oneCell']) ?_))
   intro w38 hBw38 hCw38
   have hzw38:=hCw38.size
   rw [zy _ _ (by kernel_rfl)] at hBw38
   have hX18:Ext w27 w38:=(Ext.own ((hEw35.trans hEw36).trans hEw37) hCw38 (by omega))
   refine ⟨.inr hX18, ?_⟩
   exact zg (hw:=hX18) hT206 [(12,18,(vI (za1 L1 C1 j))),(13,19,(vI 0))] 2 (zE (zz (zm2 (w27.heap.size,a8) (⟨hBw38,((hFz14_0.chg hCw38)).now.mono (by omega) (Nat.le_refl _),by omega,(hEw27.trans hX18)⟩))))
 rintro ⟨bj17,aj17⟩ dw26 w26 ⟨hJ17,hM17,hJs17,hEj17⟩
 have hzj17:=hEj17.size;have hJl17:=hJ17.lt;have hle17:=hM17.le
 obtain ⟨L3,hL3⟩:∃z,z=a1L.set j (zaH a1L a1C j (za2 f) (mkD f)):=⟨_,rfl⟩
 obtain ⟨C3,hC3⟩:∃z,z=a1C.set j true:=⟨_,rfl⟩
 have hO3:OkW L3 C3 a1S:=by rw [hL3,hC3];exact hO.set (by rw [hLn];exact hjb)
 have hLn3:L3.length=zt k:=by rw [hL3,List.length_set];exact hLn
 refine zqN (X:=Nat×Option Addr) (fun ⟨bj20,aj20⟩=> [(20,(vP bj20 0)),(21,(vI (za1 a1L a1C j))),(22,(vI 0))]) [70,71,72,73,74,75,76,77,78,79] (fun ⟨bj20,aj20⟩ w39=>Blk w39 bj20 ([(vI (zt k)),(.slice aj20 (tot (zt k)) (tot (zt k)))]) 38∧Ms unC 280 w26.heap.size w39.heap.size w39 aj20 (tot (zt k)) (tot (zt k)) (zaw L3 C3 a1S)∧w26.heap.size≤bj20∧Ext w26 w39) ?_ ?_
 ·refine zab 14 (fun w40 hEw40 hzw40 hT310=> ?_)
  have hK25:=((((((((((hBw5.ext hEw6).ext hEw7).ext hEw8).ext hEw9).ext hEw10).chg hCw11).chg hCw12).ext hEj14).ext hEj17).ext hEw40)
  refine zaO hT310 0 w4.heap.size 0 (fun w' hC=>((hK25.ext hC).all)) (zg hT310 [(1,72,(vI j)),(2,73,(vB f))] 2 ?_)
  have hK26:=(((hBw12.ext hEj14).ext hEj17).ext hEw40)
  refine zan hT310 4 w9.heap.size 0 (fun w' hC=>((hK26.ext hC).all)) (zam _) (zbt 3 10 ?_ ?_)
  ·refine zp (zcb f _ (by first | omega | decide | exact UInt8.toNat_lt _)) ?_
   rintro _ w41 ⟨rfl,hEw41⟩
   have hzw41:=hEw41.size
   refine ⟨.inr hEw41, ?_⟩
   refine zbt 5 10 ?_ ?_
   ·have hK27:=((((((((((((hma2.ext hEw5).ext hEw6).ext hEw7).ext hEw8).ext hEw9).ext hEw10).chg hCw11).chg hCw12).ext hEj14).ext hEj17).ext hEw40).ext hEw41)
    have hK28:=((((((((((((((((hg0.ext hEw1).ext hEw2).ext hEw3).ext hEw4).ext hEw5).ext hEw6).ext hEw7).ext hEw8).ext hEw9).ext hEw10).chg hCw11).chg hCw12).ext hEj14).ext hEj17).ext hEw40).ext hEw41)
    have hK29:=((((((((((((((((hg1.ext hEw1).ext hEw2).ext hEw3).ext hEw4).ext hEw5).ext hEw6).ext hEw7).ext hEw8).ext hEw9).ext hEw10).chg hCw11).chg hCw12).ext hEj14).ext hEj17).ext hEw40).ext hEw41)
    have hK30:=((((((((((((((((hg2.ext hEw1).ext hEw2).ext hEw3).ext hEw4).ext hEw5).ext hEw6).ext hEw7).ext hEw8).ext hEw9).ext hEw10).chg hCw11).chg hCw12).ext hEj14).ext hEj17).ext hEw40).ext hEw41)
    refine zp (zcY (zt k) j (za2 f) (mkD f) _ hK27 (by omega) (by omega) (by omega) (zba hO) (zaV hO hLn) (hjb) hK28 hK29 hK30) ?_
    rintro _ w42 ⟨a9,rfl,hFz16_0,hEw42⟩
    have hzw42:=hEw42.size
    have hlea9:=hFz16_0.le
    rw [show zc4 (zt k) (zaw a1L a1C a1S) j (za2 f) (mkD f)=(zaw L3 C3 a1S) from by rw [hL3,hC3];exact zgu hO hLn hjb] at hFz16_0
    rw [show (zaZ ((zaw a1L a1C a1S).getD (j/4) Un.zero) (j%4))=za1 a1L a1C j from zf4 hO hLn hjb]
    have hX19:Ext w40 w42:=(hEw41.trans hEw42)
    refine ⟨.inr hX19, ?_⟩
    refine zg (hw:=hX19) hT310 [(6,70,(.tuple #[(vA [(vI (zt k)),(.slice a9 (tot (zt k)) (tot (zt k)))]),(vI (za1 a1L a1C j)),(vI 0)])),(7,77,(vA [(vI (zt k)),(.slice a9 (tot (zt k)) (tot (zt k)))])),(8,78,(vI (za1 a1L a1C j))),(9,79,(vI 0))] 4 (zx 10 (zaf ([(vI 0),(.slice none 0 0)]) 38 ?_))
    intro w43 hBw43 hEw43 hzw43 hlw43
    have hX20:Ext w40 w43:=((hEw41.trans hEw42).trans hEw43)
    refine ⟨.inr hX20, ?_⟩
    refine zx 11 (zG 38 w42.heap.size 0 38 (vA [(vI (zt k)),(.slice a9 (tot (zt k)) (tot (zt k)))]) ([(vI 0),(.slice none 0 0)]) ([(vI (zt k)),(.slice a9 (tot (zt k)) (tot (zt k)))]) hBw43 (by kernel_rfl) (by first | decide |(simp;done)|(simp;omega)) (by simp [Value.oneCell']) ?_)
    intro w44 hBw44 hCw44
    have hzw44:=hCw44.size
    rw [zy _ _ (by kernel_rfl)] at hBw44
    have hX21:Ext w40 w44:=(Ext.own ((hEw41.trans hEw42).trans hEw43) hCw44 (by omega))
    refine ⟨.inr hX21, ?_⟩
    exact zg (hw:=hX21) hT310 [(12,21,(vI (za1 a1L a1C j))),(13,22,(vI 0))] 2 (zE (zz (zm2 (w42.heap.size,a9) (⟨hBw44,(((hFz16_0.ext hEw43).chg hCw44)).now.mono (by omega) (Nat.le_refl _),by omega,(hEw40.trans hX21)⟩))))
   ·refine zaf ([(vI 0),(.slice none 0 0)]) 38 ?_
    intro w45 hBw45 hEw45 hzw45 hlw45
    have hX22:Ext w40 w45:=(hEw41.trans hEw45)
    refine ⟨.inr hX22, ?_⟩
    have hK31:=(((((((((((((hma2.ext hEw5).ext hEw6).ext hEw7).ext hEw8).ext hEw9).ext hEw10).chg hCw11).chg hCw12).ext hEj14).ext hEj17).ext hEw40).ext hEw41).ext hEw45)
    have hK32:=(((((((((((((((((hg0.ext hEw1).ext hEw2).ext hEw3).ext hEw4).ext hEw5).ext hEw6).ext hEw7).ext hEw8).ext hEw9).ext hEw10).chg hCw11).chg hCw12).ext hEj14).ext hEj17).ext hEw40).ext hEw41).ext hEw45)
    have hK33:=(((((((((((((((((hg1.ext hEw1).ext hEw2).ext hEw3).ext hEw4).ext hEw5).ext hEw6).ext hEw7).ext hEw8).ext hEw9).ext hEw10).chg hCw11).chg hCw12).ext hEj14).ext hEj17).ext hEw40).ext hEw41).ext hEw45)
    have hK34:=(((((((((((((((((hg2.ext hEw1).ext hEw2).ext hEw3).ext hEw4).ext hEw5).ext hEw6).ext hEw7).ext hEw8).ext hEw9).ext hEw10).chg hCw11).chg hCw12).ext hEj14).ext hEj17).ext hEw40).ext hEw41).ext hEw45)
    refine zx 5 (zp (zcY (zt k) j (za2 f) (mkD f) _ hK31 (by omega) (by omega) (by omega) (zba hO) (zaV hO hLn) (hjb) hK32 hK33 hK34) ?_)
    rintro _ w46 ⟨a10,rfl,hFz17_0,hEw46⟩
    have hzw46:=hEw46.size
    have hlea10:=hFz17_0.le
    rw [show zc4 (zt k) (zaw a1L a1C a1S) j (za2 f) (mkD f)=(zaw L3 C3 a1S) from by rw [hL3,hC3];exact zgu hO hLn hjb] at hFz17_0
    rw [show (zaZ ((zaw a1L a1C a1S).getD (j/4) Un.zero) (j%4))=za1 a1L a1C j from zf4 hO hLn hjb]
    have hX23:Ext w40 w46:=((hEw41.trans hEw45).trans hEw46)
    refine ⟨.inr hX23, ?_⟩
    refine zg (hw:=hX23) hT310 [(6,70,(.tuple #[(vA [(vI (zt k)),(.slice a10 (tot (zt k)) (tot (zt k)))]),(vI (za1 a1L a1C j)),(vI 0)])),(7,77,(vA [(vI (zt k)),(.slice a10 (tot (zt k)) (tot (zt k)))])),(8,78,(vI (za1 a1L a1C j))),(9,79,(vI 0))] 4 (zx 11 (zG 38 w41.heap.size 0 38 (vA [(vI (zt k)),(.slice a10 (tot (zt k)) (tot (zt k)))]) ([(vI 0),(.slice none 0 0)]) ([(vI (zt k)),(.slice a10 (tot (zt k)) (tot (zt k)))]) (hBw45.ext hEw46) (by kernel_rfl) (by first | decide |(simp;done)|(simp;omega)) (by simp [Value.oneCell']) ?_))
    intro w47 hBw47 hCw47
    have hzw47:=hCw47.size
    rw [zy _ _ (by kernel_rfl)] at hBw47
    have hX24:Ext w40 w47:=(Ext.own ((hEw41.trans hEw45).trans hEw46) hCw47 (by omega))
    refine ⟨.inr hX24, ?_⟩
    exact zg (hw:=hX24) hT310 [(12,21,(vI (za1 a1L a1C j))),(13,22,(vI 0))] 2 (zE (zz (zm2 (w41.heap.size,a10) (⟨hBw47,((hFz17_0.chg hCw47)).now.mono (by omega) (Nat.le_refl _),by omega,(hEw40.trans hX24)⟩))))
  ·refine zaf ([(vI 0),(.slice none 0 0)]) 38 ?_
   intro w48 hBw48 hEw48 hzw48 hlw48
   refine ⟨.inr hEw48, ?_⟩
   refine zx 3 (zp (zcb f _ (by first | omega | decide | exact UInt8.toNat_lt _)) ?_)
   rintro _ w49 ⟨rfl,hEw49⟩
   have hzw49:=hEw49.size
   have hX25:Ext w40 w49:=(hEw48.trans hEw49)
   refine ⟨.inr hX25, ?_⟩
   have hK35:=(((((((((((((hma2.ext hEw5).ext hEw6).ext hEw7).ext hEw8).ext hEw9).ext hEw10).chg hCw11).chg hCw12).ext hEj14).ext hEj17).ext hEw40).ext hEw48).ext hEw49)
   have hK36:=(((((((((((((((((hg0.ext hEw1).ext hEw2).ext hEw3).ext hEw4).ext hEw5).ext hEw6).ext hEw7).ext hEw8).ext hEw9).ext hEw10).chg hCw11).chg hCw12).ext hEj14).ext hEj17).ext hEw40).ext hEw48).ext hEw49)
   have hK37:=(((((((((((((((((hg1.ext hEw1).ext hEw2).ext hEw3).ext hEw4).ext hEw5).ext hEw6).ext hEw7).ext hEw8).ext hEw9).ext hEw10).chg hCw11).chg hCw12).ext hEj14).ext hEj17).ext hEw40).ext hEw48).ext hEw49)
   have hK38:=(((((((((((((((((hg2.ext hEw1).ext hEw2).ext hEw3).ext hEw4).ext hEw5).ext hEw6).ext hEw7).ext hEw8).ext hEw9).ext hEw10).chg hCw11).chg hCw12).ext hEj14).ext hEj17).ext hEw40).ext hEw48).ext hEw49)
   refine zx 5 (zp (zcY (zt k) j (za2 f) (mkD f) _ hK35 (by omega) (by omega) (by omega) (zba hO) (zaV hO hLn) (hjb) hK36 hK37 hK38) ?_)
   rintro _ w50 ⟨a11,rfl,hFz19_0,hEw50⟩
   have hzw50:=hEw50.size
   have hlea11:=hFz19_0.le
   rw [show zc4 (zt k) (zaw a1L a1C a1S) j (za2 f) (mkD f)=(zaw L3 C3 a1S) from by rw [hL3,hC3];exact zgu hO hLn hjb] at hFz19_0
   rw [show (zaZ ((zaw a1L a1C a1S).getD (j/4) Un.zero) (j%4))=za1 a1L a1C j from zf4 hO hLn hjb]
   have hX26:Ext w40 w50:=((hEw48.trans hEw49).trans hEw50)
   refine ⟨.inr hX26, ?_⟩
   refine zg (hw:=hX26) hT310 [(6,70,(.tuple #[(vA [(vI (zt k)),(.slice a11 (tot (zt k)) (tot (zt k)))]),(vI (za1 a1L a1C j)),(vI 0)])),(7,77,(vA [(vI (zt k)),(.slice a11 (tot (zt k)) (tot (zt k)))])),(8,78,(vI (za1 a1L a1C j))),(9,79,(vI 0))] 4 (zx 11 (zG 38 w40.heap.size 0 38 (vA [(vI (zt k)),(.slice a11 (tot (zt k)) (tot (zt k)))]) ([(vI 0),(.slice none 0 0)]) ([(vI (zt k)),(.slice a11 (tot (zt k)) (tot (zt k)))]) ((hBw48.ext hEw49).ext hEw50) (by kernel_rfl) (by first | decide |(simp;done)|(simp;omega)) (by simp [Value.oneCell']) ?_))
   intro w51 hBw51 hCw51
   have hzw51:=hCw51.size
   rw [zy _ _ (by kernel_rfl)] at hBw51
   have hX27:Ext w40 w51:=(Ext.own ((hEw48.trans hEw49).trans hEw50) hCw51 (by omega))
   refine ⟨.inr hX27, ?_⟩
   exact zg (hw:=hX27) hT310 [(12,21,(vI (za1 a1L a1C j))),(13,22,(vI 0))] 2 (zE (zz (zm2 (w40.heap.size,a11) (⟨hBw51,((hFz19_0.chg hCw51)).now.mono (by omega) (Nat.le_refl _),by omega,(hEw40.trans hX27)⟩))))
 rintro ⟨bj20,aj20⟩ dw39 w39 ⟨hJ20,hM20,hJs20,hEj20⟩
 have hzj20:=hEj20.size;have hJl20:=hJ20.lt;have hle20:=hM20.le
 obtain ⟨L4,hL4⟩:∃z,z=L3.set i (zaH L3 C3 i (za2 e) (mkD e)):=⟨_,rfl⟩
 obtain ⟨C4,hC4⟩:∃z,z=C3.set i true:=⟨_,rfl⟩
 have hO4:OkW L4 C4 a1S:=by rw [hL4,hC4];exact hO3.set (by rw [hLn3];exact hib)
 have hLn4:L4.length=zt k:=by rw [hL4,List.length_set];exact hLn3
 refine zqN (X:=Nat×Option Addr) (fun ⟨bj23,aj23⟩=> [(23,(vP bj23 0)),(24,(vI (za1 L3 C3 i))),(25,(vI 0))]) [80,81,82,83,84,85,86,87,88,89] (fun ⟨bj23,aj23⟩ w52=>Blk w52 bj23 ([(vI (zt k)),(.slice aj23 (tot (zt k)) (tot (zt k)))]) 38∧Ms unC 280 w39.heap.size w52.heap.size w52 aj23 (tot (zt k)) (tot (zt k)) (zaw L4 C4 a1S)∧w39.heap.size≤bj23∧Ext w39 w52) ?_ ?_
 ·refine zab 14 (fun w53 hEw53 hzw53 hT417=> ?_)
  refine zaO hT417 0 bj20 0 (fun w' hC=>(((hJ20.ext hEw53).ext hC).all)) (zg hT417 [(1,82,(vI i)),(2,83,(vB e))] 2 ?_)
  have hK39:=(((((hBw11.chg hCw12).ext hEj14).ext hEj17).ext hEj20).ext hEw53)
  refine zan hT417 4 w8.heap.size 0 (fun w' hC=>((hK39.ext hC).all)) (zam _) (zbt 3 10 ?_ ?_)
  ·refine zp (zcb e _ (by first | omega | decide | exact UInt8.toNat_lt _)) ?_
   rintro _ w54 ⟨rfl,hEw54⟩
   have hzw54:=hEw54.size
   refine ⟨.inr hEw54, ?_⟩
   refine zbt 5 10 ?_ ?_
   ·have hK40:=(((((((((((((((((hg0.ext hEw1).ext hEw2).ext hEw3).ext hEw4).ext hEw5).ext hEw6).ext hEw7).ext hEw8).ext hEw9).ext hEw10).chg hCw11).chg hCw12).ext hEj14).ext hEj17).ext hEj20).ext hEw53).ext hEw54)
    have hK41:=(((((((((((((((((hg1.ext hEw1).ext hEw2).ext hEw3).ext hEw4).ext hEw5).ext hEw6).ext hEw7).ext hEw8).ext hEw9).ext hEw10).chg hCw11).chg hCw12).ext hEj14).ext hEj17).ext hEj20).ext hEw53).ext hEw54)
    have hK42:=(((((((((((((((((hg2.ext hEw1).ext hEw2).ext hEw3).ext hEw4).ext hEw5).ext hEw6).ext hEw7).ext hEw8).ext hEw9).ext hEw10).chg hCw11).chg hCw12).ext hEj14).ext hEj17).ext hEj20).ext hEw53).ext hEw54)
    refine zp (zcY (zt k) i (za2 e) (mkD e) _ ((hM20.ext hEw53).ext hEw54) (by omega) (by omega) (by omega) (zba hO3) (zaV hO3 hLn3) (hib) hK40 hK41 hK42) ?_
    rintro _ w55 ⟨a12,rfl,hFz21_0,hEw55⟩
    have hzw55:=hEw55.size
    have hlea12:=hFz21_0.le
    rw [show zc4 (zt k) (zaw L3 C3 a1S) i (za2 e) (mkD e)=(zaw L4 C4 a1S) from by rw [hL4,hC4];exact zgu hO3 hLn3 hib] at hFz21_0
    rw [show (zaZ ((zaw L3 C3 a1S).getD (i/4) Un.zero) (i%4))=za1 L3 C3 i from zf4 hO3 hLn3 hib]
    have hX28:Ext w53 w55:=(hEw54.trans hEw55)
    refine ⟨.inr hX28, ?_⟩
    refine zg (hw:=hX28) hT417 [(6,80,(.tuple #[(vA [(vI (zt k)),(.slice a12 (tot (zt k)) (tot (zt k)))]),(vI (za1 L3 C3 i)),(vI 0)])),(7,87,(vA [(vI (zt k)),(.slice a12 (tot (zt k)) (tot (zt k)))])),(8,88,(vI (za1 L3 C3 i))),(9,89,(vI 0))] 4 (zx 10 (zaf ([(vI 0),(.slice none 0 0)]) 38 ?_))
    intro w56 hBw56 hEw56 hzw56 hlw56
    have hX29:Ext w53 w56:=((hEw54.trans hEw55).trans hEw56)
    refine ⟨.inr hX29, ?_⟩
    refine zx 11 (zG 38 w55.heap.size 0 38 (vA [(vI (zt k)),(.slice a12 (tot (zt k)) (tot (zt k)))]) ([(vI 0),(.slice none 0 0)]) ([(vI (zt k)),(.slice a12 (tot (zt k)) (tot (zt k)))]) hBw56 (by kernel_rfl) (by first | decide |(simp;done)|(simp;omega)) (by simp [Value.oneCell']) ?_)
    intro w57 hBw57 hCw57
    have hzw57:=hCw57.size
    rw [zy _ _ (by kernel_rfl)] at hBw57
    have hX30:Ext w53 w57:=(Ext.own ((hEw54.trans hEw55).trans hEw56) hCw57 (by omega))
    refine ⟨.inr hX30, ?_⟩
    exact zg (hw:=hX30) hT417 [(12,24,(vI (za1 L3 C3 i))),(13,25,(vI 0))] 2 (zE (zz (zm2 (w55.heap.size,a12) (⟨hBw57,(((hFz21_0.ext hEw56).chg hCw57)).now.mono (by omega) (Nat.le_refl _),by omega,(hEw53.trans hX30)⟩))))
   ·refine zaf ([(vI 0),(.slice none 0 0)]) 38 ?_
    intro w58 hBw58 hEw58 hzw58 hlw58
    have hX31:Ext w53 w58:=(hEw54.trans hEw58)
    refine ⟨.inr hX31, ?_⟩
    have hK43:=(((hM20.ext hEw53).ext hEw54).ext hEw58)
    have hK44:=((((((((((((((((((hg0.ext hEw1).ext hEw2).ext hEw3).ext hEw4).ext hEw5).ext hEw6).ext hEw7).ext hEw8).ext hEw9).ext hEw10).chg hCw11).chg hCw12).ext hEj14).ext hEj17).ext hEj20).ext hEw53).ext hEw54).ext hEw58)
    have hK45:=((((((((((((((((((hg1.ext hEw1).ext hEw2).ext hEw3).ext hEw4).ext hEw5).ext hEw6).ext hEw7).ext hEw8).ext hEw9).ext hEw10).chg hCw11).chg hCw12).ext hEj14).ext hEj17).ext hEj20).ext hEw53).ext hEw54).ext hEw58)
    have hK46:=((((((((((((((((((hg2.ext hEw1).ext hEw2).ext hEw3).ext hEw4).ext hEw5).ext hEw6).ext hEw7).ext hEw8).ext hEw9).ext hEw10).chg hCw11).chg hCw12).ext hEj14).ext hEj17).ext hEj20).ext hEw53).ext hEw54).ext hEw58)
    refine zx 5 (zp (zcY (zt k) i (za2 e) (mkD e) _ hK43 (by omega) (by omega) (by omega) (zba hO3) (zaV hO3 hLn3) (hib) hK44 hK45 hK46) ?_)
    rintro _ w59 ⟨a13,rfl,hFz22_0,hEw59⟩
    have hzw59:=hEw59.size
    have hlea13:=hFz22_0.le
    rw [show zc4 (zt k) (zaw L3 C3 a1S) i (za2 e) (mkD e)=(zaw L4 C4 a1S) from by rw [hL4,hC4];exact zgu hO3 hLn3 hib] at hFz22_0
    rw [show (zaZ ((zaw L3 C3 a1S).getD (i/4) Un.zero) (i%4))=za1 L3 C3 i from zf4 hO3 hLn3 hib]
    have hX32:Ext w53 w59:=((hEw54.trans hEw58).trans hEw59)
    refine ⟨.inr hX32, ?_⟩
    refine zg (hw:=hX32) hT417 [(6,80,(.tuple #[(vA [(vI (zt k)),(.slice a13 (tot (zt k)) (tot (zt k)))]),(vI (za1 L3 C3 i)),(vI 0)])),(7,87,(vA [(vI (zt k)),(.slice a13 (tot (zt k)) (tot (zt k)))])),(8,88,(vI (za1 L3 C3 i))),(9,89,(vI 0))] 4 (zx 11 (zG 38 w54.heap.size 0 38 (vA [(vI (zt k)),(.slice a13 (tot (zt k)) (tot (zt k)))]) ([(vI 0),(.slice none 0 0)]) ([(vI (zt k)),(.slice a13 (tot (zt k)) (tot (zt k)))]) (hBw58.ext hEw59) (by kernel_rfl) (by first | decide |(simp;done)|(simp;omega)) (by simp [Value.oneCell']) ?_))
    intro w60 hBw60 hCw60
    have hzw60:=hCw60.size
    rw [zy _ _ (by kernel_rfl)] at hBw60
    have hX33:Ext w53 w60:=(Ext.own ((hEw54.trans hEw58).trans hEw59) hCw60 (by omega))
    refine ⟨.inr hX33, ?_⟩
    exact zg (hw:=hX33) hT417 [(12,24,(vI (za1 L3 C3 i))),(13,25,(vI 0))] 2 (zE (zz (zm2 (w54.heap.size,a13) (⟨hBw60,((hFz22_0.chg hCw60)).now.mono (by omega) (Nat.le_refl _),by omega,(hEw53.trans hX33)⟩))))
  ·refine zaf ([(vI 0),(.slice none 0 0)]) 38 ?_
   intro w61 hBw61 hEw61 hzw61 hlw61
   refine ⟨.inr hEw61, ?_⟩
   refine zx 3 (zp (zcb e _ (by first | omega | decide | exact UInt8.toNat_lt _)) ?_)
   rintro _ w62 ⟨rfl,hEw62⟩
   have hzw62:=hEw62.size
   have hX34:Ext w53 w62:=(hEw61.trans hEw62)
   refine ⟨.inr hX34, ?_⟩
   have hK47:=(((hM20.ext hEw53).ext hEw61).ext hEw62)
   have hK48:=((((((((((((((((((hg0.ext hEw1).ext hEw2).ext hEw3).ext hEw4).ext hEw5).ext hEw6).ext hEw7).ext hEw8).ext hEw9).ext hEw10).chg hCw11).chg hCw12).ext hEj14).ext hEj17).ext hEj20).ext hEw53).ext hEw61).ext hEw62)
   have hK49:=((((((((((((((((((hg1.ext hEw1).ext hEw2).ext hEw3).ext hEw4).ext hEw5).ext hEw6).ext hEw7).ext hEw8).ext hEw9).ext hEw10).chg hCw11).chg hCw12).ext hEj14).ext hEj17).ext hEj20).ext hEw53).ext hEw61).ext hEw62)
   have hK50:=((((((((((((((((((hg2.ext hEw1).ext hEw2).ext hEw3).ext hEw4).ext hEw5).ext hEw6).ext hEw7).ext hEw8).ext hEw9).ext hEw10).chg hCw11).chg hCw12).ext hEj14).ext hEj17).ext hEj20).ext hEw53).ext hEw61).ext hEw62)
   refine zx 5 (zp (zcY (zt k) i (za2 e) (mkD e) _ hK47 (by omega) (by omega) (by omega) (zba hO3) (zaV hO3 hLn3) (hib) hK48 hK49 hK50) ?_)
   rintro _ w63 ⟨a14,rfl,hFz24_0,hEw63⟩
   have hzw63:=hEw63.size
   have hlea14:=hFz24_0.le
   rw [show zc4 (zt k) (zaw L3 C3 a1S) i (za2 e) (mkD e)=(zaw L4 C4 a1S) from by rw [hL4,hC4];exact zgu hO3 hLn3 hib] at hFz24_0
   rw [show (zaZ ((zaw L3 C3 a1S).getD (i/4) Un.zero) (i%4))=za1 L3 C3 i from zf4 hO3 hLn3 hib]
   have hX35:Ext w53 w63:=((hEw61.trans hEw62).trans hEw63)
   refine ⟨.inr hX35, ?_⟩
   refine zg (hw:=hX35) hT417 [(6,80,(.tuple #[(vA [(vI (zt k)),(.slice a14 (tot (zt k)) (tot (zt k)))]),(vI (za1 L3 C3 i)),(vI 0)])),(7,87,(vA [(vI (zt k)),(.slice a14 (tot (zt k)) (tot (zt k)))])),(8,88,(vI (za1 L3 C3 i))),(9,89,(vI 0))] 4 (zx 11 (zG 38 w53.heap.size 0 38 (vA [(vI (zt k)),(.slice a14 (tot (zt k)) (tot (zt k)))]) ([(vI 0),(.slice none 0 0)]) ([(vI (zt k)),(.slice a14 (tot (zt k)) (tot (zt k)))]) ((hBw61.ext hEw62).ext hEw63) (by kernel_rfl) (by first | decide |(simp;done)|(simp;omega)) (by simp [Value.oneCell']) ?_))
   intro w64 hBw64 hCw64
   have hzw64:=hCw64.size
   rw [zy _ _ (by kernel_rfl)] at hBw64
   have hX36:Ext w53 w64:=(Ext.own ((hEw61.trans hEw62).trans hEw63) hCw64 (by omega))
   refine ⟨.inr hX36, ?_⟩
   exact zg (hw:=hX36) hT417 [(12,24,(vI (za1 L3 C3 i))),(13,25,(vI 0))] 2 (zE (zz (zm2 (w53.heap.size,a14) (⟨hBw64,((hFz24_0.chg hCw64)).now.mono (by omega) (Nat.le_refl _),by omega,(hEw53.trans hX36)⟩))))
 rintro ⟨bj23,aj23⟩ dw52 w52 ⟨hJ23,hM23,hJs23,hEj23⟩
 have hzj23:=hEj23.size;have hJl23:=hJ23.lt;have hle23:=hM23.le
 refine ze (ze (zd (zc 2 [(91,(vI 0)),(90,(vI 0))] (za (zo (some 92) .i64 (IntKind.i64.wrap (((0:Nat):Int)+((0:Nat):Int))) 0 (zu) ?_)))))
 refine zc 1 [(93,(vI 0))] (za (zo (some 94) .i64 (IntKind.i64.wrap (((0:Nat):Int)+((0:Nat):Int))) 0 (zu) ?_))
 refine zc 1 [(95,(vI 0))] (za (zo (some 96) .i64 (IntKind.i64.wrap (((0:Nat):Int)+((0:Nat):Int))) 0 (zu) ?_))
 refine za (zae (some 97) (((0:Nat):Int) !=((0:Nat):Int)) false (zax) ?_)
 refine zc 3 [(100,(vI j)),(99,(vI i)),(98,vF)] (za (zae (some 101) (((i:Nat):Int) !=((j:Nat):Int)) true (zdf) ?_))
 refine zc 1 [(102,vT)] (za (zO bj17 0 (((hJ17.ext hEj20).ext hEj23).all) ?_))
 refine za (zO bj23 0 (hJ23.all) ?_)
 refine za (zp (zgz (zt k) (zt k) _ ((hM17.ext hEj20).ext hEj23) hM23 (by first | rfl | assumption | omega) (by have hz:=zvt (x:=za2 e) (t:=mkD e) (y:=za2 f) (u:=mkD f) hO (i:=i) (j:=j) (by omega) (by omega) (by omega);rw [hL2,hC2,hL4,hC4,hL1,hC1,hL3,hC3,hz.1,hz.2]) (by first | rfl | omega)) ?_)
 rintro _ w65 ⟨rfl,hEw65⟩
 have hzw65:=hEw65.size
 refine za (zae (some 106) (((1:Nat):Int)==((0:Nat):Int)) false (zb8) ?_)
 refine zc 2 [(108,vF),(107,vF)] (zf (zb (zh (zk (zb ?_)))))
 obtain ⟨L5,hL5⟩:∃z,z=L2.set i (zaH L2 C2 i (za2 f) (mkD f)):=⟨_,rfl⟩
 obtain ⟨C5,hC5⟩:∃z,z=C2.set i true:=⟨_,rfl⟩
 have hO5:OkW L5 C5 a1S:=by rw [hL5,hC5];exact hO2.set (by rw [hLn2];exact hib)
 have hLn5:L5.length=zt k:=by rw [hL5,List.length_set];exact hLn2
 refine zqN (X:=Nat×Option Addr) (fun ⟨bj26,aj26⟩=> [(16,(vI 0)),(26,(vP bj26 0)),(27,(vI (za1 a1L a1C i)))]) [109,110,111,112,113,114,115,116,117,118] (fun ⟨bj26,aj26⟩ w66=>Blk w66 bj26 ([(vI (zt k)),(.slice aj26 (tot (zt k)) (tot (zt k)))]) 38∧Ms unC 280 w65.heap.size w66.heap.size w66 aj26 (tot (zt k)) (tot (zt k)) (zaw L5 C5 a1S)∧w65.heap.size≤bj26∧Ext w65 w66) ?_ ?_
 ·refine zab 14 (fun w67 hEw67 hzw67 hT547=> ?_)
  have hK51:=((((hJ17.ext hEj20).ext hEj23).ext hEw65).ext hEw67)
  refine zaO hT547 0 bj17 0 (fun w' hC=>((hK51.ext hC).all)) (zg hT547 [(1,111,(vI i)),(2,112,(vB f))] 2 ?_)
  have hK52:=((((((hBw12.ext hEj14).ext hEj17).ext hEj20).ext hEj23).ext hEw65).ext hEw67)
  refine zan hT547 4 w9.heap.size 0 (fun w' hC=>((hK52.ext hC).all)) (zam _) (zbt 3 10 ?_ ?_)
  ·refine zp (zcb f _ (by first | omega | decide | exact UInt8.toNat_lt _)) ?_
   rintro _ w68 ⟨rfl,hEw68⟩
   have hzw68:=hEw68.size
   refine ⟨.inr hEw68, ?_⟩
   refine zbt 5 10 ?_ ?_
   ·have hK53:=(((((hM17.ext hEj20).ext hEj23).ext hEw65).ext hEw67).ext hEw68)
    have hK54:=(((((((((((((((((((hg0.ext hEw1).ext hEw2).ext hEw3).ext hEw4).ext hEw5).ext hEw6).ext hEw7).ext hEw8).ext hEw9).ext hEw10).chg hCw11).chg hCw12).ext hEj14).ext hEj17).ext hEj20).ext hEj23).ext hEw65).ext hEw67).ext hEw68)
    have hK55:=(((((((((((((((((((hg1.ext hEw1).ext hEw2).ext hEw3).ext hEw4).ext hEw5).ext hEw6).ext hEw7).ext hEw8).ext hEw9).ext hEw10).chg hCw11).chg hCw12).ext hEj14).ext hEj17).ext hEj20).ext hEj23).ext hEw65).ext hEw67).ext hEw68)
    have hK56:=(((((((((((((((((((hg2.ext hEw1).ext hEw2).ext hEw3).ext hEw4).ext hEw5).ext hEw6).ext hEw7).ext hEw8).ext hEw9).ext hEw10).chg hCw11).chg hCw12).ext hEj14).ext hEj17).ext hEj20).ext hEj23).ext hEw65).ext hEw67).ext hEw68)
    refine zp (zcY (zt k) i (za2 f) (mkD f) _ hK53 (by omega) (by omega) (by omega) (zba hO2) (zaV hO2 hLn2) (hib) hK54 hK55 hK56) ?_
    rintro _ w69 ⟨a15,rfl,hFz27_0,hEw69⟩
    have hzw69:=hEw69.size
    have hlea15:=hFz27_0.le
    rw [show zc4 (zt k) (zaw L2 C2 a1S) i (za2 f) (mkD f)=(zaw L5 C5 a1S) from by rw [hL5,hC5];exact zgu hO2 hLn2 hib] at hFz27_0
    rw [show (zaZ ((zaw L2 C2 a1S).getD (i/4) Un.zero) (i%4))=za1 a1L a1C i from (zf4 hO2 hLn2 hib).trans hkp]
    have hX37:Ext w67 w69:=(hEw68.trans hEw69)
    refine ⟨.inr hX37, ?_⟩
    refine zg (hw:=hX37) hT547 [(6,109,(.tuple #[(vA [(vI (zt k)),(.slice a15 (tot (zt k)) (tot (zt k)))]),(vI (za1 a1L a1C i)),(vI 0)])),(7,116,(vA [(vI (zt k)),(.slice a15 (tot (zt k)) (tot (zt k)))])),(8,117,(vI (za1 a1L a1C i))),(9,118,(vI 0))] 4 (zx 10 (zaf ([(vI 0),(.slice none 0 0)]) 38 ?_))
    intro w70 hBw70 hEw70 hzw70 hlw70
    have hX38:Ext w67 w70:=((hEw68.trans hEw69).trans hEw70)
    refine ⟨.inr hX38, ?_⟩
    refine zx 11 (zG 38 w69.heap.size 0 38 (vA [(vI (zt k)),(.slice a15 (tot (zt k)) (tot (zt k)))]) ([(vI 0),(.slice none 0 0)]) ([(vI (zt k)),(.slice a15 (tot (zt k)) (tot (zt k)))]) hBw70 (by kernel_rfl) (by first | decide |(simp;done)|(simp;omega)) (by simp [Value.oneCell']) ?_)
    intro w71 hBw71 hCw71
    have hzw71:=hCw71.size
    rw [zy _ _ (by kernel_rfl)] at hBw71
    have hX39:Ext w67 w71:=(Ext.own ((hEw68.trans hEw69).trans hEw70) hCw71 (by omega))
    refine ⟨.inr hX39, ?_⟩
    exact zg (hw:=hX39) hT547 [(12,27,(vI (za1 a1L a1C i))),(13,16,(vI 0))] 2 (zE (zz (zm2 (w69.heap.size,a15) (⟨hBw71,(((hFz27_0.ext hEw70).chg hCw71)).now.mono (by omega) (Nat.le_refl _),by omega,(hEw67.trans hX39)⟩))))
   ·refine zaf ([(vI 0),(.slice none 0 0)]) 38 ?_
    intro w72 hBw72 hEw72 hzw72 hlw72
    have hX40:Ext w67 w72:=(hEw68.trans hEw72)
    refine ⟨.inr hX40, ?_⟩
    have hK57:=((((((hM17.ext hEj20).ext hEj23).ext hEw65).ext hEw67).ext hEw68).ext hEw72)
    have hK58:=((((((((((((((((((((hg0.ext hEw1).ext hEw2).ext hEw3).ext hEw4).ext hEw5).ext hEw6).ext hEw7).ext hEw8).ext hEw9).ext hEw10).chg hCw11).chg hCw12).ext hEj14).ext hEj17).ext hEj20).ext hEj23).ext hEw65).ext hEw67).ext hEw68).ext hEw72)
    have hK59:=((((((((((((((((((((hg1.ext hEw1).ext hEw2).ext hEw3).ext hEw4).ext hEw5).ext hEw6).ext hEw7).ext hEw8).ext hEw9).ext hEw10).chg hCw11).chg hCw12).ext hEj14).ext hEj17).ext hEj20).ext hEj23).ext hEw65).ext hEw67).ext hEw68).ext hEw72)
    have hK60:=((((((((((((((((((((hg2.ext hEw1).ext hEw2).ext hEw3).ext hEw4).ext hEw5).ext hEw6).ext hEw7).ext hEw8).ext hEw9).ext hEw10).chg hCw11).chg hCw12).ext hEj14).ext hEj17).ext hEj20).ext hEj23).ext hEw65).ext hEw67).ext hEw68).ext hEw72)
    refine zx 5 (zp (zcY (zt k) i (za2 f) (mkD f) _ hK57 (by omega) (by omega) (by omega) (zba hO2) (zaV hO2 hLn2) (hib) hK58 hK59 hK60) ?_)
    rintro _ w73 ⟨a16,rfl,hFz28_0,hEw73⟩
    have hzw73:=hEw73.size
    have hlea16:=hFz28_0.le
    rw [show zc4 (zt k) (zaw L2 C2 a1S) i (za2 f) (mkD f)=(zaw L5 C5 a1S) from by rw [hL5,hC5];exact zgu hO2 hLn2 hib] at hFz28_0
    rw [show (zaZ ((zaw L2 C2 a1S).getD (i/4) Un.zero) (i%4))=za1 a1L a1C i from (zf4 hO2 hLn2 hib).trans hkp]
    have hX41:Ext w67 w73:=((hEw68.trans hEw72).trans hEw73)
    refine ⟨.inr hX41, ?_⟩
    refine zg (hw:=hX41) hT547 [(6,109,(.tuple #[(vA [(vI (zt k)),(.slice a16 (tot (zt k)) (tot (zt k)))]),(vI (za1 a1L a1C i)),(vI 0)])),(7,116,(vA [(vI (zt k)),(.slice a16 (tot (zt k)) (tot (zt k)))])),(8,117,(vI (za1 a1L a1C i))),(9,118,(vI 0))] 4 (zx 11 (zG 38 w68.heap.size 0 38 (vA [(vI (zt k)),(.slice a16 (tot (zt k)) (tot (zt k)))]) ([(vI 0),(.slice none 0 0)]) ([(vI (zt k)),(.slice a16 (tot (zt k)) (tot (zt k)))]) (hBw72.ext hEw73) (by kernel_rfl) (by first | decide |(simp;done)|(simp;omega)) (by simp [Value.oneCell']) ?_))
    intro w74 hBw74 hCw74
    have hzw74:=hCw74.size
    rw [zy _ _ (by kernel_rfl)] at hBw74
    have hX42:Ext w67 w74:=(Ext.own ((hEw68.trans hEw72).trans hEw73) hCw74 (by omega))
    refine ⟨.inr hX42, ?_⟩
    exact zg (hw:=hX42) hT547 [(12,27,(vI (za1 a1L a1C i))),(13,16,(vI 0))] 2 (zE (zz (zm2 (w68.heap.size,a16) (⟨hBw74,((hFz28_0.chg hCw74)).now.mono (by omega) (Nat.le_refl _),by omega,(hEw67.trans hX42)⟩))))
  ·refine zaf ([(vI 0),(.slice none 0 0)]) 38 ?_
   intro w75 hBw75 hEw75 hzw75 hlw75
   refine ⟨.inr hEw75, ?_⟩
   refine zx 3 (zp (zcb f _ (by first | omega | decide | exact UInt8.toNat_lt _)) ?_)
   rintro _ w76 ⟨rfl,hEw76⟩
   have hzw76:=hEw76.size
   have hX43:Ext w67 w76:=(hEw75.trans hEw76)
   refine ⟨.inr hX43, ?_⟩
   have hK61:=((((((hM17.ext hEj20).ext hEj23).ext hEw65).ext hEw67).ext hEw75).ext hEw76)
   have hK62:=((((((((((((((((((((hg0.ext hEw1).ext hEw2).ext hEw3).ext hEw4).ext hEw5).ext hEw6).ext hEw7).ext hEw8).ext hEw9).ext hEw10).chg hCw11).chg hCw12).ext hEj14).ext hEj17).ext hEj20).ext hEj23).ext hEw65).ext hEw67).ext hEw75).ext hEw76)
   have hK63:=((((((((((((((((((((hg1.ext hEw1).ext hEw2).ext hEw3).ext hEw4).ext hEw5).ext hEw6).ext hEw7).ext hEw8).ext hEw9).ext hEw10).chg hCw11).chg hCw12).ext hEj14).ext hEj17).ext hEj20).ext hEj23).ext hEw65).ext hEw67).ext hEw75).ext hEw76)
   have hK64:=((((((((((((((((((((hg2.ext hEw1).ext hEw2).ext hEw3).ext hEw4).ext hEw5).ext hEw6).ext hEw7).ext hEw8).ext hEw9).ext hEw10).chg hCw11).chg hCw12).ext hEj14).ext hEj17).ext hEj20).ext hEj23).ext hEw65).ext hEw67).ext hEw75).ext hEw76)
   refine zx 5 (zp (zcY (zt k) i (za2 f) (mkD f) _ hK61 (by omega) (by omega) (by omega) (zba hO2) (zaV hO2 hLn2) (hib) hK62 hK63 hK64) ?_)
   rintro _ w77 ⟨a17,rfl,hFz30_0,hEw77⟩
   have hzw77:=hEw77.size
   have hlea17:=hFz30_0.le
   rw [show zc4 (zt k) (zaw L2 C2 a1S) i (za2 f) (mkD f)=(zaw L5 C5 a1S) from by rw [hL5,hC5];exact zgu hO2 hLn2 hib] at hFz30_0
   rw [show (zaZ ((zaw L2 C2 a1S).getD (i/4) Un.zero) (i%4))=za1 a1L a1C i from (zf4 hO2 hLn2 hib).trans hkp]
   have hX44:Ext w67 w77:=((hEw75.trans hEw76).trans hEw77)
   refine ⟨.inr hX44, ?_⟩
   refine zg (hw:=hX44) hT547 [(6,109,(.tuple #[(vA [(vI (zt k)),(.slice a17 (tot (zt k)) (tot (zt k)))]),(vI (za1 a1L a1C i)),(vI 0)])),(7,116,(vA [(vI (zt k)),(.slice a17 (tot (zt k)) (tot (zt k)))])),(8,117,(vI (za1 a1L a1C i))),(9,118,(vI 0))] 4 (zx 11 (zG 38 w67.heap.size 0 38 (vA [(vI (zt k)),(.slice a17 (tot (zt k)) (tot (zt k)))]) ([(vI 0),(.slice none 0 0)]) ([(vI (zt k)),(.slice a17 (tot (zt k)) (tot (zt k)))]) ((hBw75.ext hEw76).ext hEw77) (by kernel_rfl) (by first | decide |(simp;done)|(simp;omega)) (by simp [Value.oneCell']) ?_))
   intro w78 hBw78 hCw78
   have hzw78:=hCw78.size
   rw [zy _ _ (by kernel_rfl)] at hBw78
   have hX45:Ext w67 w78:=(Ext.own ((hEw75.trans hEw76).trans hEw77) hCw78 (by omega))
   refine ⟨.inr hX45, ?_⟩
   exact zg (hw:=hX45) hT547 [(12,27,(vI (za1 a1L a1C i))),(13,16,(vI 0))] 2 (zE (zz (zm2 (w67.heap.size,a17) (⟨hBw78,((hFz30_0.chg hCw78)).now.mono (by omega) (Nat.le_refl _),by omega,(hEw67.trans hX45)⟩))))
 rintro ⟨bj26,aj26⟩ dw66 w66 ⟨hJ26,hM26,hJs26,hEj26⟩
 have hzj26:=hEj26.size;have hJl26:=hJ26.lt;have hle26:=hM26.le
 refine ze (zd (za (zO bj26 0 (hJ26.all) ?_)))
 have hK65:=((((((((((((((((((hg0.ext hEw1).ext hEw2).ext hEw3).ext hEw4).ext hEw5).ext hEw6).ext hEw7).ext hEw8).ext hEw9).ext hEw10).chg hCw11).chg hCw12).ext hEj14).ext hEj17).ext hEj20).ext hEj23).ext hEw65).ext hEj26)
 have hK66:=((((((((((((((((((hg1.ext hEw1).ext hEw2).ext hEw3).ext hEw4).ext hEw5).ext hEw6).ext hEw7).ext hEw8).ext hEw9).ext hEw10).chg hCw11).chg hCw12).ext hEj14).ext hEj17).ext hEj20).ext hEj23).ext hEw65).ext hEj26)
 have hK67:=((((((((((((((((((hg2.ext hEw1).ext hEw2).ext hEw3).ext hEw4).ext hEw5).ext hEw6).ext hEw7).ext hEw8).ext hEw9).ext hEw10).chg hCw11).chg hCw12).ext hEj14).ext hEj17).ext hEj20).ext hEj23).ext hEw65).ext hEj26)
 refine za (zp (zeo (zt k) _ hM26 (by omega) (by omega) (by omega) (zba hO5) (zaV hO5 hLn5) hK65 hK66 hK67) ?_)
 rintro _ w79 ⟨a18,rfl,hFz31_0,hEw79⟩
 have hzw79:=hEw79.size
 have hlea18:=hFz31_0.le
 have hO6:=hO5.pubN hLn5
 rw [show zc8 (tot (zt k)) (zaw L5 C5 a1S)=(zaw L5 (fls (zt k)) (zcT (zt k) C5 a1S)) from zkP hO5 hLn5] at hFz31_0
 refine zc 3 [(123,(vI 0)),(122,(vA [(vI (zt k)),(.slice a18 (tot (zt k)) (tot (zt k)))])),(119,(.tuple #[(vA [(vI (zt k)),(.slice a18 (tot (zt k)) (tot (zt k)))]),(vI 0)]))] (zal ([(vI (zt k)),(.slice a18 (tot (zt k)) (tot (zt k)))]) 38 rfl (by simp [Value.oneCell']) ?_)
 intro w80 hBw80 hEw80 hzw80 hlw80
 refine zc 1 [(19,(vI 0))] (zf (zb ?_))
 obtain ⟨L7,hL7⟩:∃z,z=L5.set i (zaH L5 (fls (zt k)) i (za2 e) (mkD e)):=⟨_,rfl⟩
 obtain ⟨C7,hC7⟩:∃z,z=(fls (zt k)).set i true:=⟨_,rfl⟩
 have hO7:OkW L7 C7 (zcT (zt k) C5 a1S):=by rw [hL7,hC7];exact hO6.set (by rw [hLn5];exact hib)
 have hLn7:L7.length=zt k:=by rw [hL7,List.length_set];exact hLn5
 refine zqN (X:=Nat×Option Addr) (fun ⟨bj29,aj29⟩=> [(22,(vI 0)),(29,(vP bj29 0)),(30,(vI (1-za1 a1L a1C i)))]) [124,125,126,127,128,129,130,131,132,133] (fun ⟨bj29,aj29⟩ w81=>Blk w81 bj29 ([(vI (zt k)),(.slice aj29 (tot (zt k)) (tot (zt k)))]) 38∧Ms unC 280 w80.heap.size w81.heap.size w81 aj29 (tot (zt k)) (tot (zt k)) (zaw L7 C7 (zcT (zt k) C5 a1S))∧w80.heap.size≤bj29∧Ext w80 w81) ?_ ?_
 ·refine zab 14 (fun w82 hEw82 hzw82 hT672=> ?_)
  refine zaO hT672 0 w79.heap.size 0 (fun w' hC=>(((hBw80.ext hEw82).ext hC).all)) (zg hT672 [(1,126,(vI i)),(2,127,(vB e))] 2 ?_)
  have hK68:=((((((((((hBw11.chg hCw12).ext hEj14).ext hEj17).ext hEj20).ext hEj23).ext hEw65).ext hEj26).ext hEw79).ext hEw80).ext hEw82)
  refine zan hT672 4 w8.heap.size 0 (fun w' hC=>((hK68.ext hC).all)) (zam _) (zbt 3 10 ?_ ?_)
  ·refine zp (zcb e _ (by first | omega | decide | exact UInt8.toNat_lt _)) ?_
   rintro _ w83 ⟨rfl,hEw83⟩
   have hzw83:=hEw83.size
   refine ⟨.inr hEw83, ?_⟩
   refine zbt 5 10 ?_ ?_
   ·have hK69:=(((hFz31_0.ext hEw80).ext hEw82).ext hEw83)
    have hK70:=((((hK65.ext hEw79).ext hEw80).ext hEw82).ext hEw83)
    have hK71:=((((hK66.ext hEw79).ext hEw80).ext hEw82).ext hEw83)
    have hK72:=((((hK67.ext hEw79).ext hEw80).ext hEw82).ext hEw83)
    refine zp (zcY (zt k) i (za2 e) (mkD e) _ hK69 (by omega) (by omega) (by omega) (zba hO6) (zaV hO6 hLn5) (hib) hK70 hK71 hK72) ?_
    rintro _ w84 ⟨a19,rfl,hFz33_0,hEw84⟩
    have hzw84:=hEw84.size
    have hlea19:=hFz33_0.le
    rw [show zc4 (zt k) (zaw L5 (fls (zt k)) (zcT (zt k) C5 a1S)) i (za2 e) (mkD e)=(zaw L7 C7 (zcT (zt k) C5 a1S)) from by rw [hL7,hC7];exact zgu hO6 hLn5 hib] at hFz33_0
    rw [show (zaZ ((zaw L5 (fls (zt k)) (zcT (zt k) C5 a1S)).getD (i/4) Un.zero) (i%4))=(1-za1 a1L a1C i) from (zf4 hO6 hLn5 hib).trans (by rw [hL5,zwP hO2 hLn2 hib,hkp])]
    have hX46:Ext w82 w84:=(hEw83.trans hEw84)
    refine ⟨.inr hX46, ?_⟩
    refine zg (hw:=hX46) hT672 [(6,124,(.tuple #[(vA [(vI (zt k)),(.slice a19 (tot (zt k)) (tot (zt k)))]),(vI (1-za1 a1L a1C i)),(vI 0)])),(7,131,(vA [(vI (zt k)),(.slice a19 (tot (zt k)) (tot (zt k)))])),(8,132,(vI (1-za1 a1L a1C i))),(9,133,(vI 0))] 4 (zx 10 (zaf ([(vI 0),(.slice none 0 0)]) 38 ?_))
    intro w85 hBw85 hEw85 hzw85 hlw85
    have hX47:Ext w82 w85:=((hEw83.trans hEw84).trans hEw85)
    refine ⟨.inr hX47, ?_⟩
    refine zx 11 (zG 38 w84.heap.size 0 38 (vA [(vI (zt k)),(.slice a19 (tot (zt k)) (tot (zt k)))]) ([(vI 0),(.slice none 0 0)]) ([(vI (zt k)),(.slice a19 (tot (zt k)) (tot (zt k)))]) hBw85 (by kernel_rfl) (by first | decide |(simp;done)|(simp;omega)) (by simp [Value.oneCell']) ?_)
    intro w86 hBw86 hCw86
    have hzw86:=hCw86.size
    rw [zy _ _ (by kernel_rfl)] at hBw86
    have hX48:Ext w82 w86:=(Ext.own ((hEw83.trans hEw84).trans hEw85) hCw86 (by omega))
    refine ⟨.inr hX48, ?_⟩
    exact zg (hw:=hX48) hT672 [(12,30,(vI (1-za1 a1L a1C i))),(13,22,(vI 0))] 2 (zE (zz (zm2 (w84.heap.size,a19) (⟨hBw86,(((hFz33_0.ext hEw85).chg hCw86)).now.mono (by omega) (Nat.le_refl _),by omega,(hEw82.trans hX48)⟩))))
   ·refine zaf ([(vI 0),(.slice none 0 0)]) 38 ?_
    intro w87 hBw87 hEw87 hzw87 hlw87
    have hX49:Ext w82 w87:=(hEw83.trans hEw87)
    refine ⟨.inr hX49, ?_⟩
    have hK73:=((((hFz31_0.ext hEw80).ext hEw82).ext hEw83).ext hEw87)
    have hK74:=(((((hK65.ext hEw79).ext hEw80).ext hEw82).ext hEw83).ext hEw87)
    have hK75:=(((((hK66.ext hEw79).ext hEw80).ext hEw82).ext hEw83).ext hEw87)
    have hK76:=(((((hK67.ext hEw79).ext hEw80).ext hEw82).ext hEw83).ext hEw87)
    refine zx 5 (zp (zcY (zt k) i (za2 e) (mkD e) _ hK73 (by omega) (by omega) (by omega) (zba hO6) (zaV hO6 hLn5) (hib) hK74 hK75 hK76) ?_)
    rintro _ w88 ⟨a20,rfl,hFz34_0,hEw88⟩
    have hzw88:=hEw88.size
    have hlea20:=hFz34_0.le
    rw [show zc4 (zt k) (zaw L5 (fls (zt k)) (zcT (zt k) C5 a1S)) i (za2 e) (mkD e)=(zaw L7 C7 (zcT (zt k) C5 a1S)) from by rw [hL7,hC7];exact zgu hO6 hLn5 hib] at hFz34_0
    rw [show (zaZ ((zaw L5 (fls (zt k)) (zcT (zt k) C5 a1S)).getD (i/4) Un.zero) (i%4))=(1-za1 a1L a1C i) from (zf4 hO6 hLn5 hib).trans (by rw [hL5,zwP hO2 hLn2 hib,hkp])]
    have hX50:Ext w82 w88:=((hEw83.trans hEw87).trans hEw88)
    refine ⟨.inr hX50, ?_⟩
    refine zg (hw:=hX50) hT672 [(6,124,(.tuple #[(vA [(vI (zt k)),(.slice a20 (tot (zt k)) (tot (zt k)))]),(vI (1-za1 a1L a1C i)),(vI 0)])),(7,131,(vA [(vI (zt k)),(.slice a20 (tot (zt k)) (tot (zt k)))])),(8,132,(vI (1-za1 a1L a1C i))),(9,133,(vI 0))] 4 (zx 11 (zG 38 w83.heap.size 0 38 (vA [(vI (zt k)),(.slice a20 (tot (zt k)) (tot (zt k)))]) ([(vI 0),(.slice none 0 0)]) ([(vI (zt k)),(.slice a20 (tot (zt k)) (tot (zt k)))]) (hBw87.ext hEw88) (by kernel_rfl) (by first | decide |(simp;done)|(simp;omega)) (by simp [Value.oneCell']) ?_))
    intro w89 hBw89 hCw89
    have hzw89:=hCw89.size
    rw [zy _ _ (by kernel_rfl)] at hBw89
    have hX51:Ext w82 w89:=(Ext.own ((hEw83.trans hEw87).trans hEw88) hCw89 (by omega))
    refine ⟨.inr hX51, ?_⟩
    exact zg (hw:=hX51) hT672 [(12,30,(vI (1-za1 a1L a1C i))),(13,22,(vI 0))] 2 (zE (zz (zm2 (w83.heap.size,a20) (⟨hBw89,((hFz34_0.chg hCw89)).now.mono (by omega) (Nat.le_refl _),by omega,(hEw82.trans hX51)⟩))))
  ·refine zaf ([(vI 0),(.slice none 0 0)]) 38 ?_
   intro w90 hBw90 hEw90 hzw90 hlw90
   refine ⟨.inr hEw90, ?_⟩
   refine zx 3 (zp (zcb e _ (by first | omega | decide | exact UInt8.toNat_lt _)) ?_)
   rintro _ w91 ⟨rfl,hEw91⟩
   have hzw91:=hEw91.size
   have hX52:Ext w82 w91:=(hEw90.trans hEw91)
   refine ⟨.inr hX52, ?_⟩
   have hK77:=((((hFz31_0.ext hEw80).ext hEw82).ext hEw90).ext hEw91)
   have hK78:=(((((hK65.ext hEw79).ext hEw80).ext hEw82).ext hEw90).ext hEw91)
   have hK79:=(((((hK66.ext hEw79).ext hEw80).ext hEw82).ext hEw90).ext hEw91)
   have hK80:=(((((hK67.ext hEw79).ext hEw80).ext hEw82).ext hEw90).ext hEw91)
   refine zx 5 (zp (zcY (zt k) i (za2 e) (mkD e) _ hK77 (by omega) (by omega) (by omega) (zba hO6) (zaV hO6 hLn5) (hib) hK78 hK79 hK80) ?_)
   rintro _ w92 ⟨a21,rfl,hFz36_0,hEw92⟩
   have hzw92:=hEw92.size
   have hlea21:=hFz36_0.le
   rw [show zc4 (zt k) (zaw L5 (fls (zt k)) (zcT (zt k) C5 a1S)) i (za2 e) (mkD e)=(zaw L7 C7 (zcT (zt k) C5 a1S)) from by rw [hL7,hC7];exact zgu hO6 hLn5 hib] at hFz36_0
   rw [show (zaZ ((zaw L5 (fls (zt k)) (zcT (zt k) C5 a1S)).getD (i/4) Un.zero) (i%4))=(1-za1 a1L a1C i) from (zf4 hO6 hLn5 hib).trans (by rw [hL5,zwP hO2 hLn2 hib,hkp])]
   have hX53:Ext w82 w92:=((hEw90.trans hEw91).trans hEw92)
   refine ⟨.inr hX53, ?_⟩
   refine zg (hw:=hX53) hT672 [(6,124,(.tuple #[(vA [(vI (zt k)),(.slice a21 (tot (zt k)) (tot (zt k)))]),(vI (1-za1 a1L a1C i)),(vI 0)])),(7,131,(vA [(vI (zt k)),(.slice a21 (tot (zt k)) (tot (zt k)))])),(8,132,(vI (1-za1 a1L a1C i))),(9,133,(vI 0))] 4 (zx 11 (zG 38 w82.heap.size 0 38 (vA [(vI (zt k)),(.slice a21 (tot (zt k)) (tot (zt k)))]) ([(vI 0),(.slice none 0 0)]) ([(vI (zt k)),(.slice a21 (tot (zt k)) (tot (zt k)))]) ((hBw90.ext hEw91).ext hEw92) (by kernel_rfl) (by first | decide |(simp;done)|(simp;omega)) (by simp [Value.oneCell']) ?_))
   intro w93 hBw93 hCw93
   have hzw93:=hCw93.size
   rw [zy _ _ (by kernel_rfl)] at hBw93
   have hX54:Ext w82 w93:=(Ext.own ((hEw90.trans hEw91).trans hEw92) hCw93 (by omega))
   refine ⟨.inr hX54, ?_⟩
   exact zg (hw:=hX54) hT672 [(12,30,(vI (1-za1 a1L a1C i))),(13,22,(vI 0))] 2 (zE (zz (zm2 (w82.heap.size,a21) (⟨hBw93,((hFz36_0.chg hCw93)).now.mono (by omega) (Nat.le_refl _),by omega,(hEw82.trans hX54)⟩))))
 rintro ⟨bj29,aj29⟩ dw81 w81 ⟨hJ29,hM29,hJs29,hEj29⟩
 have hzj29:=hEj29.size;have hJl29:=hJ29.lt;have hle29:=hM29.le
 refine ze (zd (zc 2 [(135,(vI 0)),(134,(vI 0))] (za (zo (some 136) .i64 (IntKind.i64.wrap (((0:Nat):Int)+((0:Nat):Int))) 0 (zu) ?_))))
 refine zc 1 [(137,(vI 0))] (za (zo (some 138) .i64 (IntKind.i64.wrap (((0:Nat):Int)+((0:Nat):Int))) 0 (zu) ?_))
 refine za (zae (some 139) (((0:Nat):Int)==((0:Nat):Int)) true (zaq) ?_)
 refine zc 3 [(142,(vI (za1 a1L a1C i))),(141,(vI (za1 a1L a1C i))),(140,vT)] (za (zae (some 143) (((za1 a1L a1C i:Nat):Int)==((za1 a1L a1C i:Nat):Int)) true (zaq) ?_))
 refine zc 4 [(147,(vI (za1 a1L a1C i))),(146,(vI (1-za1 a1L a1C i))),(145,vT),(144,vT)] ?_
 have htl:=zsY hO (b:=i) (by rw [hLn];exact hib)
 refine za (zo (some 148) .i64 (IntKind.i64.wrap (((1:Nat):Int)-((za1 a1L a1C i:Nat):Int))) (1-za1 a1L a1C i) (zu) ?_)
 refine za (zae (some 149) ((((1-za1 a1L a1C i):Nat):Int)==((1-za1 a1L a1C i:Nat):Int)) true (zaq) ?_)
 refine zc 3 [(152,(vI (za1 a1L a1C i))),(151,vT),(150,vT)] ?_
 have hK81:=((((((((((((((((((hBw3.ext hEw4).ext hEw5).ext hEw6).ext hEw7).ext hEw8).ext hEw9).ext hEw10).chg hCw11).chg hCw12).ext hEj14).ext hEj17).ext hEj20).ext hEj23).ext hEw65).ext hEj26).ext hEw79).ext hEw80).ext hEj29)
 refine za (zO w2.heap.size 0 (hK81.all) ?_)
 refine zc 1 [(154,(vI i))] ?_
 have hK82:=(((((((((((((((((((hFz1_2.ext hEw3).ext hEw4).ext hEw5).ext hEw6).ext hEw7).ext hEw8).ext hEw9).ext hEw10).chg hCw11).chg hCw12).ext hEj14).ext hEj17).ext hEj20).ext hEj23).ext hEw65).ext hEj26).ext hEw79).ext hEw80).ext hEj29)
 have hK83:=(((((((((((((((((((hFz1_3.ext hEw3).ext hEw4).ext hEw5).ext hEw6).ext hEw7).ext hEw8).ext hEw9).ext hEw10).chg hCw11).chg hCw12).ext hEj14).ext hEj17).ext hEj20).ext hEj23).ext hEw65).ext hEj26).ext hEw79).ext hEw80).ext hEj29)
 have hK84:=(((((((((((((((((((hFz1_4.ext hEw3).ext hEw4).ext hEw5).ext hEw6).ext hEw7).ext hEw8).ext hEw9).ext hEw10).chg hCw11).chg hCw12).ext hEj14).ext hEj17).ext hEj20).ext hEj23).ext hEw65).ext hEj26).ext hEw79).ext hEw80).ext hEj29)
 refine za (zp (zoY i _ hK82 hK83 hK84 (hib) (by omega) (hO.st2 (by rw [hLn];exact hib))) ?_)
 rintro _ w94 ⟨rfl,hEw94⟩
 have hzw94:=hEw94.size
 refine za (zae (some 156) (((za1 a1L a1C i:Nat):Int)==((za1 a1L a1C i:Nat):Int)) true (zaq) ?_)
 refine zc 2 [(158,vT),(157,vT)] ?_
 have hK85:=((((hK65.ext hEw79).ext hEw80).ext hEj29).ext hEw94)
 have hK86:=((((hK66.ext hEw79).ext hEw80).ext hEj29).ext hEw94)
 have hK87:=((((hK67.ext hEw79).ext hEw80).ext hEj29).ext hEw94)
 have hK88:=((((((((((((((((((((((hg3.ext hEw1).ext hEw2).ext hEw3).ext hEw4).ext hEw5).ext hEw6).ext hEw7).ext hEw8).ext hEw9).ext hEw10).chg hCw11).chg hCw12).ext hEj14).ext hEj17).ext hEj20).ext hEj23).ext hEw65).ext hEj26).ext hEw79).ext hEw80).ext hEj29).ext hEw94)
 refine za (zp (zpJ _ hK85 hK86 hK87 hK88) ?_)
 rintro _ w95 ⟨rfl,hEw95⟩
 have hzw95:=hEw95.size
 refine zc 2 [(6,vT),(160,vT)] (zf (zb (zj (zl vT ?_))))
 have hX55:Ext w w95:=((((((((((((Ext.own (Ext.own (((((((((hEw1.trans hEw2).trans hEw3).trans hEw4).trans hEw5).trans hEw6).trans hEw7).trans hEw8).trans hEw9).trans hEw10) hCw11 (by omega)) hCw12 (by omega)).trans hEj14).trans hEj17).trans hEj20).trans hEj23).trans hEw65).trans hEj26).trans hEw79).trans hEw80).trans hEj29).trans hEw94).trans hEw95)
 exact ⟨rfl,hX55⟩
set_option maxHeartbeats 4000000 in
theorem zzl (k:Nat) {lo_p hi_p:Nat} {a_p:Option Addr} {n_p c_p:Nat} {p:List (UInt8×UInt8)} {lo_s hi_s:Nat} {a_s:Option Addr} {n_s c_s:Nat} {s:List UInt8} {lo_q hi_q:Nat} {a_q:Option Addr} {n_q c_q:Nat} {q:List (UInt8×UInt8)} (e:Nat) (f:Nat) (w:World) (h_p:Ms b2C 2 lo_p hi_p w a_p n_p c_p p) (h_s:Bs lo_s hi_s w a_s n_s c_s s) (h_q:Ms b2C 2 lo_q hi_q w a_q n_q c_q q) (hp0:k<256) (hp1:e<256) (hp2:f<256) (hp3:e%zt k=f%zt k) (hg0:Gl 0 [vI 45,vI 33] w) (hg1:Gl 1 (w8C zbp) w) (hg2:Gl 3 (zay kA) w) (hg3:Gl 2 [.iface 227 (.agg #[.pointer (some ⟨4,160,none⟩)])] w):
  Calls Tryz.prog 4 #[(vA [(vB k),(.slice a_p n_p c_p),(.slice a_s n_s c_s),(.slice a_q n_q c_q)]),(vB e),(vB f)] w (Ret fun r w'=>r=vT∧Ext w w'):=by
 refine zD (n:=161) (σ:= [(0,(vA [(vB k),(.slice a_p n_p c_p),(.slice a_s n_s c_s),(.slice a_q n_q c_q)])),(1,(vB e)),(2,(vB f))]) Tryz.func4 rfl ?_
 replace h_p:=h_p.now;have hle_p:=h_p.le
 replace h_s:=h_s.now;have hle_s:=h_s.le
 replace h_q:=h_q.now;have hle_q:=h_q.le
 have hgl0:=hg0.lt
 have hgl1:=hg1.lt
 have hgl2:=hg2.lt
 have hgl3:=hg3.lt
 have hbk:=zgJ k
 have h5:=zar (zt k)
 have hts:=zaB (n:=zt k) (by omega)
 have htp:=zcF (n:=zt k) (by omega) (by omega)
 refine ze (zd (za (zaa (Instr.box 27 (vA [(vB k),(.slice a_p n_p c_p),(.slice a_s n_s c_s),(.slice a_q n_q c_q)])) (vP w.heap.size 0) ([(vB k),(.slice a_p n_p c_p),(.slice a_s n_s c_s),(.slice a_q n_q c_q)]) 27 ?_)))
 intro w1 hBw1 hEw1 hzw1 hlw1
 refine zc 1 [(6,vF)] (zf (zb (ze (zd (za (zO w.heap.size 0 (hBw1.all) ?_))))))
 refine za (zp (zzk k _ (h_p.ext hEw1) (h_s.ext hEw1) (h_q.ext hEw1) (by omega)) ?_)
 rintro _ w2 ⟨a1L,a1C,a1S,a1a,a1b,a1c,a1d,a1e,a1f,rfl,hFz1_0,hFz1_1,hFz1_2,hFz1_3,hFz1_4,hEw2⟩
 have hzw2:=hEw2.size
 have hO:=hFz1_0;have hLn:=hFz1_1;have hl1:=hFz1_2.le;have hl2:=hFz1_3.le;have hl3:=hFz1_4.le
 refine zal ([(.slice a1a (zt k) a1b),(.slice a1c (zt k) a1d),(.slice a1e (tot (zt k)) a1f)]) 34 rfl (by simp [Value.oneCell']) ?_
 intro w3 hBw3 hEw3 hzw3 hlw3
 refine zf (zb (ze (zd (za (zO w2.heap.size 0 (hBw3.all) ?_)))))
 refine za (zp (zic _ (hFz1_2.ext hEw3) (hFz1_3.ext hEw3) (hFz1_4.ext hEw3) (by first | omega | decide) (by first | omega | decide) (by first | omega | decide) (by first | omega | decide) (hO.m.sl)) ?_)
 rintro _ w4 ⟨a2,ca2,rfl,hFz2_0,hEw4⟩
 have hzw4:=hEw4.size
 have hma2:=hFz2_0.ms;have hlea2:=hma2.le
 refine zal ([(vI (zt k)),(.slice a2 (tot (zt k)) ca2)]) 38 rfl (by simp [Value.oneCell']) ?_
 intro w5 hBw5 hEw5 hzw5 hlw5
 refine zf (zb (ze (zd (zc 1 [(35,(vP w2.heap.size 0))] (za (zm w2.heap.size 0 (((hBw3.ext hEw4).ext hEw5).cell rfl) ?_))))))
 refine zc 2 [(9,(vI (zt k))),(37,(vI (zt k)))] (zf (zb (ze (zab 10 (fun w6 hEw6 hzw6 hT700=> ?_)))))
 refine zg hT700 [(0,38,(vB e))] 1 (zn hT700 1 (vI e) (zY .i64 (IntKind.i64.wrap ((e:Nat):Int)) (zu rfl)) (zg hT700 [(2,40,(vI (zt k)))] 1 (zn hT700 3 (vI (e%(zt k))) (zag (bo .rem 3 (.tmp 39) (.tmp 40) (vI e) (vI (zt k))) (fun w' hC=>zrY (by omega))) ?_)))
 obtain ⟨i,hi⟩:∃z,z=e%(zt k):=⟨_,rfl⟩
 rw [←hi]
 have hib:i<zt k:=by rw [hi];exact Nat.mod_lt _ (by omega)
 refine zg hT700 [(4,42,(vB f))] 1 (zn hT700 5 (vI f) (zY .i64 (IntKind.i64.wrap ((f:Nat):Int)) (zu rfl)) (zg hT700 [(6,44,(vI (zt k)))] 1 (zn hT700 7 (vI (f%(zt k))) (zag (bo .rem 3 (.tmp 43) (.tmp 44) (vI f) (vI (zt k))) (fun w' hC=>zrY (by omega))) ?_)))
 obtain ⟨j,hj⟩:∃z,z=f%(zt k):=⟨_,rfl⟩
 rw [←hj]
 have hjb:j<zt k:=by rw [hj];exact Nat.mod_lt _ (by omega)
 refine zg hT700 [(8,10,(vI i)),(9,11,(vI j))] 2 (zE (zb (ze (zd (zc 1 [(46,(vB e))] (za (zp (zgI e _ (by omega)) ?_)))))))
 rintro _ w7 ⟨rfl,hEw7⟩
 have hzw7:=hEw7.size
 refine zc 1 [(48,(vB f))] (za (zp (zgI f _ (by omega)) ?_))
 rintro _ w8 ⟨rfl,hEw8⟩
 have hzw8:=hEw8.size
 refine za (zaf (zR Dig.zero) 59 ?_)
 intro w9 hBw9 hEw9 hzw9 hlw9
 refine za (zaf (zR Dig.zero) 59 ?_)
 intro w10 hBw10 hEw10 hzw10 hlw10
 refine za (zG 59 w8.heap.size 0 59 (vA (zR (mkD e))) (zR Dig.zero) (zR (mkD e)) (hBw9.ext hEw10) (by rw [zam];kernel_rfl) (by first |(simp;done)|(simp;omega)) (zbW _) ?_)
 intro w11 hBw11 hCw11
 have hzw11:=hCw11.size
 rw [zy _ _ (by simp)] at hBw11
 refine za (zG 59 w9.heap.size 0 59 (vA (zR (mkD f))) (zR Dig.zero) (zR (mkD f)) (hBw10.chg hCw11) (by rw [zam];kernel_rfl) (by first |(simp;done)|(simp;omega)) (zbW _) ?_)
 intro w12 hBw12 hCw12
 have hzw12:=hCw12.size
 rw [zy _ _ (by simp)] at hBw12
 refine zf (zb ?_)
 obtain ⟨L1,hL1⟩:∃z,z=a1L.set i (zaH a1L a1C i (za2 e) (mkD e)):=⟨_,rfl⟩
 obtain ⟨C1,hC1⟩:∃z,z=a1C.set i true:=⟨_,rfl⟩
 have hO1:OkW L1 C1 a1S:=by rw [hL1,hC1];exact hO.set (by rw [hLn];exact hib)
 have hLn1:L1.length=zt k:=by rw [hL1,List.length_set];exact hLn
 refine zqN (X:=Nat×Option Addr) (fun ⟨bj14,aj14⟩=> [(14,(vP bj14 0)),(15,(vI (za1 a1L a1C i))),(16,(vI 0))]) [50,51,52,53,54,55,56,57,58,59] (fun ⟨bj14,aj14⟩ w13=>Blk w13 bj14 ([(vI (zt k)),(.slice aj14 (tot (zt k)) (tot (zt k)))]) 38∧Ms unC 280 w12.heap.size w13.heap.size w13 aj14 (tot (zt k)) (tot (zt k)) (zaw L1 C1 a1S)∧w12.heap.size≤bj14∧Ext w12 w13) ?_ ?_
 ·refine zab 14 (fun w14 hEw14 hzw14 hT747=> ?_)
  have hK1:=((((((((hBw5.ext hEw6).ext hEw7).ext hEw8).ext hEw9).ext hEw10).chg hCw11).chg hCw12).ext hEw14)
  refine zaO hT747 0 w4.heap.size 0 (fun w' hC=>((hK1.ext hC).all)) (zg hT747 [(1,52,(vI i)),(2,53,(vB e))] 2 (zan hT747 4 w8.heap.size 0 (fun w' hC=>((((hBw11.chg hCw12).ext hEw14).ext hC).all)) (zam _) (zbt 3 10 ?_ ?_)))
  ·refine zp (zcb e _ (by first | omega | decide | exact UInt8.toNat_lt _)) ?_
   rintro _ w15 ⟨rfl,hEw15⟩
   have hzw15:=hEw15.size
   refine ⟨.inr hEw15, ?_⟩
   refine zbt 5 10 ?_ ?_
   ·have hK2:=((((((((((hma2.ext hEw5).ext hEw6).ext hEw7).ext hEw8).ext hEw9).ext hEw10).chg hCw11).chg hCw12).ext hEw14).ext hEw15)
    have hK3:=((((((((((((((hg0.ext hEw1).ext hEw2).ext hEw3).ext hEw4).ext hEw5).ext hEw6).ext hEw7).ext hEw8).ext hEw9).ext hEw10).chg hCw11).chg hCw12).ext hEw14).ext hEw15)
    have hK4:=((((((((((((((hg1.ext hEw1).ext hEw2).ext hEw3).ext hEw4).ext hEw5).ext hEw6).ext hEw7).ext hEw8).ext hEw9).ext hEw10).chg hCw11).chg hCw12).ext hEw14).ext hEw15)
    have hK5:=((((((((((((((hg2.ext hEw1).ext hEw2).ext hEw3).ext hEw4).ext hEw5).ext hEw6).ext hEw7).ext hEw8).ext hEw9).ext hEw10).chg hCw11).chg hCw12).ext hEw14).ext hEw15)
    refine zp (zcY (zt k) i (za2 e) (mkD e) _ hK2 (by omega) (by omega) (by omega) (zba hO) (zaV hO hLn) (hib) hK3 hK4 hK5) ?_
    rintro _ w16 ⟨a3,rfl,hFz6_0,hEw16⟩
    have hzw16:=hEw16.size
    have hlea3:=hFz6_0.le
    rw [show zc4 (zt k) (zaw a1L a1C a1S) i (za2 e) (mkD e)=(zaw L1 C1 a1S) from by rw [hL1,hC1];exact zgu hO hLn hib] at hFz6_0
    rw [show (zaZ ((zaw a1L a1C a1S).getD (i/4) Un.zero) (i%4))=za1 a1L a1C i from zf4 hO hLn hib]
    have hX1:Ext w14 w16:=(hEw15.trans hEw16)
    refine ⟨.inr hX1, ?_⟩
    refine zg (hw:=hX1) hT747 [(6,50,(.tuple #[(vA [(vI (zt k)),(.slice a3 (tot (zt k)) (tot (zt k)))]),(vI (za1 a1L a1C i)),(vI 0)])),(7,57,(vA [(vI (zt k)),(.slice a3 (tot (zt k)) (tot (zt k)))])),(8,58,(vI (za1 a1L a1C i))),(9,59,(vI 0))] 4 (zx 10 (zaf ([(vI 0),(.slice none 0 0)]) 38 ?_))
    intro w17 hBw17 hEw17 hzw17 hlw17
    have hX2:Ext w14 w17:=((hEw15.trans hEw16).trans hEw17)
    refine ⟨.inr hX2, ?_⟩
    refine zx 11 (zG 38 w16.heap.size 0 38 (vA [(vI (zt k)),(.slice a3 (tot (zt k)) (tot (zt k)))]) ([(vI 0),(.slice none 0 0)]) ([(vI (zt k)),(.slice a3 (tot (zt k)) (tot (zt k)))]) hBw17 (by kernel_rfl) (by first | decide |(simp;done)|(simp;omega)) (by simp [Value.oneCell']) ?_)
    intro w18 hBw18 hCw18
    have hzw18:=hCw18.size
    rw [zy _ _ (by kernel_rfl)] at hBw18
    have hX3:Ext w14 w18:=(Ext.own ((hEw15.trans hEw16).trans hEw17) hCw18 (by omega))
    refine ⟨.inr hX3, ?_⟩
    exact zg (hw:=hX3) hT747 [(12,15,(vI (za1 a1L a1C i))),(13,16,(vI 0))] 2 (zE (zz (zm2 (w16.heap.size,a3) (⟨hBw18,(((hFz6_0.ext hEw17).chg hCw18)).now.mono (by omega) (Nat.le_refl _),by omega,(hEw14.trans hX3)⟩))))
   ·refine zaf ([(vI 0),(.slice none 0 0)]) 38 ?_
    intro w19 hBw19 hEw19 hzw19 hlw19
    have hX4:Ext w14 w19:=(hEw15.trans hEw19)
    refine ⟨.inr hX4, ?_⟩
    have hK6:=(((((((((((hma2.ext hEw5).ext hEw6).ext hEw7).ext hEw8).ext hEw9).ext hEw10).chg hCw11).chg hCw12).ext hEw14).ext hEw15).ext hEw19)
    have hK7:=(((((((((((((((hg0.ext hEw1).ext hEw2).ext hEw3).ext hEw4).ext hEw5).ext hEw6).ext hEw7).ext hEw8).ext hEw9).ext hEw10).chg hCw11).chg hCw12).ext hEw14).ext hEw15).ext hEw19)
    have hK8:=(((((((((((((((hg1.ext hEw1).ext hEw2).ext hEw3).ext hEw4).ext hEw5).ext hEw6).ext hEw7).ext hEw8).ext hEw9).ext hEw10).chg hCw11).chg hCw12).ext hEw14).ext hEw15).ext hEw19)
    have hK9:=(((((((((((((((hg2.ext hEw1).ext hEw2).ext hEw3).ext hEw4).ext hEw5).ext hEw6).ext hEw7).ext hEw8).ext hEw9).ext hEw10).chg hCw11).chg hCw12).ext hEw14).ext hEw15).ext hEw19)
    refine zx 5 (zp (zcY (zt k) i (za2 e) (mkD e) _ hK6 (by omega) (by omega) (by omega) (zba hO) (zaV hO hLn) (hib) hK7 hK8 hK9) ?_)
    rintro _ w20 ⟨a4,rfl,hFz7_0,hEw20⟩
    have hzw20:=hEw20.size
    have hlea4:=hFz7_0.le
    rw [show zc4 (zt k) (zaw a1L a1C a1S) i (za2 e) (mkD e)=(zaw L1 C1 a1S) from by rw [hL1,hC1];exact zgu hO hLn hib] at hFz7_0
    rw [show (zaZ ((zaw a1L a1C a1S).getD (i/4) Un.zero) (i%4))=za1 a1L a1C i from zf4 hO hLn hib]
    have hX5:Ext w14 w20:=((hEw15.trans hEw19).trans hEw20)
    refine ⟨.inr hX5, ?_⟩
    refine zg (hw:=hX5) hT747 [(6,50,(.tuple #[(vA [(vI (zt k)),(.slice a4 (tot (zt k)) (tot (zt k)))]),(vI (za1 a1L a1C i)),(vI 0)])),(7,57,(vA [(vI (zt k)),(.slice a4 (tot (zt k)) (tot (zt k)))])),(8,58,(vI (za1 a1L a1C i))),(9,59,(vI 0))] 4 (zx 11 (zG 38 w15.heap.size 0 38 (vA [(vI (zt k)),(.slice a4 (tot (zt k)) (tot (zt k)))]) ([(vI 0),(.slice none 0 0)]) ([(vI (zt k)),(.slice a4 (tot (zt k)) (tot (zt k)))]) (hBw19.ext hEw20) (by kernel_rfl) (by first | decide |(simp;done)|(simp;omega)) (by simp [Value.oneCell']) ?_))
    intro w21 hBw21 hCw21
    have hzw21:=hCw21.size
    rw [zy _ _ (by kernel_rfl)] at hBw21
    have hX6:Ext w14 w21:=(Ext.own ((hEw15.trans hEw19).trans hEw20) hCw21 (by omega))
    refine ⟨.inr hX6, ?_⟩
    exact zg (hw:=hX6) hT747 [(12,15,(vI (za1 a1L a1C i))),(13,16,(vI 0))] 2 (zE (zz (zm2 (w15.heap.size,a4) (⟨hBw21,((hFz7_0.chg hCw21)).now.mono (by omega) (Nat.le_refl _),by omega,(hEw14.trans hX6)⟩))))
  ·refine zaf ([(vI 0),(.slice none 0 0)]) 38 ?_
   intro w22 hBw22 hEw22 hzw22 hlw22
   refine ⟨.inr hEw22, ?_⟩
   refine zx 3 (zp (zcb e _ (by first | omega | decide | exact UInt8.toNat_lt _)) ?_)
   rintro _ w23 ⟨rfl,hEw23⟩
   have hzw23:=hEw23.size
   have hX7:Ext w14 w23:=(hEw22.trans hEw23)
   refine ⟨.inr hX7, ?_⟩
   have hK10:=(((((((((((hma2.ext hEw5).ext hEw6).ext hEw7).ext hEw8).ext hEw9).ext hEw10).chg hCw11).chg hCw12).ext hEw14).ext hEw22).ext hEw23)
   have hK11:=(((((((((((((((hg0.ext hEw1).ext hEw2).ext hEw3).ext hEw4).ext hEw5).ext hEw6).ext hEw7).ext hEw8).ext hEw9).ext hEw10).chg hCw11).chg hCw12).ext hEw14).ext hEw22).ext hEw23)
   have hK12:=(((((((((((((((hg1.ext hEw1).ext hEw2).ext hEw3).ext hEw4).ext hEw5).ext hEw6).ext hEw7).ext hEw8).ext hEw9).ext hEw10).chg hCw11).chg hCw12).ext hEw14).ext hEw22).ext hEw23)
   have hK13:=(((((((((((((((hg2.ext hEw1).ext hEw2).ext hEw3).ext hEw4).ext hEw5).ext hEw6).ext hEw7).ext hEw8).ext hEw9).ext hEw10).chg hCw11).chg hCw12).ext hEw14).ext hEw22).ext hEw23)
   refine zx 5 (zp (zcY (zt k) i (za2 e) (mkD e) _ hK10 (by omega) (by omega) (by omega) (zba hO) (zaV hO hLn) (hib) hK11 hK12 hK13) ?_)
   rintro _ w24 ⟨a5,rfl,hFz9_0,hEw24⟩
   have hzw24:=hEw24.size
   have hlea5:=hFz9_0.le
   rw [show zc4 (zt k) (zaw a1L a1C a1S) i (za2 e) (mkD e)=(zaw L1 C1 a1S) from by rw [hL1,hC1];exact zgu hO hLn hib] at hFz9_0
   rw [show (zaZ ((zaw a1L a1C a1S).getD (i/4) Un.zero) (i%4))=za1 a1L a1C i from zf4 hO hLn hib]
   have hX8:Ext w14 w24:=((hEw22.trans hEw23).trans hEw24)
   refine ⟨.inr hX8, ?_⟩
   refine zg (hw:=hX8) hT747 [(6,50,(.tuple #[(vA [(vI (zt k)),(.slice a5 (tot (zt k)) (tot (zt k)))]),(vI (za1 a1L a1C i)),(vI 0)])),(7,57,(vA [(vI (zt k)),(.slice a5 (tot (zt k)) (tot (zt k)))])),(8,58,(vI (za1 a1L a1C i))),(9,59,(vI 0))] 4 (zx 11 (zG 38 w14.heap.size 0 38 (vA [(vI (zt k)),(.slice a5 (tot (zt k)) (tot (zt k)))]) ([(vI 0),(.slice none 0 0)]) ([(vI (zt k)),(.slice a5 (tot (zt k)) (tot (zt k)))]) ((hBw22.ext hEw23).ext hEw24) (by kernel_rfl) (by first | decide |(simp;done)|(simp;omega)) (by simp [Value.oneCell']) ?_))
   intro w25 hBw25 hCw25
   have hzw25:=hCw25.size
   rw [zy _ _ (by kernel_rfl)] at hBw25
   have hX9:Ext w14 w25:=(Ext.own ((hEw22.trans hEw23).trans hEw24) hCw25 (by omega))
   refine ⟨.inr hX9, ?_⟩
   exact zg (hw:=hX9) hT747 [(12,15,(vI (za1 a1L a1C i))),(13,16,(vI 0))] 2 (zE (zz (zm2 (w14.heap.size,a5) (⟨hBw25,((hFz9_0.chg hCw25)).now.mono (by omega) (Nat.le_refl _),by omega,(hEw14.trans hX9)⟩))))
 rintro ⟨bj14,aj14⟩ dw13 w13 ⟨hJ14,hM14,hJs14,hEj14⟩
 have hzj14:=hEj14.size;have hJl14:=hJ14.lt;have hle14:=hM14.le
 obtain ⟨L2,hL2⟩:∃z,z=L1.set j (zaH L1 C1 j (za2 f) (mkD f)):=⟨_,rfl⟩
 obtain ⟨C2,hC2⟩:∃z,z=C1.set j true:=⟨_,rfl⟩
 have hO2:OkW L2 C2 a1S:=by rw [hL2,hC2];exact hO1.set (by rw [hLn1];exact hjb)
 have hLn2:L2.length=zt k:=by rw [hL2,List.length_set];exact hLn1
 have hkp:za1 L2 C2 i=za1 a1L a1C i:=by rw [hL2,hC2,zlu (by omega) (by have:=hO1.hc;omega),hL1,hC1,zlu (by omega) (by have:=hO.hc;omega)]
 refine zqN (X:=Nat×Option Addr) (fun ⟨bj17,aj17⟩=> [(17,(vP bj17 0)),(18,(vI (za1 L1 C1 j))),(19,(vI 0))]) [60,61,62,63,64,65,66,67,68,69] (fun ⟨bj17,aj17⟩ w26=>Blk w26 bj17 ([(vI (zt k)),(.slice aj17 (tot (zt k)) (tot (zt k)))]) 38∧Ms unC 280 w13.heap.size w26.heap.size w26 aj17 (tot (zt k)) (tot (zt k)) (zaw L2 C2 a1S)∧w13.heap.size≤bj17∧Ext w13 w26) ?_ ?_
 ·refine zab 14 (fun w27 hEw27 hzw27 hT854=> ?_)
  refine zaO hT854 0 bj14 0 (fun w' hC=>(((hJ14.ext hEw27).ext hC).all)) (zg hT854 [(1,62,(vI j)),(2,63,(vB f))] 2 (zan hT854 4 w9.heap.size 0 (fun w' hC=>((((hBw12.ext hEj14).ext hEw27).ext hC).all)) (zam _) (zbt 3 10 ?_ ?_)))
  ·refine zp (zcb f _ (by first | omega | decide | exact UInt8.toNat_lt _)) ?_
   rintro _ w28 ⟨rfl,hEw28⟩
   have hzw28:=hEw28.size
   refine ⟨.inr hEw28, ?_⟩
   refine zbt 5 10 ?_ ?_
   ·have hK14:=(((((((((((((((hg0.ext hEw1).ext hEw2).ext hEw3).ext hEw4).ext hEw5).ext hEw6).ext hEw7).ext hEw8).ext hEw9).ext hEw10).chg hCw11).chg hCw12).ext hEj14).ext hEw27).ext hEw28)
    have hK15:=(((((((((((((((hg1.ext hEw1).ext hEw2).ext hEw3).ext hEw4).ext hEw5).ext hEw6).ext hEw7).ext hEw8).ext hEw9).ext hEw10).chg hCw11).chg hCw12).ext hEj14).ext hEw27).ext hEw28)
    have hK16:=(((((((((((((((hg2.ext hEw1).ext hEw2).ext hEw3).ext hEw4).ext hEw5).ext hEw6).ext hEw7).ext hEw8).ext hEw9).ext hEw10).chg hCw11).chg hCw12).ext hEj14).ext hEw27).ext hEw28)
    refine zp (zcY (zt k) j (za2 f) (mkD f) _ ((hM14.ext hEw27).ext hEw28) (by omega) (by omega) (by omega) (zba hO1) (zaV hO1 hLn1) (hjb) hK14 hK15 hK16) ?_
    rintro _ w29 ⟨a6,rfl,hFz11_0,hEw29⟩
    have hzw29:=hEw29.size
    have hlea6:=hFz11_0.le
    rw [show zc4 (zt k) (zaw L1 C1 a1S) j (za2 f) (mkD f)=(zaw L2 C2 a1S) from by rw [hL2,hC2];exact zgu hO1 hLn1 hjb] at hFz11_0
    rw [show (zaZ ((zaw L1 C1 a1S).getD (j/4) Un.zero) (j%4))=za1 L1 C1 j from zf4 hO1 hLn1 hjb]
    have hX10:Ext w27 w29:=(hEw28.trans hEw29)
    refine ⟨.inr hX10, ?_⟩
    refine zg (hw:=hX10) hT854 [(6,60,(.tuple #[(vA [(vI (zt k)),(.slice a6 (tot (zt k)) (tot (zt k)))]),(vI (za1 L1 C1 j)),(vI 0)])),(7,67,(vA [(vI (zt k)),(.slice a6 (tot (zt k)) (tot (zt k)))])),(8,68,(vI (za1 L1 C1 j))),(9,69,(vI 0))] 4 (zx 10 (zaf ([(vI 0),(.slice none 0 0)]) 38 ?_))
    intro w30 hBw30 hEw30 hzw30 hlw30
    have hX11:Ext w27 w30:=((hEw28.trans hEw29).trans hEw30)
    refine ⟨.inr hX11, ?_⟩
    refine zx 11 (zG 38 w29.heap.size 0 38 (vA [(vI (zt k)),(.slice a6 (tot (zt k)) (tot (zt k)))]) ([(vI 0),(.slice none 0 0)]) ([(vI (zt k)),(.slice a6 (tot (zt k)) (tot (zt k)))]) hBw30 (by kernel_rfl) (by first | decide |(simp;done)|(simp;omega)) (by simp [Value.oneCell']) ?_)
    intro w31 hBw31 hCw31
    have hzw31:=hCw31.size
    rw [zy _ _ (by kernel_rfl)] at hBw31
    have hX12:Ext w27 w31:=(Ext.own ((hEw28.trans hEw29).trans hEw30) hCw31 (by omega))
    refine ⟨.inr hX12, ?_⟩
    exact zg (hw:=hX12) hT854 [(12,18,(vI (za1 L1 C1 j))),(13,19,(vI 0))] 2 (zE (zz (zm2 (w29.heap.size,a6) (⟨hBw31,(((hFz11_0.ext hEw30).chg hCw31)).now.mono (by omega) (Nat.le_refl _),by omega,(hEw27.trans hX12)⟩))))
   ·refine zaf ([(vI 0),(.slice none 0 0)]) 38 ?_
    intro w32 hBw32 hEw32 hzw32 hlw32
    have hX13:Ext w27 w32:=(hEw28.trans hEw32)
    refine ⟨.inr hX13, ?_⟩
    have hK17:=(((hM14.ext hEw27).ext hEw28).ext hEw32)
    have hK18:=((((((((((((((((hg0.ext hEw1).ext hEw2).ext hEw3).ext hEw4).ext hEw5).ext hEw6).ext hEw7).ext hEw8).ext hEw9).ext hEw10).chg hCw11).chg hCw12).ext hEj14).ext hEw27).ext hEw28).ext hEw32)
    have hK19:=((((((((((((((((hg1.ext hEw1).ext hEw2).ext hEw3).ext hEw4).ext hEw5).ext hEw6).ext hEw7).ext hEw8).ext hEw9).ext hEw10).chg hCw11).chg hCw12).ext hEj14).ext hEw27).ext hEw28).ext hEw32)
    have hK20:=((((((((((((((((hg2.ext hEw1).ext hEw2).ext hEw3).ext hEw4).ext hEw5).ext hEw6).ext hEw7).ext hEw8).ext hEw9).ext hEw10).chg hCw11).chg hCw12).ext hEj14).ext hEw27).ext hEw28).ext hEw32)
    refine zx 5 (zp (zcY (zt k) j (za2 f) (mkD f) _ hK17 (by omega) (by omega) (by omega) (zba hO1) (zaV hO1 hLn1) (hjb) hK18 hK19 hK20) ?_)
    rintro _ w33 ⟨a7,rfl,hFz12_0,hEw33⟩
    have hzw33:=hEw33.size
    have hlea7:=hFz12_0.le
    rw [show zc4 (zt k) (zaw L1 C1 a1S) j (za2 f) (mkD f)=(zaw L2 C2 a1S) from by rw [hL2,hC2];exact zgu hO1 hLn1 hjb] at hFz12_0
    rw [show (zaZ ((zaw L1 C1 a1S).getD (j/4) Un.zero) (j%4))=za1 L1 C1 j from zf4 hO1 hLn1 hjb]
    have hX14:Ext w27 w33:=((hEw28.trans hEw32).trans hEw33)
    refine ⟨.inr hX14, ?_⟩
    refine zg (hw:=hX14) hT854 [(6,60,(.tuple #[(vA [(vI (zt k)),(.slice a7 (tot (zt k)) (tot (zt k)))]),(vI (za1 L1 C1 j)),(vI 0)])),(7,67,(vA [(vI (zt k)),(.slice a7 (tot (zt k)) (tot (zt k)))])),(8,68,(vI (za1 L1 C1 j))),(9,69,(vI 0))] 4 (zx 11 (zG 38 w28.heap.size 0 38 (vA [(vI (zt k)),(.slice a7 (tot (zt k)) (tot (zt k)))]) ([(vI 0),(.slice none 0 0)]) ([(vI (zt k)),(.slice a7 (tot (zt k)) (tot (zt k)))]) (hBw32.ext hEw33) (by kernel_rfl) (by first | decide |(simp;done)|(simp;omega)) (by simp [Value.oneCell']) ?_))
    intro w34 hBw34 hCw34
    have hzw34:=hCw34.size
    rw [zy _ _ (by kernel_rfl)] at hBw34
    have hX15:Ext w27 w34:=(Ext.own ((hEw28.trans hEw32).trans hEw33) hCw34 (by omega))
    refine ⟨.inr hX15, ?_⟩
    exact zg (hw:=hX15) hT854 [(12,18,(vI (za1 L1 C1 j))),(13,19,(vI 0))] 2 (zE (zz (zm2 (w28.heap.size,a7) (⟨hBw34,((hFz12_0.chg hCw34)).now.mono (by omega) (Nat.le_refl _),by omega,(hEw27.trans hX15)⟩))))
  ·refine zaf ([(vI 0),(.slice none 0 0)]) 38 ?_
   intro w35 hBw35 hEw35 hzw35 hlw35
   refine ⟨.inr hEw35, ?_⟩
   refine zx 3 (zp (zcb f _ (by first | omega | decide | exact UInt8.toNat_lt _)) ?_)
   rintro _ w36 ⟨rfl,hEw36⟩
   have hzw36:=hEw36.size
   have hX16:Ext w27 w36:=(hEw35.trans hEw36)
   refine ⟨.inr hX16, ?_⟩
   have hK21:=(((hM14.ext hEw27).ext hEw35).ext hEw36)
   have hK22:=((((((((((((((((hg0.ext hEw1).ext hEw2).ext hEw3).ext hEw4).ext hEw5).ext hEw6).ext hEw7).ext hEw8).ext hEw9).ext hEw10).chg hCw11).chg hCw12).ext hEj14).ext hEw27).ext hEw35).ext hEw36)
   have hK23:=((((((((((((((((hg1.ext hEw1).ext hEw2).ext hEw3).ext hEw4).ext hEw5).ext hEw6).ext hEw7).ext hEw8).ext hEw9).ext hEw10).chg hCw11).chg hCw12).ext hEj14).ext hEw27).ext hEw35).ext hEw36)
   have hK24:=((((((((((((((((hg2.ext hEw1).ext hEw2).ext hEw3).ext hEw4).ext hEw5).ext hEw6).ext hEw7).ext hEw8).ext hEw9).ext hEw10).chg hCw11).chg hCw12).ext hEj14).ext hEw27).ext hEw35).ext hEw36)
   refine zx 5 (zp (zcY (zt k) j (za2 f) (mkD f) _ hK21 (by omega) (by omega) (by omega) (zba hO1) (zaV hO1 hLn1) (hjb) hK22 hK23 hK24) ?_)
   rintro _ w37 ⟨a8,rfl,hFz14_0,hEw37⟩
   have hzw37:=hEw37.size
   have hlea8:=hFz14_0.le
   rw [show zc4 (zt k) (zaw L1 C1 a1S) j (za2 f) (mkD f)=(zaw L2 C2 a1S) from by rw [hL2,hC2];exact zgu hO1 hLn1 hjb] at hFz14_0
   rw [show (zaZ ((zaw L1 C1 a1S).getD (j/4) Un.zero) (j%4))=za1 L1 C1 j from zf4 hO1 hLn1 hjb]
   have hX17:Ext w27 w37:=((hEw35.trans hEw36).trans hEw37)
   refine ⟨.inr hX17, ?_⟩
   refine zg (hw:=hX17) hT854 [(6,60,(.tuple #[(vA [(vI (zt k)),(.slice a8 (tot (zt k)) (tot (zt k)))]),(vI (za1 L1 C1 j)),(vI 0)])),(7,67,(vA [(vI (zt k)),(.slice a8 (tot (zt k)) (tot (zt k)))])),(8,68,(vI (za1 L1 C1 j))),(9,69,(vI 0))] 4 (zx 11 (zG 38 w27.heap.size 0 38 (vA [(vI (zt k)),(.slice a8 (tot (zt k)) (tot (zt k)))]) ([(vI 0),(.slice none 0 0)]) ([(vI (zt k)),(.slice a8 (tot (zt k)) (tot (zt k)))]) ((hBw35.ext hEw36).ext hEw37) (by kernel_rfl) (by first | decide |(simp;done)|(simp;omega)) (by simp [Value.oneCell']) ?_))
   intro w38 hBw38 hCw38
   have hzw38:=hCw38.size
   rw [zy _ _ (by kernel_rfl)] at hBw38
   have hX18:Ext w27 w38:=(Ext.own ((hEw35.trans hEw36).trans hEw37) hCw38 (by omega))
   refine ⟨.inr hX18, ?_⟩
   exact zg (hw:=hX18) hT854 [(12,18,(vI (za1 L1 C1 j))),(13,19,(vI 0))] 2 (zE (zz (zm2 (w27.heap.size,a8) (⟨hBw38,((hFz14_0.chg hCw38)).now.mono (by omega) (Nat.le_refl _),by omega,(hEw27.trans hX18)⟩))))
 rintro ⟨bj17,aj17⟩ dw26 w26 ⟨hJ17,hM17,hJs17,hEj17⟩
 have hzj17:=hEj17.size;have hJl17:=hJ17.lt;have hle17:=hM17.le
 obtain ⟨L3,hL3⟩:∃z,z=a1L.set j (zaH a1L a1C j (za2 f) (mkD f)):=⟨_,rfl⟩
 obtain ⟨C3,hC3⟩:∃z,z=a1C.set j true:=⟨_,rfl⟩
 have hO3:OkW L3 C3 a1S:=by rw [hL3,hC3];exact hO.set (by rw [hLn];exact hjb)
 have hLn3:L3.length=zt k:=by rw [hL3,List.length_set];exact hLn
 refine zqN (X:=Nat×Option Addr) (fun ⟨bj20,aj20⟩=> [(20,(vP bj20 0)),(21,(vI (za1 a1L a1C j))),(22,(vI 0))]) [70,71,72,73,74,75,76,77,78,79] (fun ⟨bj20,aj20⟩ w39=>Blk w39 bj20 ([(vI (zt k)),(.slice aj20 (tot (zt k)) (tot (zt k)))]) 38∧Ms unC 280 w26.heap.size w39.heap.size w39 aj20 (tot (zt k)) (tot (zt k)) (zaw L3 C3 a1S)∧w26.heap.size≤bj20∧Ext w26 w39) ?_ ?_
 ·refine zab 14 (fun w40 hEw40 hzw40 hT958=> ?_)
  have hK25:=((((((((((hBw5.ext hEw6).ext hEw7).ext hEw8).ext hEw9).ext hEw10).chg hCw11).chg hCw12).ext hEj14).ext hEj17).ext hEw40)
  refine zaO hT958 0 w4.heap.size 0 (fun w' hC=>((hK25.ext hC).all)) (zg hT958 [(1,72,(vI j)),(2,73,(vB f))] 2 ?_)
  have hK26:=(((hBw12.ext hEj14).ext hEj17).ext hEw40)
  refine zan hT958 4 w9.heap.size 0 (fun w' hC=>((hK26.ext hC).all)) (zam _) (zbt 3 10 ?_ ?_)
  ·refine zp (zcb f _ (by first | omega | decide | exact UInt8.toNat_lt _)) ?_
   rintro _ w41 ⟨rfl,hEw41⟩
   have hzw41:=hEw41.size
   refine ⟨.inr hEw41, ?_⟩
   refine zbt 5 10 ?_ ?_
   ·have hK27:=((((((((((((hma2.ext hEw5).ext hEw6).ext hEw7).ext hEw8).ext hEw9).ext hEw10).chg hCw11).chg hCw12).ext hEj14).ext hEj17).ext hEw40).ext hEw41)
    have hK28:=((((((((((((((((hg0.ext hEw1).ext hEw2).ext hEw3).ext hEw4).ext hEw5).ext hEw6).ext hEw7).ext hEw8).ext hEw9).ext hEw10).chg hCw11).chg hCw12).ext hEj14).ext hEj17).ext hEw40).ext hEw41)
    have hK29:=((((((((((((((((hg1.ext hEw1).ext hEw2).ext hEw3).ext hEw4).ext hEw5).ext hEw6).ext hEw7).ext hEw8).ext hEw9).ext hEw10).chg hCw11).chg hCw12).ext hEj14).ext hEj17).ext hEw40).ext hEw41)
    have hK30:=((((((((((((((((hg2.ext hEw1).ext hEw2).ext hEw3).ext hEw4).ext hEw5).ext hEw6).ext hEw7).ext hEw8).ext hEw9).ext hEw10).chg hCw11).chg hCw12).ext hEj14).ext hEj17).ext hEw40).ext hEw41)
    refine zp (zcY (zt k) j (za2 f) (mkD f) _ hK27 (by omega) (by omega) (by omega) (zba hO) (zaV hO hLn) (hjb) hK28 hK29 hK30) ?_
    rintro _ w42 ⟨a9,rfl,hFz16_0,hEw42⟩
    have hzw42:=hEw42.size
    have hlea9:=hFz16_0.le
    rw [show zc4 (zt k) (zaw a1L a1C a1S) j (za2 f) (mkD f)=(zaw L3 C3 a1S) from by rw [hL3,hC3];exact zgu hO hLn hjb] at hFz16_0
    rw [show (zaZ ((zaw a1L a1C a1S).getD (j/4) Un.zero) (j%4))=za1 a1L a1C j from zf4 hO hLn hjb]
    have hX19:Ext w40 w42:=(hEw41.trans hEw42)
    refine ⟨.inr hX19, ?_⟩
    refine zg (hw:=hX19) hT958 [(6,70,(.tuple #[(vA [(vI (zt k)),(.slice a9 (tot (zt k)) (tot (zt k)))]),(vI (za1 a1L a1C j)),(vI 0)])),(7,77,(vA [(vI (zt k)),(.slice a9 (tot (zt k)) (tot (zt k)))])),(8,78,(vI (za1 a1L a1C j))),(9,79,(vI 0))] 4 (zx 10 (zaf ([(vI 0),(.slice none 0 0)]) 38 ?_))
    intro w43 hBw43 hEw43 hzw43 hlw43
    have hX20:Ext w40 w43:=((hEw41.trans hEw42).trans hEw43)
    refine ⟨.inr hX20, ?_⟩
    refine zx 11 (zG 38 w42.heap.size 0 38 (vA [(vI (zt k)),(.slice a9 (tot (zt k)) (tot (zt k)))]) ([(vI 0),(.slice none 0 0)]) ([(vI (zt k)),(.slice a9 (tot (zt k)) (tot (zt k)))]) hBw43 (by kernel_rfl) (by first | decide |(simp;done)|(simp;omega)) (by simp [Value.oneCell']) ?_)
    intro w44 hBw44 hCw44
    have hzw44:=hCw44.size
    rw [zy _ _ (by kernel_rfl)] at hBw44
    have hX21:Ext w40 w44:=(Ext.own ((hEw41.trans hEw42).trans hEw43) hCw44 (by omega))
    refine ⟨.inr hX21, ?_⟩
    exact zg (hw:=hX21) hT958 [(12,21,(vI (za1 a1L a1C j))),(13,22,(vI 0))] 2 (zE (zz (zm2 (w42.heap.size,a9) (⟨hBw44,(((hFz16_0.ext hEw43).chg hCw44)).now.mono (by omega) (Nat.le_refl _),by omega,(hEw40.trans hX21)⟩))))
   ·refine zaf ([(vI 0),(.slice none 0 0)]) 38 ?_
    intro w45 hBw45 hEw45 hzw45 hlw45
    have hX22:Ext w40 w45:=(hEw41.trans hEw45)
    refine ⟨.inr hX22, ?_⟩
    have hK31:=(((((((((((((hma2.ext hEw5).ext hEw6).ext hEw7).ext hEw8).ext hEw9).ext hEw10).chg hCw11).chg hCw12).ext hEj14).ext hEj17).ext hEw40).ext hEw41).ext hEw45)
    have hK32:=(((((((((((((((((hg0.ext hEw1).ext hEw2).ext hEw3).ext hEw4).ext hEw5).ext hEw6).ext hEw7).ext hEw8).ext hEw9).ext hEw10).chg hCw11).chg hCw12).ext hEj14).ext hEj17).ext hEw40).ext hEw41).ext hEw45)
    have hK33:=(((((((((((((((((hg1.ext hEw1).ext hEw2).ext hEw3).ext hEw4).ext hEw5).ext hEw6).ext hEw7).ext hEw8).ext hEw9).ext hEw10).chg hCw11).chg hCw12).ext hEj14).ext hEj17).ext hEw40).ext hEw41).ext hEw45)
    have hK34:=(((((((((((((((((hg2.ext hEw1).ext hEw2).ext hEw3).ext hEw4).ext hEw5).ext hEw6).ext hEw7).ext hEw8).ext hEw9).ext hEw10).chg hCw11).chg hCw12).ext hEj14).ext hEj17).ext hEw40).ext hEw41).ext hEw45)
    refine zx 5 (zp (zcY (zt k) j (za2 f) (mkD f) _ hK31 (by omega) (by omega) (by omega) (zba hO) (zaV hO hLn) (hjb) hK32 hK33 hK34) ?_)
    rintro _ w46 ⟨a10,rfl,hFz17_0,hEw46⟩
    have hzw46:=hEw46.size
    have hlea10:=hFz17_0.le
    rw [show zc4 (zt k) (zaw a1L a1C a1S) j (za2 f) (mkD f)=(zaw L3 C3 a1S) from by rw [hL3,hC3];exact zgu hO hLn hjb] at hFz17_0
    rw [show (zaZ ((zaw a1L a1C a1S).getD (j/4) Un.zero) (j%4))=za1 a1L a1C j from zf4 hO hLn hjb]
    have hX23:Ext w40 w46:=((hEw41.trans hEw45).trans hEw46)
    refine ⟨.inr hX23, ?_⟩
    refine zg (hw:=hX23) hT958 [(6,70,(.tuple #[(vA [(vI (zt k)),(.slice a10 (tot (zt k)) (tot (zt k)))]),(vI (za1 a1L a1C j)),(vI 0)])),(7,77,(vA [(vI (zt k)),(.slice a10 (tot (zt k)) (tot (zt k)))])),(8,78,(vI (za1 a1L a1C j))),(9,79,(vI 0))] 4 (zx 11 (zG 38 w41.heap.size 0 38 (vA [(vI (zt k)),(.slice a10 (tot (zt k)) (tot (zt k)))]) ([(vI 0),(.slice none 0 0)]) ([(vI (zt k)),(.slice a10 (tot (zt k)) (tot (zt k)))]) (hBw45.ext hEw46) (by kernel_rfl) (by first | decide |(simp;done)|(simp;omega)) (by simp [Value.oneCell']) ?_))
    intro w47 hBw47 hCw47
    have hzw47:=hCw47.size
    rw [zy _ _ (by kernel_rfl)] at hBw47
    have hX24:Ext w40 w47:=(Ext.own ((hEw41.trans hEw45).trans hEw46) hCw47 (by omega))
    refine ⟨.inr hX24, ?_⟩
    exact zg (hw:=hX24) hT958 [(12,21,(vI (za1 a1L a1C j))),(13,22,(vI 0))] 2 (zE (zz (zm2 (w41.heap.size,a10) (⟨hBw47,((hFz17_0.chg hCw47)).now.mono (by omega) (Nat.le_refl _),by omega,(hEw40.trans hX24)⟩))))
  ·refine zaf ([(vI 0),(.slice none 0 0)]) 38 ?_
   intro w48 hBw48 hEw48 hzw48 hlw48
   refine ⟨.inr hEw48, ?_⟩
   refine zx 3 (zp (zcb f _ (by first | omega | decide | exact UInt8.toNat_lt _)) ?_)
   rintro _ w49 ⟨rfl,hEw49⟩
   have hzw49:=hEw49.size
   have hX25:Ext w40 w49:=(hEw48.trans hEw49)
   refine ⟨.inr hX25, ?_⟩
   have hK35:=(((((((((((((hma2.ext hEw5).ext hEw6).ext hEw7).ext hEw8).ext hEw9).ext hEw10).chg hCw11).chg hCw12).ext hEj14).ext hEj17).ext hEw40).ext hEw48).ext hEw49)
   have hK36:=(((((((((((((((((hg0.ext hEw1).ext hEw2).ext hEw3).ext hEw4).ext hEw5).ext hEw6).ext hEw7).ext hEw8).ext hEw9).ext hEw10).chg hCw11).chg hCw12).ext hEj14).ext hEj17).ext hEw40).ext hEw48).ext hEw49)
   have hK37:=(((((((((((((((((hg1.ext hEw1).ext hEw2).ext hEw3).ext hEw4).ext hEw5).ext hEw6).ext hEw7).ext hEw8).ext hEw9).ext hEw10).chg hCw11).chg hCw12).ext hEj14).ext hEj17).ext hEw40).ext hEw48).ext hEw49)
   have hK38:=(((((((((((((((((hg2.ext hEw1).ext hEw2).ext hEw3).ext hEw4).ext hEw5).ext hEw6).ext hEw7).ext hEw8).ext hEw9).ext hEw10).chg hCw11).chg hCw12).ext hEj14).ext hEj17).ext hEw40).ext hEw48).ext hEw49)
   refine zx 5 (zp (zcY (zt k) j (za2 f) (mkD f) _ hK35 (by omega) (by omega) (by omega) (zba hO) (zaV hO hLn) (hjb) hK36 hK37 hK38) ?_)
   rintro _ w50 ⟨a11,rfl,hFz19_0,hEw50⟩
   have hzw50:=hEw50.size
   have hlea11:=hFz19_0.le
   rw [show zc4 (zt k) (zaw a1L a1C a1S) j (za2 f) (mkD f)=(zaw L3 C3 a1S) from by rw [hL3,hC3];exact zgu hO hLn hjb] at hFz19_0
   rw [show (zaZ ((zaw a1L a1C a1S).getD (j/4) Un.zero) (j%4))=za1 a1L a1C j from zf4 hO hLn hjb]
   have hX26:Ext w40 w50:=((hEw48.trans hEw49).trans hEw50)
   refine ⟨.inr hX26, ?_⟩
   refine zg (hw:=hX26) hT958 [(6,70,(.tuple #[(vA [(vI (zt k)),(.slice a11 (tot (zt k)) (tot (zt k)))]),(vI (za1 a1L a1C j)),(vI 0)])),(7,77,(vA [(vI (zt k)),(.slice a11 (tot (zt k)) (tot (zt k)))])),(8,78,(vI (za1 a1L a1C j))),(9,79,(vI 0))] 4 (zx 11 (zG 38 w40.heap.size 0 38 (vA [(vI (zt k)),(.slice a11 (tot (zt k)) (tot (zt k)))]) ([(vI 0),(.slice none 0 0)]) ([(vI (zt k)),(.slice a11 (tot (zt k)) (tot (zt k)))]) ((hBw48.ext hEw49).ext hEw50) (by kernel_rfl) (by first | decide |(simp;done)|(simp;omega)) (by simp [Value.oneCell']) ?_))
   intro w51 hBw51 hCw51
   have hzw51:=hCw51.size
   rw [zy _ _ (by kernel_rfl)] at hBw51
   have hX27:Ext w40 w51:=(Ext.own ((hEw48.trans hEw49).trans hEw50) hCw51 (by omega))
   refine ⟨.inr hX27, ?_⟩
   exact zg (hw:=hX27) hT958 [(12,21,(vI (za1 a1L a1C j))),(13,22,(vI 0))] 2 (zE (zz (zm2 (w40.heap.size,a11) (⟨hBw51,((hFz19_0.chg hCw51)).now.mono (by omega) (Nat.le_refl _),by omega,(hEw40.trans hX27)⟩))))
 rintro ⟨bj20,aj20⟩ dw39 w39 ⟨hJ20,hM20,hJs20,hEj20⟩
 have hzj20:=hEj20.size;have hJl20:=hJ20.lt;have hle20:=hM20.le
 obtain ⟨L4,hL4⟩:∃z,z=L3.set i (zaH L3 C3 i (za2 e) (mkD e)):=⟨_,rfl⟩
 obtain ⟨C4,hC4⟩:∃z,z=C3.set i true:=⟨_,rfl⟩
 have hO4:OkW L4 C4 a1S:=by rw [hL4,hC4];exact hO3.set (by rw [hLn3];exact hib)
 have hLn4:L4.length=zt k:=by rw [hL4,List.length_set];exact hLn3
 refine zqN (X:=Nat×Option Addr) (fun ⟨bj23,aj23⟩=> [(23,(vP bj23 0)),(24,(vI (za1 L3 C3 i))),(25,(vI 0))]) [80,81,82,83,84,85,86,87,88,89] (fun ⟨bj23,aj23⟩ w52=>Blk w52 bj23 ([(vI (zt k)),(.slice aj23 (tot (zt k)) (tot (zt k)))]) 38∧Ms unC 280 w39.heap.size w52.heap.size w52 aj23 (tot (zt k)) (tot (zt k)) (zaw L4 C4 a1S)∧w39.heap.size≤bj23∧Ext w39 w52) ?_ ?_
 ·refine zab 14 (fun w53 hEw53 hzw53 hT1065=> ?_)
  refine zaO hT1065 0 bj20 0 (fun w' hC=>(((hJ20.ext hEw53).ext hC).all)) (zg hT1065 [(1,82,(vI i)),(2,83,(vB e))] 2 ?_)
  have hK39:=(((((hBw11.chg hCw12).ext hEj14).ext hEj17).ext hEj20).ext hEw53)
  refine zan hT1065 4 w8.heap.size 0 (fun w' hC=>((hK39.ext hC).all)) (zam _) (zbt 3 10 ?_ ?_)
  ·refine zp (zcb e _ (by first | omega | decide | exact UInt8.toNat_lt _)) ?_
   rintro _ w54 ⟨rfl,hEw54⟩
   have hzw54:=hEw54.size
   refine ⟨.inr hEw54, ?_⟩
   refine zbt 5 10 ?_ ?_
   ·have hK40:=(((((((((((((((((hg0.ext hEw1).ext hEw2).ext hEw3).ext hEw4).ext hEw5).ext hEw6).ext hEw7).ext hEw8).ext hEw9).ext hEw10).chg hCw11).chg hCw12).ext hEj14).ext hEj17).ext hEj20).ext hEw53).ext hEw54)
    have hK41:=(((((((((((((((((hg1.ext hEw1).ext hEw2).ext hEw3).ext hEw4).ext hEw5).ext hEw6).ext hEw7).ext hEw8).ext hEw9).ext hEw10).chg hCw11).chg hCw12).ext hEj14).ext hEj17).ext hEj20).ext hEw53).ext hEw54)
    have hK42:=(((((((((((((((((hg2.ext hEw1).ext hEw2).ext hEw3).ext hEw4).ext hEw5).ext hEw6).ext hEw7).ext hEw8).ext hEw9).ext hEw10).chg hCw11).chg hCw12).ext hEj14).ext hEj17).ext hEj20).ext hEw53).ext hEw54)
    refine zp (zcY (zt k) i (za2 e) (mkD e) _ ((hM20.ext hEw53).ext hEw54) (by omega) (by omega) (by omega) (zba hO3) (zaV hO3 hLn3) (hib) hK40 hK41 hK42) ?_
    rintro _ w55 ⟨a12,rfl,hFz21_0,hEw55⟩
    have hzw55:=hEw55.size
    have hlea12:=hFz21_0.le
    rw [show zc4 (zt k) (zaw L3 C3 a1S) i (za2 e) (mkD e)=(zaw L4 C4 a1S) from by rw [hL4,hC4];exact zgu hO3 hLn3 hib] at hFz21_0
    rw [show (zaZ ((zaw L3 C3 a1S).getD (i/4) Un.zero) (i%4))=za1 L3 C3 i from zf4 hO3 hLn3 hib]
    have hX28:Ext w53 w55:=(hEw54.trans hEw55)
    refine ⟨.inr hX28, ?_⟩
    refine zg (hw:=hX28) hT1065 [(6,80,(.tuple #[(vA [(vI (zt k)),(.slice a12 (tot (zt k)) (tot (zt k)))]),(vI (za1 L3 C3 i)),(vI 0)])),(7,87,(vA [(vI (zt k)),(.slice a12 (tot (zt k)) (tot (zt k)))])),(8,88,(vI (za1 L3 C3 i))),(9,89,(vI 0))] 4 (zx 10 (zaf ([(vI 0),(.slice none 0 0)]) 38 ?_))
    intro w56 hBw56 hEw56 hzw56 hlw56
    have hX29:Ext w53 w56:=((hEw54.trans hEw55).trans hEw56)
    refine ⟨.inr hX29, ?_⟩
    refine zx 11 (zG 38 w55.heap.size 0 38 (vA [(vI (zt k)),(.slice a12 (tot (zt k)) (tot (zt k)))]) ([(vI 0),(.slice none 0 0)]) ([(vI (zt k)),(.slice a12 (tot (zt k)) (tot (zt k)))]) hBw56 (by kernel_rfl) (by first | decide |(simp;done)|(simp;omega)) (by simp [Value.oneCell']) ?_)
    intro w57 hBw57 hCw57
    have hzw57:=hCw57.size
    rw [zy _ _ (by kernel_rfl)] at hBw57
    have hX30:Ext w53 w57:=(Ext.own ((hEw54.trans hEw55).trans hEw56) hCw57 (by omega))
    refine ⟨.inr hX30, ?_⟩
    exact zg (hw:=hX30) hT1065 [(12,24,(vI (za1 L3 C3 i))),(13,25,(vI 0))] 2 (zE (zz (zm2 (w55.heap.size,a12) (⟨hBw57,(((hFz21_0.ext hEw56).chg hCw57)).now.mono (by omega) (Nat.le_refl _),by omega,(hEw53.trans hX30)⟩))))
   ·refine zaf ([(vI 0),(.slice none 0 0)]) 38 ?_
    intro w58 hBw58 hEw58 hzw58 hlw58
    have hX31:Ext w53 w58:=(hEw54.trans hEw58)
    refine ⟨.inr hX31, ?_⟩
    have hK43:=(((hM20.ext hEw53).ext hEw54).ext hEw58)
    have hK44:=((((((((((((((((((hg0.ext hEw1).ext hEw2).ext hEw3).ext hEw4).ext hEw5).ext hEw6).ext hEw7).ext hEw8).ext hEw9).ext hEw10).chg hCw11).chg hCw12).ext hEj14).ext hEj17).ext hEj20).ext hEw53).ext hEw54).ext hEw58)
    have hK45:=((((((((((((((((((hg1.ext hEw1).ext hEw2).ext hEw3).ext hEw4).ext hEw5).ext hEw6).ext hEw7).ext hEw8).ext hEw9).ext hEw10).chg hCw11).chg hCw12).ext hEj14).ext hEj17).ext hEj20).ext hEw53).ext hEw54).ext hEw58)
    have hK46:=((((((((((((((((((hg2.ext hEw1).ext hEw2).ext hEw3).ext hEw4).ext hEw5).ext hEw6).ext hEw7).ext hEw8).ext hEw9).ext hEw10).chg hCw11).chg hCw12).ext hEj14).ext hEj17).ext hEj20).ext hEw53).ext hEw54).ext hEw58)
    refine zx 5 (zp (zcY (zt k) i (za2 e) (mkD e) _ hK43 (by omega) (by omega) (by omega) (zba hO3) (zaV hO3 hLn3) (hib) hK44 hK45 hK46) ?_)
    rintro _ w59 ⟨a13,rfl,hFz22_0,hEw59⟩
    have hzw59:=hEw59.size
    have hlea13:=hFz22_0.le
    rw [show zc4 (zt k) (zaw L3 C3 a1S) i (za2 e) (mkD e)=(zaw L4 C4 a1S) from by rw [hL4,hC4];exact zgu hO3 hLn3 hib] at hFz22_0
    rw [show (zaZ ((zaw L3 C3 a1S).getD (i/4) Un.zero) (i%4))=za1 L3 C3 i from zf4 hO3 hLn3 hib]
    have hX32:Ext w53 w59:=((hEw54.trans hEw58).trans hEw59)
    refine ⟨.inr hX32, ?_⟩
    refine zg (hw:=hX32) hT1065 [(6,80,(.tuple #[(vA [(vI (zt k)),(.slice a13 (tot (zt k)) (tot (zt k)))]),(vI (za1 L3 C3 i)),(vI 0)])),(7,87,(vA [(vI (zt k)),(.slice a13 (tot (zt k)) (tot (zt k)))])),(8,88,(vI (za1 L3 C3 i))),(9,89,(vI 0))] 4 (zx 11 (zG 38 w54.heap.size 0 38 (vA [(vI (zt k)),(.slice a13 (tot (zt k)) (tot (zt k)))]) ([(vI 0),(.slice none 0 0)]) ([(vI (zt k)),(.slice a13 (tot (zt k)) (tot (zt k)))]) (hBw58.ext hEw59) (by kernel_rfl) (by first | decide |(simp;done)|(simp;omega)) (by simp [Value.oneCell']) ?_))
    intro w60 hBw60 hCw60
    have hzw60:=hCw60.size
    rw [zy _ _ (by kernel_rfl)] at hBw60
    have hX33:Ext w53 w60:=(Ext.own ((hEw54.trans hEw58).trans hEw59) hCw60 (by omega))
    refine ⟨.inr hX33, ?_⟩
    exact zg (hw:=hX33) hT1065 [(12,24,(vI (za1 L3 C3 i))),(13,25,(vI 0))] 2 (zE (zz (zm2 (w54.heap.size,a13) (⟨hBw60,((hFz22_0.chg hCw60)).now.mono (by omega) (Nat.le_refl _),by omega,(hEw53.trans hX33)⟩))))
  ·refine zaf ([(vI 0),(.slice none 0 0)]) 38 ?_
   intro w61 hBw61 hEw61 hzw61 hlw61
   refine ⟨.inr hEw61, ?_⟩
   refine zx 3 (zp (zcb e _ (by first | omega | decide | exact UInt8.toNat_lt _)) ?_)
   rintro _ w62 ⟨rfl,hEw62⟩
   have hzw62:=hEw62.size
   have hX34:Ext w53 w62:=(hEw61.trans hEw62)
   refine ⟨.inr hX34, ?_⟩
   have hK47:=(((hM20.ext hEw53).ext hEw61).ext hEw62)
   have hK48:=((((((((((((((((((hg0.ext hEw1).ext hEw2).ext hEw3).ext hEw4).ext hEw5).ext hEw6).ext hEw7).ext hEw8).ext hEw9).ext hEw10).chg hCw11).chg hCw12).ext hEj14).ext hEj17).ext hEj20).ext hEw53).ext hEw61).ext hEw62)
   have hK49:=((((((((((((((((((hg1.ext hEw1).ext hEw2).ext hEw3).ext hEw4).ext hEw5).ext hEw6).ext hEw7).ext hEw8).ext hEw9).ext hEw10).chg hCw11).chg hCw12).ext hEj14).ext hEj17).ext hEj20).ext hEw53).ext hEw61).ext hEw62)
   have hK50:=((((((((((((((((((hg2.ext hEw1).ext hEw2).ext hEw3).ext hEw4).ext hEw5).ext hEw6).ext hEw7).ext hEw8).ext hEw9).ext hEw10).chg hCw11).chg hCw12).ext hEj14).ext hEj17).ext hEj20).ext hEw53).ext hEw61).ext hEw62)
   refine zx 5 (zp (zcY (zt k) i (za2 e) (mkD e) _ hK47 (by omega) (by omega) (by omega) (zba hO3) (zaV hO3 hLn3) (hib) hK48 hK49 hK50) ?_)
   rintro _ w63 ⟨a14,rfl,hFz24_0,hEw63⟩
   have hzw63:=hEw63.size
   have hlea14:=hFz24_0.le
   rw [show zc4 (zt k) (zaw L3 C3 a1S) i (za2 e) (mkD e)=(zaw L4 C4 a1S) from by rw [hL4,hC4];exact zgu hO3 hLn3 hib] at hFz24_0
   rw [show (zaZ ((zaw L3 C3 a1S).getD (i/4) Un.zero) (i%4))=za1 L3 C3 i from zf4 hO3 hLn3 hib]
   have hX35:Ext w53 w63:=((hEw61.trans hEw62).trans hEw63)
   refine ⟨.inr hX35, ?_⟩
   refine zg (hw:=hX35) hT1065 [(6,80,(.tuple #[(vA [(vI (zt k)),(.slice a14 (tot (zt k)) (tot (zt k)))]),(vI (za1 L3 C3 i)),(vI 0)])),(7,87,(vA [(vI (zt k)),(.slice a14 (tot (zt k)) (tot (zt k)))])),(8,88,(vI (za1 L3 C3 i))),(9,89,(vI 0))] 4 (zx 11 (zG 38 w53.heap.size 0 38 (vA [(vI (zt k)),(.slice a14 (tot (zt k)) (tot (zt k)))]) ([(vI 0),(.slice none 0 0)]) ([(vI (zt k)),(.slice a14 (tot (zt k)) (tot (zt k)))]) ((hBw61.ext hEw62).ext hEw63) (by kernel_rfl) (by first | decide |(simp;done)|(simp;omega)) (by simp [Value.oneCell']) ?_))
   intro w64 hBw64 hCw64
   have hzw64:=hCw64.size
   rw [zy _ _ (by kernel_rfl)] at hBw64
   have hX36:Ext w53 w64:=(Ext.own ((hEw61.trans hEw62).trans hEw63) hCw64 (by omega))
   refine ⟨.inr hX36, ?_⟩
   exact zg (hw:=hX36) hT1065 [(12,24,(vI (za1 L3 C3 i))),(13,25,(vI 0))] 2 (zE (zz (zm2 (w53.heap.size,a14) (⟨hBw64,((hFz24_0.chg hCw64)).now.mono (by omega) (Nat.le_refl _),by omega,(hEw53.trans hX36)⟩))))
 rintro ⟨bj23,aj23⟩ dw52 w52 ⟨hJ23,hM23,hJs23,hEj23⟩
 have hzj23:=hEj23.size;have hJl23:=hJ23.lt;have hle23:=hM23.le
 refine ze (ze (zd (zc 2 [(91,(vI 0)),(90,(vI 0))] (za (zo (some 92) .i64 (IntKind.i64.wrap (((0:Nat):Int)+((0:Nat):Int))) 0 (zu) ?_)))))
 refine zc 1 [(93,(vI 0))] (za (zo (some 94) .i64 (IntKind.i64.wrap (((0:Nat):Int)+((0:Nat):Int))) 0 (zu) ?_))
 refine zc 1 [(95,(vI 0))] (za (zo (some 96) .i64 (IntKind.i64.wrap (((0:Nat):Int)+((0:Nat):Int))) 0 (zu) ?_))
 refine za (zae (some 97) (((0:Nat):Int) !=((0:Nat):Int)) false (zax) ?_)
 refine zc 3 [(100,(vI j)),(99,(vI i)),(98,vF)] (za (zae (some 101) (((i:Nat):Int) !=((j:Nat):Int)) false (zax) ?_))
 refine zc 7 [(108,vF),(107,vF),(106,undef),(105,undef),(104,undef),(103,undef),(102,vF)] (zf (zb (zh (zk (zb ?_)))))
 obtain ⟨L5,hL5⟩:∃z,z=L2.set i (zaH L2 C2 i (za2 f) (mkD f)):=⟨_,rfl⟩
 obtain ⟨C5,hC5⟩:∃z,z=C2.set i true:=⟨_,rfl⟩
 have hO5:OkW L5 C5 a1S:=by rw [hL5,hC5];exact hO2.set (by rw [hLn2];exact hib)
 have hLn5:L5.length=zt k:=by rw [hL5,List.length_set];exact hLn2
 refine zqN (X:=Nat×Option Addr) (fun ⟨bj26,aj26⟩=> [(16,(vI 0)),(26,(vP bj26 0)),(27,(vI (za1 a1L a1C i)))]) [109,110,111,112,113,114,115,116,117,118] (fun ⟨bj26,aj26⟩ w65=>Blk w65 bj26 ([(vI (zt k)),(.slice aj26 (tot (zt k)) (tot (zt k)))]) 38∧Ms unC 280 w52.heap.size w65.heap.size w65 aj26 (tot (zt k)) (tot (zt k)) (zaw L5 C5 a1S)∧w52.heap.size≤bj26∧Ext w52 w65) ?_ ?_
 ·refine zab 14 (fun w66 hEw66 hzw66 hT1188=> ?_)
  have hK51:=(((hJ17.ext hEj20).ext hEj23).ext hEw66)
  refine zaO hT1188 0 bj17 0 (fun w' hC=>((hK51.ext hC).all)) (zg hT1188 [(1,111,(vI i)),(2,112,(vB f))] 2 ?_)
  have hK52:=(((((hBw12.ext hEj14).ext hEj17).ext hEj20).ext hEj23).ext hEw66)
  refine zan hT1188 4 w9.heap.size 0 (fun w' hC=>((hK52.ext hC).all)) (zam _) (zbt 3 10 ?_ ?_)
  ·refine zp (zcb f _ (by first | omega | decide | exact UInt8.toNat_lt _)) ?_
   rintro _ w67 ⟨rfl,hEw67⟩
   have hzw67:=hEw67.size
   refine ⟨.inr hEw67, ?_⟩
   refine zbt 5 10 ?_ ?_
   ·have hK53:=((((hM17.ext hEj20).ext hEj23).ext hEw66).ext hEw67)
    have hK54:=((((((((((((((((((hg0.ext hEw1).ext hEw2).ext hEw3).ext hEw4).ext hEw5).ext hEw6).ext hEw7).ext hEw8).ext hEw9).ext hEw10).chg hCw11).chg hCw12).ext hEj14).ext hEj17).ext hEj20).ext hEj23).ext hEw66).ext hEw67)
    have hK55:=((((((((((((((((((hg1.ext hEw1).ext hEw2).ext hEw3).ext hEw4).ext hEw5).ext hEw6).ext hEw7).ext hEw8).ext hEw9).ext hEw10).chg hCw11).chg hCw12).ext hEj14).ext hEj17).ext hEj20).ext hEj23).ext hEw66).ext hEw67)
    have hK56:=((((((((((((((((((hg2.ext hEw1).ext hEw2).ext hEw3).ext hEw4).ext hEw5).ext hEw6).ext hEw7).ext hEw8).ext hEw9).ext hEw10).chg hCw11).chg hCw12).ext hEj14).ext hEj17).ext hEj20).ext hEj23).ext hEw66).ext hEw67)
    refine zp (zcY (zt k) i (za2 f) (mkD f) _ hK53 (by omega) (by omega) (by omega) (zba hO2) (zaV hO2 hLn2) (hib) hK54 hK55 hK56) ?_
    rintro _ w68 ⟨a15,rfl,hFz26_0,hEw68⟩
    have hzw68:=hEw68.size
    have hlea15:=hFz26_0.le
    rw [show zc4 (zt k) (zaw L2 C2 a1S) i (za2 f) (mkD f)=(zaw L5 C5 a1S) from by rw [hL5,hC5];exact zgu hO2 hLn2 hib] at hFz26_0
    rw [show (zaZ ((zaw L2 C2 a1S).getD (i/4) Un.zero) (i%4))=za1 a1L a1C i from (zf4 hO2 hLn2 hib).trans hkp]
    have hX37:Ext w66 w68:=(hEw67.trans hEw68)
    refine ⟨.inr hX37, ?_⟩
    refine zg (hw:=hX37) hT1188 [(6,109,(.tuple #[(vA [(vI (zt k)),(.slice a15 (tot (zt k)) (tot (zt k)))]),(vI (za1 a1L a1C i)),(vI 0)])),(7,116,(vA [(vI (zt k)),(.slice a15 (tot (zt k)) (tot (zt k)))])),(8,117,(vI (za1 a1L a1C i))),(9,118,(vI 0))] 4 (zx 10 (zaf ([(vI 0),(.slice none 0 0)]) 38 ?_))
    intro w69 hBw69 hEw69 hzw69 hlw69
    have hX38:Ext w66 w69:=((hEw67.trans hEw68).trans hEw69)
    refine ⟨.inr hX38, ?_⟩
    refine zx 11 (zG 38 w68.heap.size 0 38 (vA [(vI (zt k)),(.slice a15 (tot (zt k)) (tot (zt k)))]) ([(vI 0),(.slice none 0 0)]) ([(vI (zt k)),(.slice a15 (tot (zt k)) (tot (zt k)))]) hBw69 (by kernel_rfl) (by first | decide |(simp;done)|(simp;omega)) (by simp [Value.oneCell']) ?_)
    intro w70 hBw70 hCw70
    have hzw70:=hCw70.size
    rw [zy _ _ (by kernel_rfl)] at hBw70
    have hX39:Ext w66 w70:=(Ext.own ((hEw67.trans hEw68).trans hEw69) hCw70 (by omega))
    refine ⟨.inr hX39, ?_⟩
    exact zg (hw:=hX39) hT1188 [(12,27,(vI (za1 a1L a1C i))),(13,16,(vI 0))] 2 (zE (zz (zm2 (w68.heap.size,a15) (⟨hBw70,(((hFz26_0.ext hEw69).chg hCw70)).now.mono (by omega) (Nat.le_refl _),by omega,(hEw66.trans hX39)⟩))))
   ·refine zaf ([(vI 0),(.slice none 0 0)]) 38 ?_
    intro w71 hBw71 hEw71 hzw71 hlw71
    have hX40:Ext w66 w71:=(hEw67.trans hEw71)
    refine ⟨.inr hX40, ?_⟩
    have hK57:=(((((hM17.ext hEj20).ext hEj23).ext hEw66).ext hEw67).ext hEw71)
    have hK58:=(((((((((((((((((((hg0.ext hEw1).ext hEw2).ext hEw3).ext hEw4).ext hEw5).ext hEw6).ext hEw7).ext hEw8).ext hEw9).ext hEw10).chg hCw11).chg hCw12).ext hEj14).ext hEj17).ext hEj20).ext hEj23).ext hEw66).ext hEw67).ext hEw71)
    have hK59:=(((((((((((((((((((hg1.ext hEw1).ext hEw2).ext hEw3).ext hEw4).ext hEw5).ext hEw6).ext hEw7).ext hEw8).ext hEw9).ext hEw10).chg hCw11).chg hCw12).ext hEj14).ext hEj17).ext hEj20).ext hEj23).ext hEw66).ext hEw67).ext hEw71)
    have hK60:=(((((((((((((((((((hg2.ext hEw1).ext hEw2).ext hEw3).ext hEw4).ext hEw5).ext hEw6).ext hEw7).ext hEw8).ext hEw9).ext hEw10).chg hCw11).chg hCw12).ext hEj14).ext hEj17).ext hEj20).ext hEj23).ext hEw66).ext hEw67).ext hEw71)
    refine zx 5 (zp (zcY (zt k) i (za2 f) (mkD f) _ hK57 (by omega) (by omega) (by omega) (zba hO2) (zaV hO2 hLn2) (hib) hK58 hK59 hK60) ?_)
    rintro _ w72 ⟨a16,rfl,hFz27_0,hEw72⟩
    have hzw72:=hEw72.size
    have hlea16:=hFz27_0.le
    rw [show zc4 (zt k) (zaw L2 C2 a1S) i (za2 f) (mkD f)=(zaw L5 C5 a1S) from by rw [hL5,hC5];exact zgu hO2 hLn2 hib] at hFz27_0
    rw [show (zaZ ((zaw L2 C2 a1S).getD (i/4) Un.zero) (i%4))=za1 a1L a1C i from (zf4 hO2 hLn2 hib).trans hkp]
    have hX41:Ext w66 w72:=((hEw67.trans hEw71).trans hEw72)
    refine ⟨.inr hX41, ?_⟩
    refine zg (hw:=hX41) hT1188 [(6,109,(.tuple #[(vA [(vI (zt k)),(.slice a16 (tot (zt k)) (tot (zt k)))]),(vI (za1 a1L a1C i)),(vI 0)])),(7,116,(vA [(vI (zt k)),(.slice a16 (tot (zt k)) (tot (zt k)))])),(8,117,(vI (za1 a1L a1C i))),(9,118,(vI 0))] 4 (zx 11 (zG 38 w67.heap.size 0 38 (vA [(vI (zt k)),(.slice a16 (tot (zt k)) (tot (zt k)))]) ([(vI 0),(.slice none 0 0)]) ([(vI (zt k)),(.slice a16 (tot (zt k)) (tot (zt k)))]) (hBw71.ext hEw72) (by kernel_rfl) (by first | decide |(simp;done)|(simp;omega)) (by simp [Value.oneCell']) ?_))
    intro w73 hBw73 hCw73
    have hzw73:=hCw73.size
    rw [zy _ _ (by kernel_rfl)] at hBw73
    have hX42:Ext w66 w73:=(Ext.own ((hEw67.trans hEw71).trans hEw72) hCw73 (by omega))
    refine ⟨.inr hX42, ?_⟩
    exact zg (hw:=hX42) hT1188 [(12,27,(vI (za1 a1L a1C i))),(13,16,(vI 0))] 2 (zE (zz (zm2 (w67.heap.size,a16) (⟨hBw73,((hFz27_0.chg hCw73)).now.mono (by omega) (Nat.le_refl _),by omega,(hEw66.trans hX42)⟩))))
  ·refine zaf ([(vI 0),(.slice none 0 0)]) 38 ?_
   intro w74 hBw74 hEw74 hzw74 hlw74
   refine ⟨.inr hEw74, ?_⟩
   refine zx 3 (zp (zcb f _ (by first | omega | decide | exact UInt8.toNat_lt _)) ?_)
   rintro _ w75 ⟨rfl,hEw75⟩
   have hzw75:=hEw75.size
   have hX43:Ext w66 w75:=(hEw74.trans hEw75)
   refine ⟨.inr hX43, ?_⟩
   have hK61:=(((((hM17.ext hEj20).ext hEj23).ext hEw66).ext hEw74).ext hEw75)
   have hK62:=(((((((((((((((((((hg0.ext hEw1).ext hEw2).ext hEw3).ext hEw4).ext hEw5).ext hEw6).ext hEw7).ext hEw8).ext hEw9).ext hEw10).chg hCw11).chg hCw12).ext hEj14).ext hEj17).ext hEj20).ext hEj23).ext hEw66).ext hEw74).ext hEw75)
   have hK63:=(((((((((((((((((((hg1.ext hEw1).ext hEw2).ext hEw3).ext hEw4).ext hEw5).ext hEw6).ext hEw7).ext hEw8).ext hEw9).ext hEw10).chg hCw11).chg hCw12).ext hEj14).ext hEj17).ext hEj20).ext hEj23).ext hEw66).ext hEw74).ext hEw75)
   have hK64:=(((((((((((((((((((hg2.ext hEw1).ext hEw2).ext hEw3).ext hEw4).ext hEw5).ext hEw6).ext hEw7).ext hEw8).ext hEw9).ext hEw10).chg hCw11).chg hCw12).ext hEj14).ext hEj17).ext hEj20).ext hEj23).ext hEw66).ext hEw74).ext hEw75)
   refine zx 5 (zp (zcY (zt k) i (za2 f) (mkD f) _ hK61 (by omega) (by omega) (by omega) (zba hO2) (zaV hO2 hLn2) (hib) hK62 hK63 hK64) ?_)
   rintro _ w76 ⟨a17,rfl,hFz29_0,hEw76⟩
   have hzw76:=hEw76.size
   have hlea17:=hFz29_0.le
   rw [show zc4 (zt k) (zaw L2 C2 a1S) i (za2 f) (mkD f)=(zaw L5 C5 a1S) from by rw [hL5,hC5];exact zgu hO2 hLn2 hib] at hFz29_0
   rw [show (zaZ ((zaw L2 C2 a1S).getD (i/4) Un.zero) (i%4))=za1 a1L a1C i from (zf4 hO2 hLn2 hib).trans hkp]
   have hX44:Ext w66 w76:=((hEw74.trans hEw75).trans hEw76)
   refine ⟨.inr hX44, ?_⟩
   refine zg (hw:=hX44) hT1188 [(6,109,(.tuple #[(vA [(vI (zt k)),(.slice a17 (tot (zt k)) (tot (zt k)))]),(vI (za1 a1L a1C i)),(vI 0)])),(7,116,(vA [(vI (zt k)),(.slice a17 (tot (zt k)) (tot (zt k)))])),(8,117,(vI (za1 a1L a1C i))),(9,118,(vI 0))] 4 (zx 11 (zG 38 w66.heap.size 0 38 (vA [(vI (zt k)),(.slice a17 (tot (zt k)) (tot (zt k)))]) ([(vI 0),(.slice none 0 0)]) ([(vI (zt k)),(.slice a17 (tot (zt k)) (tot (zt k)))]) ((hBw74.ext hEw75).ext hEw76) (by kernel_rfl) (by first | decide |(simp;done)|(simp;omega)) (by simp [Value.oneCell']) ?_))
   intro w77 hBw77 hCw77
   have hzw77:=hCw77.size
   rw [zy _ _ (by kernel_rfl)] at hBw77
   have hX45:Ext w66 w77:=(Ext.own ((hEw74.trans hEw75).trans hEw76) hCw77 (by omega))
   refine ⟨.inr hX45, ?_⟩
   exact zg (hw:=hX45) hT1188 [(12,27,(vI (za1 a1L a1C i))),(13,16,(vI 0))] 2 (zE (zz (zm2 (w66.heap.size,a17) (⟨hBw77,((hFz29_0.chg hCw77)).now.mono (by omega) (Nat.le_refl _),by omega,(hEw66.trans hX45)⟩))))
 rintro ⟨bj26,aj26⟩ dw65 w65 ⟨hJ26,hM26,hJs26,hEj26⟩
 have hzj26:=hEj26.size;have hJl26:=hJ26.lt;have hle26:=hM26.le
 refine ze (zd (za (zO bj26 0 (hJ26.all) ?_)))
 have hK65:=(((((((((((((((((hg0.ext hEw1).ext hEw2).ext hEw3).ext hEw4).ext hEw5).ext hEw6).ext hEw7).ext hEw8).ext hEw9).ext hEw10).chg hCw11).chg hCw12).ext hEj14).ext hEj17).ext hEj20).ext hEj23).ext hEj26)
 have hK66:=(((((((((((((((((hg1.ext hEw1).ext hEw2).ext hEw3).ext hEw4).ext hEw5).ext hEw6).ext hEw7).ext hEw8).ext hEw9).ext hEw10).chg hCw11).chg hCw12).ext hEj14).ext hEj17).ext hEj20).ext hEj23).ext hEj26)
 have hK67:=(((((((((((((((((hg2.ext hEw1).ext hEw2).ext hEw3).ext hEw4).ext hEw5).ext hEw6).ext hEw7).ext hEw8).ext hEw9).ext hEw10).chg hCw11).chg hCw12).ext hEj14).ext hEj17).ext hEj20).ext hEj23).ext hEj26)
 refine za (zp (zeo (zt k) _ hM26 (by omega) (by omega) (by omega) (zba hO5) (zaV hO5 hLn5) hK65 hK66 hK67) ?_)
 rintro _ w78 ⟨a18,rfl,hFz30_0,hEw78⟩
 have hzw78:=hEw78.size
 have hlea18:=hFz30_0.le
 have hO6:=hO5.pubN hLn5
 rw [show zc8 (tot (zt k)) (zaw L5 C5 a1S)=(zaw L5 (fls (zt k)) (zcT (zt k) C5 a1S)) from zkP hO5 hLn5] at hFz30_0
 refine zc 3 [(123,(vI 0)),(122,(vA [(vI (zt k)),(.slice a18 (tot (zt k)) (tot (zt k)))])),(119,(.tuple #[(vA [(vI (zt k)),(.slice a18 (tot (zt k)) (tot (zt k)))]),(vI 0)]))] (zal ([(vI (zt k)),(.slice a18 (tot (zt k)) (tot (zt k)))]) 38 rfl (by simp [Value.oneCell']) ?_)
 intro w79 hBw79 hEw79 hzw79 hlw79
 refine zc 1 [(19,(vI 0))] (zf (zb ?_))
 obtain ⟨L7,hL7⟩:∃z,z=L5.set i (zaH L5 (fls (zt k)) i (za2 e) (mkD e)):=⟨_,rfl⟩
 obtain ⟨C7,hC7⟩:∃z,z=(fls (zt k)).set i true:=⟨_,rfl⟩
 have hO7:OkW L7 C7 (zcT (zt k) C5 a1S):=by rw [hL7,hC7];exact hO6.set (by rw [hLn5];exact hib)
 have hLn7:L7.length=zt k:=by rw [hL7,List.length_set];exact hLn5
 refine zqN (X:=Nat×Option Addr) (fun ⟨bj29,aj29⟩=> [(22,(vI 0)),(29,(vP bj29 0)),(30,(vI (1-za1 a1L a1C i)))]) [124,125,126,127,128,129,130,131,132,133] (fun ⟨bj29,aj29⟩ w80=>Blk w80 bj29 ([(vI (zt k)),(.slice aj29 (tot (zt k)) (tot (zt k)))]) 38∧Ms unC 280 w79.heap.size w80.heap.size w80 aj29 (tot (zt k)) (tot (zt k)) (zaw L7 C7 (zcT (zt k) C5 a1S))∧w79.heap.size≤bj29∧Ext w79 w80) ?_ ?_
 ·refine zab 14 (fun w81 hEw81 hzw81 hT1313=> ?_)
  refine zaO hT1313 0 w78.heap.size 0 (fun w' hC=>(((hBw79.ext hEw81).ext hC).all)) (zg hT1313 [(1,126,(vI i)),(2,127,(vB e))] 2 ?_)
  have hK68:=(((((((((hBw11.chg hCw12).ext hEj14).ext hEj17).ext hEj20).ext hEj23).ext hEj26).ext hEw78).ext hEw79).ext hEw81)
  refine zan hT1313 4 w8.heap.size 0 (fun w' hC=>((hK68.ext hC).all)) (zam _) (zbt 3 10 ?_ ?_)
  ·refine zp (zcb e _ (by first | omega | decide | exact UInt8.toNat_lt _)) ?_
   rintro _ w82 ⟨rfl,hEw82⟩
   have hzw82:=hEw82.size
   refine ⟨.inr hEw82, ?_⟩
   refine zbt 5 10 ?_ ?_
   ·have hK69:=(((hFz30_0.ext hEw79).ext hEw81).ext hEw82)
    have hK70:=((((hK65.ext hEw78).ext hEw79).ext hEw81).ext hEw82)
    have hK71:=((((hK66.ext hEw78).ext hEw79).ext hEw81).ext hEw82)
    have hK72:=((((hK67.ext hEw78).ext hEw79).ext hEw81).ext hEw82)
    refine zp (zcY (zt k) i (za2 e) (mkD e) _ hK69 (by omega) (by omega) (by omega) (zba hO6) (zaV hO6 hLn5) (hib) hK70 hK71 hK72) ?_
    rintro _ w83 ⟨a19,rfl,hFz32_0,hEw83⟩
    have hzw83:=hEw83.size
    have hlea19:=hFz32_0.le
    rw [show zc4 (zt k) (zaw L5 (fls (zt k)) (zcT (zt k) C5 a1S)) i (za2 e) (mkD e)=(zaw L7 C7 (zcT (zt k) C5 a1S)) from by rw [hL7,hC7];exact zgu hO6 hLn5 hib] at hFz32_0
    rw [show (zaZ ((zaw L5 (fls (zt k)) (zcT (zt k) C5 a1S)).getD (i/4) Un.zero) (i%4))=(1-za1 a1L a1C i) from (zf4 hO6 hLn5 hib).trans (by rw [hL5,zwP hO2 hLn2 hib,hkp])]
    have hX46:Ext w81 w83:=(hEw82.trans hEw83)
    refine ⟨.inr hX46, ?_⟩
    refine zg (hw:=hX46) hT1313 [(6,124,(.tuple #[(vA [(vI (zt k)),(.slice a19 (tot (zt k)) (tot (zt k)))]),(vI (1-za1 a1L a1C i)),(vI 0)])),(7,131,(vA [(vI (zt k)),(.slice a19 (tot (zt k)) (tot (zt k)))])),(8,132,(vI (1-za1 a1L a1C i))),(9,133,(vI 0))] 4 (zx 10 (zaf ([(vI 0),(.slice none 0 0)]) 38 ?_))
    intro w84 hBw84 hEw84 hzw84 hlw84
    have hX47:Ext w81 w84:=((hEw82.trans hEw83).trans hEw84)
    refine ⟨.inr hX47, ?_⟩
    refine zx 11 (zG 38 w83.heap.size 0 38 (vA [(vI (zt k)),(.slice a19 (tot (zt k)) (tot (zt k)))]) ([(vI 0),(.slice none 0 0)]) ([(vI (zt k)),(.slice a19 (tot (zt k)) (tot (zt k)))]) hBw84 (by kernel_rfl) (by first | decide |(simp;done)|(simp;omega)) (by simp [Value.oneCell']) ?_)
    intro w85 hBw85 hCw85
    have hzw85:=hCw85.size
    rw [zy _ _ (by kernel_rfl)] at hBw85
    have hX48:Ext w81 w85:=(Ext.own ((hEw82.trans hEw83).trans hEw84) hCw85 (by omega))
    refine ⟨.inr hX48, ?_⟩
    exact zg (hw:=hX48) hT1313 [(12,30,(vI (1-za1 a1L a1C i))),(13,22,(vI 0))] 2 (zE (zz (zm2 (w83.heap.size,a19) (⟨hBw85,(((hFz32_0.ext hEw84).chg hCw85)).now.mono (by omega) (Nat.le_refl _),by omega,(hEw81.trans hX48)⟩))))
   ·refine zaf ([(vI 0),(.slice none 0 0)]) 38 ?_
    intro w86 hBw86 hEw86 hzw86 hlw86
    have hX49:Ext w81 w86:=(hEw82.trans hEw86)
    refine ⟨.inr hX49, ?_⟩
    have hK73:=((((hFz30_0.ext hEw79).ext hEw81).ext hEw82).ext hEw86)
    have hK74:=(((((hK65.ext hEw78).ext hEw79).ext hEw81).ext hEw82).ext hEw86)
    have hK75:=(((((hK66.ext hEw78).ext hEw79).ext hEw81).ext hEw82).ext hEw86)
    have hK76:=(((((hK67.ext hEw78).ext hEw79).ext hEw81).ext hEw82).ext hEw86)
    refine zx 5 (zp (zcY (zt k) i (za2 e) (mkD e) _ hK73 (by omega) (by omega) (by omega) (zba hO6) (zaV hO6 hLn5) (hib) hK74 hK75 hK76) ?_)
    rintro _ w87 ⟨a20,rfl,hFz33_0,hEw87⟩
    have hzw87:=hEw87.size
    have hlea20:=hFz33_0.le
    rw [show zc4 (zt k) (zaw L5 (fls (zt k)) (zcT (zt k) C5 a1S)) i (za2 e) (mkD e)=(zaw L7 C7 (zcT (zt k) C5 a1S)) from by rw [hL7,hC7];exact zgu hO6 hLn5 hib] at hFz33_0
    rw [show (zaZ ((zaw L5 (fls (zt k)) (zcT (zt k) C5 a1S)).getD (i/4) Un.zero) (i%4))=(1-za1 a1L a1C i) from (zf4 hO6 hLn5 hib).trans (by rw [hL5,zwP hO2 hLn2 hib,hkp])]
    have hX50:Ext w81 w87:=((hEw82.trans hEw86).trans hEw87)
    refine ⟨.inr hX50, ?_⟩
    refine zg (hw:=hX50) hT1313 [(6,124,(.tuple #[(vA [(vI (zt k)),(.slice a20 (tot (zt k)) (tot (zt k)))]),(vI (1-za1 a1L a1C i)),(vI 0)])),(7,131,(vA [(vI (zt k)),(.slice a20 (tot (zt k)) (tot (zt k)))])),(8,132,(vI (1-za1 a1L a1C i))),(9,133,(vI 0))] 4 (zx 11 (zG 38 w82.heap.size 0 38 (vA [(vI (zt k)),(.slice a20 (tot (zt k)) (tot (zt k)))]) ([(vI 0),(.slice none 0 0)]) ([(vI (zt k)),(.slice a20 (tot (zt k)) (tot (zt k)))]) (hBw86.ext hEw87) (by kernel_rfl) (by first | decide |(simp;done)|(simp;omega)) (by simp [Value.oneCell']) ?_))
    intro w88 hBw88 hCw88
    have hzw88:=hCw88.size
    rw [zy _ _ (by kernel_rfl)] at hBw88
    have hX51:Ext w81 w88:=(Ext.own ((hEw82.trans hEw86).trans hEw87) hCw88 (by omega))
    refine ⟨.inr hX51, ?_⟩
    exact zg (hw:=hX51) hT1313 [(12,30,(vI (1-za1 a1L a1C i))),(13,22,(vI 0))] 2 (zE (zz (zm2 (w82.heap.size,a20) (⟨hBw88,((hFz33_0.chg hCw88)).now.mono (by omega) (Nat.le_refl _),by omega,(hEw81.trans hX51)⟩))))
  ·refine zaf ([(vI 0),(.slice none 0 0)]) 38 ?_
   intro w89 hBw89 hEw89 hzw89 hlw89
   refine ⟨.inr hEw89, ?_⟩
   refine zx 3 (zp (zcb e _ (by first | omega | decide | exact UInt8.toNat_lt _)) ?_)
   rintro _ w90 ⟨rfl,hEw90⟩
   have hzw90:=hEw90.size
   have hX52:Ext w81 w90:=(hEw89.trans hEw90)
   refine ⟨.inr hX52, ?_⟩
   have hK77:=((((hFz30_0.ext hEw79).ext hEw81).ext hEw89).ext hEw90)
   have hK78:=(((((hK65.ext hEw78).ext hEw79).ext hEw81).ext hEw89).ext hEw90)
   have hK79:=(((((hK66.ext hEw78).ext hEw79).ext hEw81).ext hEw89).ext hEw90)
   have hK80:=(((((hK67.ext hEw78).ext hEw79).ext hEw81).ext hEw89).ext hEw90)
   refine zx 5 (zp (zcY (zt k) i (za2 e) (mkD e) _ hK77 (by omega) (by omega) (by omega) (zba hO6) (zaV hO6 hLn5) (hib) hK78 hK79 hK80) ?_)
   rintro _ w91 ⟨a21,rfl,hFz35_0,hEw91⟩
   have hzw91:=hEw91.size
   have hlea21:=hFz35_0.le
   rw [show zc4 (zt k) (zaw L5 (fls (zt k)) (zcT (zt k) C5 a1S)) i (za2 e) (mkD e)=(zaw L7 C7 (zcT (zt k) C5 a1S)) from by rw [hL7,hC7];exact zgu hO6 hLn5 hib] at hFz35_0
   rw [show (zaZ ((zaw L5 (fls (zt k)) (zcT (zt k) C5 a1S)).getD (i/4) Un.zero) (i%4))=(1-za1 a1L a1C i) from (zf4 hO6 hLn5 hib).trans (by rw [hL5,zwP hO2 hLn2 hib,hkp])]
   have hX53:Ext w81 w91:=((hEw89.trans hEw90).trans hEw91)
   refine ⟨.inr hX53, ?_⟩
   refine zg (hw:=hX53) hT1313 [(6,124,(.tuple #[(vA [(vI (zt k)),(.slice a21 (tot (zt k)) (tot (zt k)))]),(vI (1-za1 a1L a1C i)),(vI 0)])),(7,131,(vA [(vI (zt k)),(.slice a21 (tot (zt k)) (tot (zt k)))])),(8,132,(vI (1-za1 a1L a1C i))),(9,133,(vI 0))] 4 (zx 11 (zG 38 w81.heap.size 0 38 (vA [(vI (zt k)),(.slice a21 (tot (zt k)) (tot (zt k)))]) ([(vI 0),(.slice none 0 0)]) ([(vI (zt k)),(.slice a21 (tot (zt k)) (tot (zt k)))]) ((hBw89.ext hEw90).ext hEw91) (by kernel_rfl) (by first | decide |(simp;done)|(simp;omega)) (by simp [Value.oneCell']) ?_))
   intro w92 hBw92 hCw92
   have hzw92:=hCw92.size
   rw [zy _ _ (by kernel_rfl)] at hBw92
   have hX54:Ext w81 w92:=(Ext.own ((hEw89.trans hEw90).trans hEw91) hCw92 (by omega))
   refine ⟨.inr hX54, ?_⟩
   exact zg (hw:=hX54) hT1313 [(12,30,(vI (1-za1 a1L a1C i))),(13,22,(vI 0))] 2 (zE (zz (zm2 (w81.heap.size,a21) (⟨hBw92,((hFz35_0.chg hCw92)).now.mono (by omega) (Nat.le_refl _),by omega,(hEw81.trans hX54)⟩))))
 rintro ⟨bj29,aj29⟩ dw80 w80 ⟨hJ29,hM29,hJs29,hEj29⟩
 have hzj29:=hEj29.size;have hJl29:=hJ29.lt;have hle29:=hM29.le
 refine ze (zd (zc 2 [(135,(vI 0)),(134,(vI 0))] (za (zo (some 136) .i64 (IntKind.i64.wrap (((0:Nat):Int)+((0:Nat):Int))) 0 (zu) ?_))))
 refine zc 1 [(137,(vI 0))] (za (zo (some 138) .i64 (IntKind.i64.wrap (((0:Nat):Int)+((0:Nat):Int))) 0 (zu) ?_))
 refine za (zae (some 139) (((0:Nat):Int)==((0:Nat):Int)) true (zaq) ?_)
 refine zc 3 [(142,(vI (za1 a1L a1C i))),(141,(vI (za1 a1L a1C i))),(140,vT)] (za (zae (some 143) (((za1 a1L a1C i:Nat):Int)==((za1 a1L a1C i:Nat):Int)) true (zaq) ?_))
 refine zc 4 [(147,(vI (za1 a1L a1C i))),(146,(vI (1-za1 a1L a1C i))),(145,vT),(144,vT)] ?_
 have htl:=zsY hO (b:=i) (by rw [hLn];exact hib)
 refine za (zo (some 148) .i64 (IntKind.i64.wrap (((1:Nat):Int)-((za1 a1L a1C i:Nat):Int))) (1-za1 a1L a1C i) (zu) ?_)
 refine za (zae (some 149) ((((1-za1 a1L a1C i):Nat):Int)==((1-za1 a1L a1C i:Nat):Int)) true (zaq) ?_)
 refine zc 3 [(152,(vI (za1 a1L a1C i))),(151,vT),(150,vT)] ?_
 have hK81:=(((((((((((((((((hBw3.ext hEw4).ext hEw5).ext hEw6).ext hEw7).ext hEw8).ext hEw9).ext hEw10).chg hCw11).chg hCw12).ext hEj14).ext hEj17).ext hEj20).ext hEj23).ext hEj26).ext hEw78).ext hEw79).ext hEj29)
 refine za (zO w2.heap.size 0 (hK81.all) ?_)
 refine zc 1 [(154,(vI i))] ?_
 have hK82:=((((((((((((((((((hFz1_2.ext hEw3).ext hEw4).ext hEw5).ext hEw6).ext hEw7).ext hEw8).ext hEw9).ext hEw10).chg hCw11).chg hCw12).ext hEj14).ext hEj17).ext hEj20).ext hEj23).ext hEj26).ext hEw78).ext hEw79).ext hEj29)
 have hK83:=((((((((((((((((((hFz1_3.ext hEw3).ext hEw4).ext hEw5).ext hEw6).ext hEw7).ext hEw8).ext hEw9).ext hEw10).chg hCw11).chg hCw12).ext hEj14).ext hEj17).ext hEj20).ext hEj23).ext hEj26).ext hEw78).ext hEw79).ext hEj29)
 have hK84:=((((((((((((((((((hFz1_4.ext hEw3).ext hEw4).ext hEw5).ext hEw6).ext hEw7).ext hEw8).ext hEw9).ext hEw10).chg hCw11).chg hCw12).ext hEj14).ext hEj17).ext hEj20).ext hEj23).ext hEj26).ext hEw78).ext hEw79).ext hEj29)
 refine za (zp (zoY i _ hK82 hK83 hK84 (hib) (by omega) (hO.st2 (by rw [hLn];exact hib))) ?_)
 rintro _ w93 ⟨rfl,hEw93⟩
 have hzw93:=hEw93.size
 refine za (zae (some 156) (((za1 a1L a1C i:Nat):Int)==((za1 a1L a1C i:Nat):Int)) true (zaq) ?_)
 refine zc 2 [(158,vT),(157,vT)] ?_
 have hK85:=((((hK65.ext hEw78).ext hEw79).ext hEj29).ext hEw93)
 have hK86:=((((hK66.ext hEw78).ext hEw79).ext hEj29).ext hEw93)
 have hK87:=((((hK67.ext hEw78).ext hEw79).ext hEj29).ext hEw93)
 have hK88:=(((((((((((((((((((((hg3.ext hEw1).ext hEw2).ext hEw3).ext hEw4).ext hEw5).ext hEw6).ext hEw7).ext hEw8).ext hEw9).ext hEw10).chg hCw11).chg hCw12).ext hEj14).ext hEj17).ext hEj20).ext hEj23).ext hEj26).ext hEw78).ext hEw79).ext hEj29).ext hEw93)
 refine za (zp (zpJ _ hK85 hK86 hK87 hK88) ?_)
 rintro _ w94 ⟨rfl,hEw94⟩
 have hzw94:=hEw94.size
 refine zc 2 [(6,vT),(160,vT)] (zf (zb (zj (zl vT ?_))))
 have hX55:Ext w w94:=(((((((((((Ext.own (Ext.own (((((((((hEw1.trans hEw2).trans hEw3).trans hEw4).trans hEw5).trans hEw6).trans hEw7).trans hEw8).trans hEw9).trans hEw10) hCw11 (by omega)) hCw12 (by omega)).trans hEj14).trans hEj17).trans hEj20).trans hEj23).trans hEj26).trans hEw78).trans hEw79).trans hEj29).trans hEw93).trans hEw94)
 exact ⟨rfl,hX55⟩
theorem zzj (k:Nat) {lo_p hi_p:Nat} {a_p:Option Addr} {n_p c_p:Nat} {p:List (UInt8×UInt8)} {lo_s hi_s:Nat} {a_s:Option Addr} {n_s c_s:Nat} {s:List UInt8} {lo_q hi_q:Nat} {a_q:Option Addr} {n_q c_q:Nat} {q:List (UInt8×UInt8)} (e:Nat) (f:Nat) (w:World) (h_p:Ms b2C 2 lo_p hi_p w a_p n_p c_p p) (h_s:Bs lo_s hi_s w a_s n_s c_s s) (h_q:Ms b2C 2 lo_q hi_q w a_q n_q c_q q) (hp0:k<256) (hp1:e<256) (hp2:f<256) (hg0:Gl 0 [vI 45,vI 33] w) (hg1:Gl 1 (w8C zbp) w) (hg2:Gl 3 (zay kA) w) (hg3:Gl 2 [.iface 227 (.agg #[.pointer (some ⟨4,160,none⟩)])] w):
  Calls Tryz.prog 4 #[(vA [(vB k),(.slice a_p n_p c_p),(.slice a_s n_s c_s),(.slice a_q n_q c_q)]),(vB e),(vB f)] w (Ret fun r w'=>r=vT∧Ext w w'):=by
 by_cases h:e%zt k=f%zt k
 ·exact zzl k e f w h_p h_s h_q hp0 hp1 hp2 h hg0 hg1 hg2 hg3
 ·exact zzm k e f w h_p h_s h_q hp0 hp1 hp2 h hg0 hg1 hg2 hg3
end Go.Proofs.YtkmhgepdhilllaaGreatDoor
namespace Go.Cs
open Go Go.ChangeShapes Go.WideShapes Go.ChangeAt Go.RowKit
section
variable {H:Type} {enc:TypeId×Value→H} {P:Program} {W:World} {base:Nat} {sp:Nat→Bool} {held:Bool}
def Rd (enc:TypeId×Value→H) (P:Program) (W:World) (base:Nat) (sp:Nat→Bool) (held:Bool) (t:TypeId) (cs:List Value):Prop:=∃fuel r,DataW.trod enc P W base sp held fuel t cs=some r
theorem zfq {α β:Type} {f:α→Option β}:∀{xs:List α} {ys:List β},xs.mapM f=some ys→∀x∈xs,∃y,f x=some y
 | [],_,_,x,hx=>by simp at hx
 | a::xs,ys,h,x,hx=>by
  simp only [List.mapM_cons,Option.bind_eq_bind,Option.bind_eq_some_iff] at h
  obtain ⟨y,hy,zs,hz,_⟩:=h
  rcases List.mem_cons.1 hx with rfl | hx
  ·exact ⟨y,hy⟩
  ·exact zfq hz x hx
theorem zds {t:TypeId} {k:IntKind} {cs:List Value} (h:Rd enc P W base sp held t cs) (ht:P.underlying t=some (.int k)):∃n,cs= [.int k n]∧(Lit.int k n).wf=true:=by
 obtain ⟨fuel,r,hf⟩:=h
 obtain ⟨n,h1,_,h3⟩:=DataW.trod_int ht hf
 exact ⟨n,h1,h3⟩
theorem zb6 {t:TypeId} {cs:List Value} {x:Bool×TypeId×Nat} {xs:List (Bool×TypeId×Nat)} (h:Rd enc P W base sp held t cs) (hF:zav P t=x::xs):
  cs.length=P.cellsOf t∧∀y∈x::xs,Rd enc P W base sp held y.2.1 ((cs.drop y.2.2).take (P.cellsOf y.2.1)):=by
 obtain ⟨fuel,r,hf⟩:=h
 have hu:=zcN ⟨x,xs,hF⟩
 cases fuel with
 | zero=>simp [DataW.trod] at hf
 | succ fuel=>
  rw [DataW.trod.eq_def] at hf
  simp only [hu] at hf
  split at hf
  ·next hl=>
   refine ⟨hl,fun y hy=> ?_⟩
   simp only [Option.map_eq_some_iff] at hf
   obtain ⟨zs,hz,_⟩:=hf
   rw [←hF,zav,List.mem_map] at hy
   obtain ⟨f,hf1,rfl⟩:=hy
   obtain ⟨z,hz2⟩:=zfq hz f hf1
   exact ⟨fuel,z,hz2⟩
  ·cases hf
theorem zd2 {t e:TypeId} {n:Nat} {cs:List Value} (h:Rd enc P W base sp held t cs) (hu:P.underlying t=some (.array n e)):
  cs.length=P.cellsOf t∧∀i,i<n→Rd enc P W base sp held e ((cs.drop (i*P.cellsOf e)).take (P.cellsOf e)):=by
 obtain ⟨fuel,r,hf⟩:=h
 cases fuel with
 | zero=>simp [DataW.trod] at hf
 | succ fuel=>
  rw [DataW.trod.eq_def] at hf
  simp only [hu] at hf
  split at hf
  ·next hl=>
   refine ⟨hl,fun i hi=> ?_⟩
   simp only [Option.map_eq_some_iff] at hf
   obtain ⟨zs,hz,_⟩:=hf
   obtain ⟨z,hz2⟩:=zfq hz i (List.mem_range.2 hi)
   exact ⟨fuel,z,hz2⟩
  ·cases hf
theorem zck {t:TypeId} {k:IntKind} {cs:List Value} (h:Rd enc P W base sp held t cs) (ht:P.underlying t=some (.int k)) (h0:∀n,(Lit.int k n).wf=true→0≤n∧n<2^k.bits):∃n:Nat,cs= [.int k (n:Int)]∧n<2^k.bits:=by
 obtain ⟨n,h1,h2⟩:=zds h ht
 obtain ⟨h3,h4⟩:=h0 n h2
 obtain ⟨m,rfl⟩:=Int.eq_ofNat_of_zero_le h3
 exact ⟨m,h1,by exact_mod_cast h4⟩
theorem zaz {α:Type} (cs:List α) (a b:Nat):(cs.drop a).take b++cs.drop (a+b)=cs.drop a:=by
 rw [←List.drop_drop,List.take_append_drop]
theorem w8 (n:Int) (h:(Lit.int .u8 n).wf=true):0≤n∧n<2^IntKind.u8.bits:=by have:=bounds_u8 h;exact ⟨by omega,by show n<2^8;omega⟩
theorem w32 (n:Int) (h:(Lit.int .u32 n).wf=true):0≤n∧n<2^IntKind.u32.bits:=by have:=bounds_u32 h;exact ⟨by omega,by show n<2^32;omega⟩
theorem w64 (n:Int) (h:(Lit.int .u64 n).wf=true):0≤n∧n<2^IntKind.u64.bits:=by have:=bounds_u64 h;exact ⟨by omega,by show n<2^64;omega⟩
theorem w16 (n:Int) (h:(Lit.int .u16 n).wf=true):0≤n∧n<2^IntKind.u16.bits:=by
 simp [Lit.wf,IntKind.min,IntKind.max,IntKind.signed,IntKind.bits] at h
 exact ⟨by omega,by show n<2^16;omega⟩
end
end Go.Cs
namespace Go.Cs
open Go Go.ChangeShapes Go.WideShapes Go.ChangeAt Go.RowKit
theorem zh5 {α:Type} {f:α→List Value} {sz:Nat} (hf:∀x,(f x).length=sz) (d:α):∀(l:List α) (k:Nat),0<sz→(l.flatMap f)[k]? =if k<l.length*sz then (f (l.getD (k/sz) d))[k%sz]? else none
 | [],k,hz=>by simp
 | x::l,k,hz=>by
  rw [List.flatMap_cons]
  rcases Nat.lt_or_ge k sz with h | h
  ·rw [List.getElem?_append_left (by rw [hf];exact h),Nat.div_eq_of_lt h,Nat.mod_eq_of_lt h,if_pos]
   ·simp
   ·rw [List.length_cons,Nat.add_mul,Nat.one_mul];omega
  ·rw [List.getElem?_append_right (by rw [hf];exact h),hf,zh5 hf d l (k-sz) hz]
   have e1:k/sz=(k-sz)/sz+1:=by rw [←Nat.add_div_right _ hz,Nat.sub_add_cancel h]
   have e2:k%sz=(k-sz)%sz:=by rw [←Nat.mod_eq_sub_mod h]
   rw [e1,e2,List.getD_cons_succ,List.length_cons,Nat.add_mul,Nat.one_mul]
   by_cases h2:k<l.length*sz+sz
   ·rw [if_pos (by omega),if_pos h2]
   ·rw [if_neg (by omega),if_neg h2]
section
variable {H:Type} {enc:TypeId×Value→H} {P:Program} {W:World} {base:Nat} {sp:Nat→Bool} {held:Bool}
theorem zeY {α:Type} {f:α→List Value} {t e:TypeId} {sz:Nat} {cs:List Value} (hx:∀us,Rd enc P W base sp held e us→∃x,us=f x) (hf:∀x,(f x).length=sz) (h:Rd enc P W base sp held t cs) (hu:P.underlying t=some (.slice e)) (he:P.cellsOf e=sz) (hz:0<sz):
  ∃a len cap l,cs= [.slice a len cap]∧Ms f sz 0 W.heap.size W a len cap l:=by
 obtain ⟨fuel,r,hr⟩:=h
 rcases Go.Deep.open_slice hu hr with ⟨rfl,_⟩|⟨a,len,cap,m,n,D,Pl,rfl,hb,hl,hm,hmm,_,hi⟩
 ·exact ⟨none,0,0, [],rfl,Ms.nil f _ _ _ hf⟩
 ·have hlm:len≤m:=by subst hmm;split<;>omega
  rw [he] at hi
  rcases Nat.eq_zero_or_pos len with h0 | h0
  ·subst h0
   exact ⟨some a,0,cap, [],rfl,⟨⟨hl,hm, .inl rfl⟩,rfl,hf⟩⟩
  ·have one:∀i,i<len→∃x,W.cells? base (a.add (i*sz)) sz=some (f x):=fun i hlt=>by
    obtain ⟨cs',h1,h2⟩:=hi i (by omega)
    obtain ⟨x,rfl⟩:=hx cs' ⟨n,_,h2⟩
    exact ⟨x,h1⟩
   obtain ⟨x0,hx0⟩:=one 0 h0
   haveI:Inhabited α:=⟨x0⟩
   obtain ⟨g,hg⟩:=Go.Deep.choose_lt one
   have hsp:a.spot=none∧a.block<W.heap.size:=by
    have h3:=(World.cells?_some hx0).2.2 0 hz
    rw [Nat.zero_mul] at h3
    have e0:(a.add 0).add 0=a:=by simp [Addr.add]
    rw [e0,List.getElem?_eq_getElem (by rw [hf];exact hz)] at h3
    refine ⟨?_,World.block_lt_of_cell? W a h3⟩
    cases hs:a.spot with
    | none=>rfl
    | some k=>
     exfalso
     have h4:=(World.cells?_some (hg 0 h0)).2.2
     simp only [World.cell?,hs] at h3
     split at h3<;>simp at h3
   obtain ⟨b,o,s⟩:=a
   simp only at hsp
   obtain ⟨rfl,hlt⟩:=hsp
   refine ⟨_,len,cap,(List.range len).map g,rfl,⟨hl,hm, .inr ⟨rfl,Nat.zero_le _,hlt,hlt,fun k v hk=> ?_⟩⟩,by simp,hf⟩
   rw [zh5 hf x0 _ k hz] at hk
   simp only [List.length_map,List.length_range] at hk
   split at hk
   ·next hks=>
    have hq:k/sz<len:=Nat.div_lt_of_lt_mul (by rw [Nat.mul_comm];exact hks)
    have hg1:((List.range len).map g).getD (k/sz) x0=g (k/sz):=by simp [List.getD,hq]
    rw [hg1] at hk
    have h5:=(World.cells?_some (hg (k/sz) hq)).2.2 (k%sz) (Nat.mod_lt _ hz)
    rw [hk,Addr.add_lit,Addr.add_lit] at h5
    rw [←h5]
    have:=Nat.div_add_mod k sz
    rw [Nat.mul_comm] at this
    simp only [Nat.add_assoc,this]
   ·cases hk
theorem zod {t e:TypeId} {cs:List Value} (h:Rd enc P W base sp held t cs) (hu:P.underlying t=some (.array 2 e)) (he:P.underlying e=some (.int .u8)) (ce:P.cellsOf e=1) (c:P.cellsOf t=2):∃x:UInt8×UInt8,cs=b2C x:=by
 obtain ⟨hl,hi⟩:=zd2 h hu
 obtain ⟨a,ha,ha2⟩:=zck (hi 0 (by omega)) he w8
 obtain ⟨b,hb,hb2⟩:=zck (hi 1 (by omega)) he w8
 simp only [ce,Nat.mul_one] at ha hb
 have ea:((UInt8.ofNat a).toNat:Nat)=a:=by rw [UInt8.toNat_ofNat',Nat.mod_eq_of_lt (show a<2^8 from ha2)]
 have eb:((UInt8.ofNat b).toNat:Nat)=b:=by rw [UInt8.toNat_ofNat',Nat.mod_eq_of_lt (show b<2^8 from hb2)]
 refine ⟨(UInt8.ofNat a,UInt8.ofNat b), ?_⟩
 have e1:=zaz cs 0 1
 have e2:=zaz cs 1 1
 rw [ha] at e1;rw [hb,List.drop_eq_nil_of_le (by omega)] at e2
 rw [List.drop_zero] at e1
 rw [←e1,←e2];simp [b2C,ea,eb]
end
end Go.Cs
namespace Go.Cs
open Go Go.ChangeShapes Go.WideShapes Go.ChangeAt Go.RowKit
section
variable {H:Type} {enc:TypeId×Value→H} {P:Program} {W:World} {base:Nat} {sp:Nat→Bool} {held:Bool}
theorem zgo {t e:TypeId} {k:IntKind} {fuel n:Nat} {cs:List Value} {p:List MemPlace} {ns:List Int} (h:DataW.trod enc P W base sp held fuel t cs=some (.agg (ns.map fun z=> .lit (.int k z)),p)) (hu:P.underlying t=some (.array n e)) (he:P.underlying e=some (.int k)) (ce:P.cellsOf e=1) (ct:P.cellsOf t=n):
  cs=ns.map fun z=> .int k z:=by
 obtain ⟨xs,m,rfl,hx,hl,hn,hi⟩:=DataW.trod_array hu h
 simp only [Prod.mk.injEq,DataW.agg.injEq] at hx
 have hlen:ns.length=n:=by rw [←hn,show xs.length=(xs.map fun x=>x.1).length from by simp,←hx.1,List.length_map]
 refine List.ext_getElem (by simp;omega) fun i h1 h2=> ?_
 have h3:i<xs.length:=by omega
 have h4:=hi i (by omega)
 rw [List.getElem?_eq_getElem h3,ce,Nat.mul_one] at h4
 obtain ⟨z,e1,e2,_⟩:=DataW.trod_int he h4
 have e3:cs[i]= .int k z:=by
  have:=congrArg (fun y=>y[0]?) e1
  simp [List.getElem?_take,List.getElem?_drop,h1] at this
  exact this
 have e4:=congrArg (fun y=>y[i]?) hx.1
 simp only [List.getElem?_map,List.getElem?_eq_getElem h3,e2,List.getElem?_eq_getElem (show i<ns.length by omega),Option.map_some,Option.some.injEq,DataW.lit.injEq,Lit.int.injEq,true_and] at e4
 rw [e3];simp [e4]
theorem zkl {name:String} {g:Nat} {cs:Array Value} {vs:List Value} (hg:P.globalNamed name=some g) (hv:W.var? P name=some cs) (hcs:cs.toList=vs):Gl g vs W:=by
 have hc:=fun i=>World.var?_cell hg hv i
 refine ⟨fun i v hi=> ?_, ?_⟩
 ·rw [Nat.zero_add,hc i,←hi,←hcs];simp
 ·simp only [World.var?,hg,Option.bind_some] at hv
  rcases Nat.lt_or_ge g W.heap.size with h | h
  ·exact h
  ·rw [Array.getElem?_eq_none h] at hv;simp at hv
end
end Go.Cs
namespace Go.Cs
open Go Go.ChangeShapes Go.WideShapes Go.ChangeAt Go.RowKit
theorem Es.of_ones {α:Type} {f:α→Value} {lo hi len cap:Nat} {w:World} {a:Option Addr} {l:List α} (h:Ms (fun x=> [f x]) 1 lo hi w a len cap l):Es f lo hi w a len cap l:=by
 have e:∀l:List α,(l.flatMap fun x=> [f x])=l.map f:=fun l=>by
  induction l with
  | nil=>rfl
  | cons x l ih=>rw [List.flatMap_cons,List.map_cons,ih];rfl
 exact ⟨by have:=h.sla;rwa [e l] at this,h.len_eq⟩
section
variable {H:Type} {enc:TypeId×Value→H} {P:Program} {W:World} {base:Nat} {sp:Nat→Bool} {held:Bool}
end
end Go.Cs
namespace Go.Cs
open Go Go.ChangeShapes Go.WideShapes Go.ChangeAt Go.RowKit
theorem zfV {cs p q:List Value} {o a:Nat} (h:(cs.drop o).take a=p) (h2:cs.drop (o+a)=q):cs.drop o=p++q:=by
 rw [←h,←h2,←List.drop_drop,List.take_append_drop]
theorem zm4 {cs:List Value} {o:Nat} (h:cs.length≤o):cs.drop o= []:=List.drop_eq_nil_of_le h
section
variable {H:Type} {enc:TypeId×Value→H} {P:Program} {W:World} {base:Nat} {sp:Nat→Bool} {held:Bool}
theorem zrx {t:TypeId} {cs:List Value} (h:Rd enc P W base sp held t cs) (hu:P.underlying t=some (.int .u8)):∃x:UInt8,cs= [u8v x]:=by
 obtain ⟨a,ha,ha2⟩:=zck h hu w8
 exact ⟨UInt8.ofNat a,by rw [ha,u8v,UInt8.toNat_ofNat',Nat.mod_eq_of_lt (show a<2^8 from ha2)]⟩
theorem zuM {t e:TypeId} {cs:List Value} (h:Rd enc P W base sp held t cs) (hu:P.underlying t=some (.slice e)) (he:P.underlying e=some (.int .u8)) (ce:P.cellsOf e=1):
  ∃a len cap l,cs= [.slice a len cap]∧Bs 0 W.heap.size W a len cap l:=by
 obtain ⟨a,len,cap,l,h1,h2⟩:=zeY (f:=fun x:UInt8=> [u8v x]) (sz:=1) (fun us hq=>zrx hq he) (fun _=>rfl) h hu ce (by decide)
 exact ⟨a,len,cap,l,h1,(Es.of_ones h2).bs⟩
end
end Go.Cs
