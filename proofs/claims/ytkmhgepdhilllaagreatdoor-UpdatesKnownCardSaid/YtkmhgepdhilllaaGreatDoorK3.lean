/- Lemmas and walks: what each function does, by its own code. No condition beyond those of each statement. -/
import Derived.Test.YtkmhgepdhilllaaGreatDoorK2
import Derived.ProofKit
import Derived.OpenShut
import Derived.ChangeOld
import Derived.LaidMore
import Derived.Stop.Joined
set_option linter.all false
set_option linter.unusedVariables false
namespace Go.Proofs.YtkmhgepdhilllaaGreatDoor
open Go Go.RowKit Go.Cs
set_option maxRecDepth 100000
set_option maxHeartbeats 4000000 in
theorem zos (w:World) (hg0:Gl 0 [vI 45,vI 33] w) (hg1:Gl 1 (w8C za6) w) (hg2:Gl 3 (zar kA) w) (hg3:Gl 2 [.iface 227 (.agg #[.pointer (some ⟨4,160,none⟩)])] w):
  Calls Tryz.prog 24 #[] w (Ret fun r w'=>r=vT∧Ext w w'):=by
 refine zI (n:=177) (σ:= []) Tryz.func24 rfl ?_
 have hgl0:=hg0.lt
 have hgl1:=hg1.lt
 have hgl2:=hg2.lt
 have hgl3:=hg3.lt
 have ht5:tot 5=3:=by decide
 have hw1:=zvL;have hw2:=zu3
 refine ze (zd (zc 1 [(0,vF)] (zf (zb (ze (zd (za (zl (some 19) (zjB 3 _ (by first | omega | decide)) ?_))))))))
 rintro _ w1 ⟨rfl,hEw1⟩
 have hzw1:=hEw1.size
 refine za (zl (some 20) (zjB 4 _ (by first | omega | decide)) ?_)
 rintro _ w2 ⟨rfl,hEw2⟩
 have hzw2:=hEw2.size
 refine za (zo (some 1) (Instr.alloc 59 true (.tuple #[])) (vP w2.heap.size 0) (zO Dig.zero) 59 ?_)
 intro w3 hBw3 hEw3
 have hzw3:=hEw3.size;have hlw3:=hBw3.lt
 refine za (zo (some 2) (Instr.alloc 59 true (.tuple #[])) (vP w3.heap.size 0) (zO Dig.zero) 59 ?_)
 intro w4 hBw4 hEw4
 have hzw4:=hEw4.size;have hlw4:=hBw4.lt
 refine za (zv 59 w2.heap.size 0 59 (vA (zO (mkD 3))) (zO Dig.zero) (zO (mkD 3)) (hBw3.ext hEw4) (by rw [zal];kernel_rfl) (by first |(simp;done)|(simp;omega)) (zbH _) ?_)
 intro w5 hBw5 hCw5
 have hzw5:=hCw5.size
 rw [zm _ _ (by simp)] at hBw5
 refine za (zv 59 w3.heap.size 0 59 (vA (zO (mkD 4))) (zO Dig.zero) (zO (mkD 4)) ((hBw4).chg hCw5 (fun hs=>by have h:_=_:=hs;omega)) (by rw [zal];kernel_rfl) (by first |(simp;done)|(simp;omega)) (zbH _) ?_)
 intro w6 hBw6 hCw6
 have hzw6:=hCw6.size
 rw [zm _ _ (by simp)] at hBw6
 refine zf (zb (ze (zd (za (zch (some 22) 28 68 35 56 5 5 .i64 .i64 (vA (zM Rec.zero)) (by omega) (by omega) (by omega) ?_)))))
 rw [zdJ (f:=zM) (x:=Rec.zero) rfl (zab _) (by decide)]
 intro w7 hBw7 hEw7
 have hzw7:=hEw7.size;have hlw7:=hBw7.lt
 have hmw7:Ms zM 35 w6.heap.size (w6.heap.size+1) w7 (pA w6.heap.size 0) 5 5 (List.replicate 5 Rec.zero):=Ms.of_pre (r:= []) (by rw [List.append_nil];exact hBw7) zab (by simp) (Nat.le_refl _) (by simp only [maxLen];omega) (Nat.le_refl _) (Nat.lt_succ_self _)
 refine za (zo (some 23) (Instr.buildSlice 29 3 #[(0,(vI 1)),(1,(vI 1)),(2,(vI 0))]) (.slice (pA w7.heap.size 0) 3 3) [(vI 1),(vI 1),(vI 0)] 3 ?_)
 intro w8 hBw8 hEw8
 have hzw8:=hEw8.size;have hlw8:=hBw8.lt
 have hSw8:Es (nv .i64) w7.heap.size (w7.heap.size+1) w8 (pA w7.heap.size 0) 3 3 ([1,1,0]):=Es.of_blk hBw8 rfl rfl (Nat.le_refl _) (by decide) (Nat.le_refl _) (Nat.lt_succ_self _)
 have hK1:=(((((((((((((((hg0.ext hEw1)).ext hEw2)).ext hEw3)).ext hEw4)).chg hCw5 (fun hs=>by have h:_=_:=hs;omega))).chg hCw6 (fun hs=>by have h:_=_:=hs;omega))).ext hEw7)).ext hEw8)
 have hK2:=(((((((((((((((hg1.ext hEw1)).ext hEw2)).ext hEw3)).ext hEw4)).chg hCw5 (fun hs=>by have h:_=_:=hs;omega))).chg hCw6 (fun hs=>by have h:_=_:=hs;omega))).ext hEw7)).ext hEw8)
 have hK3:=(((((((((((((((hg2.ext hEw1)).ext hEw2)).ext hEw3)).ext hEw4)).chg hCw5 (fun hs=>by have h:_=_:=hs;omega))).chg hCw6 (fun hs=>by have h:_=_:=hs;omega))).ext hEw7)).ext hEw8)
 refine za (zl (some 24) (zqQ 5 _ (hmw7.ext hEw8) hSw8 (wM0) (by first | omega | decide) hK1 hK2 hK3) ?_)
 rintro _ w9 ⟨a1,rfl,hFz3_0,hEw9⟩
 have hzw9:=hEw9.size
 have hma1:=hFz3_0.ms;have hlea1:=hma1.le
 refine zc 3 [(26,(vI 0)),(25,(vA [(vI 5),(.slice a1 (tot 5) (tot 5))])),(21,(.tuple #[(vA [(vI 5),(.slice a1 (tot 5) (tot 5))]),(vI 0)]))] (za (zo (some 3) (Instr.alloc 44 true (.tuple #[])) (vP w9.heap.size 0) ([(vI 0),(.slice none 0 0)]) 44 ?_))
 intro w10 hBw10 hEw10
 have hzw10:=hEw10.size;have hlw10:=hBw10.lt
 refine za (zv 44 w9.heap.size 0 44 (vA [(vI 5),(.slice a1 (tot 5) (tot 5))]) ([(vI 0),(.slice none 0 0)]) ([(vI 5),(.slice a1 (tot 5) (tot 5))]) hBw10 (by kernel_rfl) (by first | decide |(simp;done)|(simp;omega)) (by simp [Value.oneCell']) ?_)
 intro w11 hBw11 hCw11
 have hzw11:=hCw11.size
 rw [zm _ _ (by kernel_rfl)] at hBw11
 refine zc 1 [(4,(vI 0))] (zf (zb (ze (zd (za (zj (some 28) (Instr.loadAt 44 (vP w9.heap.size 0)) (vA [(vI 5),(.slice a1 (tot 5) (tot 5))]) (zw (vs:= [(vI 5),(.slice a1 (tot 5) (tot 5))]) (hBw11.all)) ?_))))))
 refine za (zo (some 29) (Instr.buildSlice 29 3 #[(0,(vI 1)),(1,(vI 1)),(2,(vI 0))]) (.slice (pA w11.heap.size 0) 3 3) [(vI 1),(vI 1),(vI 0)] 3 ?_)
 intro w12 hBw12 hEw12
 have hzw12:=hEw12.size;have hlw12:=hBw12.lt
 have hSw12:Es (nv .i64) w11.heap.size (w11.heap.size+1) w12 (pA w11.heap.size 0) 3 3 ([1,1,0]):=Es.of_blk hBw12 rfl rfl (Nat.le_refl _) (by decide) (Nat.le_refl _) (Nat.lt_succ_self _)
 have hI1:=(hSw12).ints
 have hK4:=(((((hma1.ext hEw10)).chg hCw11 (fun k h1 h2 hs=>by have h:k=_:=hs;omega))).ext hEw12)
 have hK5:=(((((((hK1.ext hEw9)).ext hEw10)).chg hCw11 (fun hs=>by have h:_=_:=hs;omega))).ext hEw12)
 have hK6:=(((((((hK2.ext hEw9)).ext hEw10)).chg hCw11 (fun hs=>by have h:_=_:=hs;omega))).ext hEw12)
 have hK7:=(((((((hK3.ext hEw9)).ext hEw10)).chg hCw11 (fun hs=>by have h:_=_:=hs;omega))).ext hEw12)
 have hK8:=(((((((((((((((((((((((hg3.ext hEw1)).ext hEw2)).ext hEw3)).ext hEw4)).chg hCw5 (fun hs=>by have h:_=_:=hs;omega))).chg hCw6 (fun hs=>by have h:_=_:=hs;omega))).ext hEw7)).ext hEw8)).ext hEw9)).ext hEw10)).chg hCw11 (fun hs=>by have h:_=_:=hs;omega))).ext hEw12)
 refine za (zl (some 30) (ztP 5 _ hK4 hI1 (by first | omega | decide) (by first | omega | decide) (by first | omega | decide) (zfc wM0) (by first | omega | decide) (zq4.1 (by decide)) (by rw [show ofT (tot 5) (zaj (List.replicate 5 Rec.zero) ([1,1,0])) (([1,1,0]:List Nat).map fun (x:Nat)=>(x:Int))=wT0 from wOf];exact zsi (n:=5) wO0 rfl) hK5 hK6 hK7 hK8) ?_)
 rintro _ w13 ⟨a2,rfl,hFz4_0,hEw13⟩
 have hzw13:=hEw13.size
 have hlea2:=hFz4_0.le
 rw [show (ofT (tot 5) (zaj (List.replicate 5 Rec.zero) ([1,1,0])) (([1,1,0]).map fun (x:Nat)=>(x:Int)))=wT0 from wOf] at hFz4_0
 refine zc 3 [(32,(vI 0)),(31,(vA [(vI 5),(.slice a2 (tot 5) (tot 5))])),(27,(.tuple #[(vA [(vI 5),(.slice a2 (tot 5) (tot 5))]),(vI 0)]))] (za (zo (some 5) (Instr.alloc 38 true (.tuple #[])) (vP w13.heap.size 0) ([(vI 0),(.slice none 0 0)]) 38 ?_))
 intro w14 hBw14 hEw14
 have hzw14:=hEw14.size;have hlw14:=hBw14.lt
 refine za (zv 38 w13.heap.size 0 38 (vA [(vI 5),(.slice a2 (tot 5) (tot 5))]) ([(vI 0),(.slice none 0 0)]) ([(vI 5),(.slice a2 (tot 5) (tot 5))]) hBw14 (by kernel_rfl) (by first | decide |(simp;done)|(simp;omega)) (by simp [Value.oneCell']) ?_)
 intro w15 hBw15 hCw15
 have hzw15:=hCw15.size
 rw [zm _ _ (by kernel_rfl)] at hBw15
 refine zc 1 [(6,(vI 0))] (zf (zb (ze (zd (za (zj (some 34) (Instr.loadAt 38 (vP w13.heap.size 0)) (vA [(vI 5),(.slice a2 (tot 5) (tot 5))]) (zw (vs:= [(vI 5),(.slice a2 (tot 5) (tot 5))]) (hBw15.all)) ?_))))))
 have hK9:=(((((hK5.ext hEw13)).ext hEw14)).chg hCw15 (fun hs=>by have h:_=_:=hs;omega))
 have hK10:=(((((hK6.ext hEw13)).ext hEw14)).chg hCw15 (fun hs=>by have h:_=_:=hs;omega))
 have hK11:=(((((hK7.ext hEw13)).ext hEw14)).chg hCw15 (fun hs=>by have h:_=_:=hs;omega))
 refine za (zl (some 35) (zd4 5 4 _ (((hFz4_0.ext hEw14)).chg hCw15 (fun k h1 h2 hs=>by have h:k=_:=hs;omega)) (by first | omega | decide) (by first | omega | decide) (by first | omega | decide) (za1 wO0) (zaQ (n:=5) wO0 rfl) (by first | omega | decide) hK9 hK10 hK11) ?_)
 rintro _ w16 ⟨rfl,hEw16⟩
 have hzw16:=hEw16.size
 rw [show zaT (wT0.getD (4/4) Un.zero) (4%4)=0 from wG0]
 refine zc 5 [(8,(vI 0)),(7,(vI 0)),(37,(vI 0)),(36,(vI 0)),(33,(.tuple #[(vI 0),(vI 0)]))] (zf (zb (ze (zT (Ext w16.drew) 12 [(40,32,0),(41,0,0),(42,2,0),(43,3848290697216,7),(39,4398046511104,8),(44,274877906944,16),(45,274877906944,16),(46,274877906944,16),(10,0,0),(0,8796093022720,319),(11,17592186044416,895),(12,35184372088832,2047)] (fun hT111=> ?_)))))
 have hEw17:Ext w16 w16.drew:=Ext.drew w16
 generalize w16.drew=w17 at hEw17⊢
 have hzw17:=hEw17.size
 refine zg hT111 0 1 (some 39) (vA [(vI 5),(.slice a2 (tot 5) (tot 5))]) (zi (Instr.loadAt 38 (vP w13.heap.size 0)) (fun w' hC=>zw (vs:= [(vI 5),(.slice a2 (tot 5) (tot 5))]) (((((hBw15.ext hEw16)).ext hEw17).ext hC).all))) ?_
 have hK12:=((((((((((((((((((((((((hBw5).chg hCw6 (fun hs=>by have h:_=_:=hs;omega))).ext hEw7)).ext hEw8)).ext hEw9)).ext hEw10)).chg hCw11 (fun hs=>by have h:_=_:=hs;omega))).ext hEw12)).ext hEw13)).ext hEw14)).chg hCw15 (fun hs=>by have h:_=_:=hs;omega))).ext hEw16)).ext hEw17)
 refine zg hT111 2 5 (some 41) (vA (zO (mkD 3))) (zi (Instr.loadAt 59 (vP w2.heap.size 0)) (fun w' hC=>zw (vs:=zO (mkD 3)) ((hK12.ext hC).all) (by rw [zal];kernel_rfl))) (za9 1 8 7 261 ?_ ?_)
 ·refine zl (some 40) (zck 3 _ (by first | omega | decide | exact UInt8.toNat_lt _)) ?_
  rintro _ w18 ⟨rfl,hEw18⟩
  have hzw18:=hEw18.size
  refine ⟨.inr hEw18, ?_⟩
  refine za9 3 8 15 263 ?_ ?_
  ·have hK13:=(((((((((hFz4_0.ext hEw14)).chg hCw15 (fun k h1 h2 hs=>by have h:k=_:=hs;omega))).ext hEw16)).ext hEw17)).ext hEw18)
   have hK14:=(((((hK9.ext hEw16)).ext hEw17)).ext hEw18)
   have hK15:=(((((hK10.ext hEw16)).ext hEw17)).ext hEw18)
   have hK16:=(((((hK11.ext hEw16)).ext hEw17)).ext hEw18)
   refine zl (some 42) (zdk 5 4 (za5 3) (mkD 3) _ hK13 (by first | omega | decide) (by first | omega | decide) (by first | omega | decide) (za1 wO0) (zaQ (n:=5) wO0 rfl) (by first | omega | decide) hK14 hK15 hK16) ?_
   rintro _ w19 ⟨a3,rfl,hFz7_0,hEw19⟩
   have hzw19:=hEw19.size
   have hlea3:=hFz7_0.le
   rw [show zdt 5 wT0 4 (za5 3) (mkD 3)=wT1 from wE0] at hFz7_0
   rw [show (zaT (wT0.getD (4/4) Un.zero) (4%4))=0 from wG0]
   have hX1:Ext w17 w19:=(hEw18.trans hEw19)
   refine ⟨.inr hX1, ?_⟩
   refine zh (hw:=hX1) hT111 [(4,38,(.tuple #[(vA [(vI 5),(.slice a3 (tot 5) (tot 5))]),(vI 0),(vI 0)])),(5,43,(vA [(vI 5),(.slice a3 (tot 5) (tot 5))])),(6,44,(vI 0)),(7,45,(vI 0))] 4 255 (zz 8 511 (zo (some 9) (Instr.alloc 38 true (.tuple #[])) (vP w19.heap.size 0) ([(vI 0),(.slice none 0 0)]) 38 ?_))
   intro w20 hBw20 hEw20
   have hzw20:=hEw20.size;have hlw20:=hBw20.lt
   have hX2:Ext w17 w20:=((hEw18.trans hEw19).trans hEw20)
   refine ⟨.inr hX2, ?_⟩
   refine zz 9 1023 (zv 38 w19.heap.size 0 38 (vA [(vI 5),(.slice a3 (tot 5) (tot 5))]) ([(vI 0),(.slice none 0 0)]) ([(vI 5),(.slice a3 (tot 5) (tot 5))]) hBw20 (by kernel_rfl) (by first | decide |(simp;done)|(simp;omega)) (by simp [Value.oneCell']) ?_)
   intro w21 hBw21 hCw21
   have hzw21:=hCw21.size
   rw [zm _ _ (by kernel_rfl)] at hBw21
   have hX3:Ext w17 w21:=(Ext.own ((hEw18.trans hEw19).trans hEw20) hCw21 (by omega))
   refine ⟨.inr hX3, ?_⟩
   refine zh (hw:=hX3) hT111 [(10,10,(vI 0)),(11,11,(vI 0))] 2 4095 (zJ (zb (ze (zd (za (zj (some 47) (Instr.loadAt 38 (vP w19.heap.size 0)) (vA [(vI 5),(.slice a3 (tot 5) (tot 5))]) (zw (vs:= [(vI 5),(.slice a3 (tot 5) (tot 5))]) (hBw21.all)) ?_))))))
   have hK17:=(((((hK14.ext hEw19)).ext hEw20)).chg hCw21 (fun hs=>by have h:_=_:=hs;omega))
   have hK18:=(((((hK15.ext hEw19)).ext hEw20)).chg hCw21 (fun hs=>by have h:_=_:=hs;omega))
   have hK19:=(((((hK16.ext hEw19)).ext hEw20)).chg hCw21 (fun hs=>by have h:_=_:=hs;omega))
   refine za (zl (some 48) (zkt 5 _ (((hFz7_0.ext hEw20)).chg hCw21 (fun k h1 h2 hs=>by have h:k=_:=hs;omega)) (by first | omega | decide) (by first | omega | decide) (by first | omega | decide) (za1 wO1) (zaQ (n:=5) wO1 rfl) hK17 hK18 hK19) ?_)
   rintro _ w22 ⟨a4,rfl,hFz8_0,hEw22⟩
   have hzw22:=hEw22.size
   have hlea4:=hFz8_0.le
   rw [wD1,show List.length [(0,1),(1,0)]=2 from rfl] at hFz8_0
   rw [show zbv 5 wT1 (tot 5)= [(0,1),(1,0)] from wD1]
   rw [show List.length ([(0,1),(1,0)])=2 from rfl]
   refine zc 5 [(13,(vI 0)),(12,(.slice a4 2 2)),(50,(vI 0)),(49,(.slice a4 2 2)),(46,(.tuple #[(.slice a4 2 2),(vI 0)]))] (zf (zb (ze (zd (za (zj (some 52) (Instr.loadAt 38 (vP w19.heap.size 0)) (vA [(vI 5),(.slice a3 (tot 5) (tot 5))]) (zw (vs:= [(vI 5),(.slice a3 (tot 5) (tot 5))]) ((hBw21.ext hEw22).all)) ?_))))))
   have hK20:=(((((hFz7_0.ext hEw20)).chg hCw21 (fun k h1 h2 hs=>by have h:k=_:=hs;omega))).ext hEw22)
   refine za (zl (some 53) (zjN 5 4 _ hK20 (by first | omega | decide) (by first | omega | decide) (by first | omega | decide) (za1 wO1) (zaQ (n:=5) wO1 rfl) (by first | omega | decide) (hK17.ext hEw22) (hK18.ext hEw22) (hK19.ext hEw22)) ?_)
   rintro _ w23 ⟨rfl,hEw23⟩
   have hzw23:=hEw23.size
   rw [show (wT1.getD (4/4) Un.zero).nd.rs.get (4%4)=wR1 from zna]
   refine zc 3 [(55,(vI 0)),(54,(vA (zM (wR1)))),(51,(.tuple #[(vA (zM (wR1))),(vI 0)]))] (za (zo (some 14) (Instr.alloc 68 true (.tuple #[])) (vP w23.heap.size 0) (zM Rec.zero) 68 ?_))
   intro w24 hBw24 hEw24
   have hzw24:=hEw24.size;have hlw24:=hBw24.lt
   refine za (zv 68 w23.heap.size 0 68 (vA (zM (wR1))) (zM Rec.zero) (zM (wR1)) hBw24 (by rw [zab];kernel_rfl) (by first |(simp;done)|(simp;omega)) (za2 _) ?_)
   intro w25 hBw25 hCw25
   have hzw25:=hCw25.size
   rw [zm _ _ (by simp)] at hBw25
   refine zc 1 [(15,(vI 0))] (zf (zb (ze (ze ?_))))
   refine zT (Ext w25.drew) 52 [(57,16,0),(58,64,0),(59,216172782113783808,3),(60,256,0),(61,864691128455135232,12),(62,2048,0),(63,3458764513820540928,48),(64,8192,0),(65,13835058055282163712,192),(66,32768,0),(67,55340232221128654848,768),(68,73786976294838206464,1024),(69,147573952589676412928,2048),(70,295147905179352825984,4096),(71,885443715538058477568,12288),(72,1475739525896764129280,20480),(73,2361183241434822606848,36864),(74,4722366482869645214720,65536),(75,14167099448608935641088,196608),(76,23611832414348226068480,327680),(77,37778931862957161709568,589824),(78,75557863725914323423232,1048576),(79,226673591177742970257408,3145728),(80,377789318629571617095680,5242880),(81,680020773533228910772224,9437184),(82,1208925819614629174706176,17825792),(83,2417851639229258349416448,33554432),(84,7253554917687775048237056,100663296),(85,12089258196146291747061760,167772160),(86,2417851639229258349412352,33554432),(87,60446290980731458735308800,838860800),(88,79789104094565525530607616,1107296256),(89,154742504910672534362390528,2181038080),(90,309485009821345068724785152,4294967296),(91,928455029464035206174343168,12884901888),(92,1547425049106725343623905280,21474836480),(93,309485009821345068724781056,4294967296),(94,7737125245533626718119526400,107374182400),(95,10213005324104387267917774848,141733920768),(96,19807040628566084398385987584,279172874240),(97,39614081257132168796771991552,549755813888),(98,39614081257132168796771975168,549755813888),(99,39614081257132168796771975170,549755813888),(100,514983056342718194358035677184,7146825580544),(101,752667543885511207138667528192,10445360463872),(102,1307264681485361570293475180544,18141941858304),(103,2535301200456458802993406410752,37383395344384),(104,5070602400912917605986812822016,70368744177664),(105,15211807202738752817960438464512,211106232532992),(106,25353012004564588029934064107520,351843720888320),(107,45635421608216258453881315393536,633318697598976),(108,86200240815519599301775817965568,1196268651020288)] (fun hT188=> ?_)
   have hEw26:Ext w25 w25.drew:=Ext.drew w25
   generalize w25.drew=w26 at hEw26⊢
   have hzw26:=hEw26.size
   refine zh hT188 [(0,56,(vI 0)),(1,57,(vI 0))] 2 3 (zg hT188 2 7 (some 58) (vI 0) (zaa .i64 (IntKind.i64.wrap (((0:Nat):Int)+((0:Nat):Int))) (zA (by omega) (by omega) (by omega))) (zh hT188 [(3,59,(vI 0))] 1 15 (zg hT188 4 31 (some 60) (vI 0) (zaa .i64 (IntKind.i64.wrap (((0:Nat):Int)+((0:Nat):Int))) (zA (by omega) (by omega) (by omega))) (zh hT188 [(5,61,(vI 0))] 1 63 (zg hT188 6 127 (some 62) (vI 0) (zaa .i64 (IntKind.i64.wrap (((0:Nat):Int)+((0:Nat):Int))) (zA (by omega) (by omega) (by omega))) (zh hT188 [(7,63,(vI 0))] 1 255 (zg hT188 8 511 (some 64) (vI 0) (zaa .i64 (IntKind.i64.wrap (((0:Nat):Int)+((0:Nat):Int))) (zA (by omega) (by omega) (by omega))) (zh hT188 [(9,65,(vI 0))] 1 1023 (zg hT188 10 2047 (some 66) (vI 0) (zaa .i64 (IntKind.i64.wrap (((0:Nat):Int)+((0:Nat):Int))) (zA (by omega) (by omega) (by omega))) ?_)))))))))
   refine zh hT188 [(11,67,vF),(12,68,vF),(13,69,(vI 0))] 3 16383 (zg hT188 14 32767 (some 70) vF (zaD (((0:Nat):Int) !=((0:Nat):Int)) (zaA (by omega))) (zh hT188 [(15,71,vF),(16,72,vF),(17,73,(vI 0))] 3 262143 (zg hT188 18 524287 (some 74) vF (zaD (((0:Nat):Int) !=((0:Nat):Int)) (zaA (by omega))) (zh hT188 [(19,75,vF),(20,76,vF),(21,77,(.slice a4 2 2)),(22,78,(vI 2)),(23,79,vF),(24,80,vF),(25,81,vF),(26,82,(.slice a4 2 2))] 8 134217727 ?_))))
   obtain ⟨b1,o1,rfl⟩:=hFz8_0.addr (by omega) (by decide)
   refine zg hT188 27 268435455 (some 83) (vP b1 (o1+0*2)) (zi (Instr.indexAt 85 (.slice (pA b1 o1) 2 2) (vI 0)) (fun w' hC=>zP (E:=89) (sz:=2) (by omega))) ?_
   have hK21:=(((((((hFz8_0.ext hEw23)).ext hEw24)).chg hCw25 (fun k h1 h2 hs=>by have h:k=_:=hs;omega))).ext hEw26)
   refine zg hT188 28 536870911 (some 84) (vA [(vI ((([(0,1),(1,0)]).getD 0 (0,0)).1)),(vI ((([(0,1),(1,0)]).getD 0 (0,0)).2))]) (zi (Instr.loadAt 89 (vP b1 (o1+0*2))) (fun w' hC=>zw (vs:= [(vI ((([(0,1),(1,0)]).getD 0 (0,0)).1)),(vI ((([(0,1),(1,0)]).getD 0 (0,0)).2))]) ((hK21.ext hC).at (0,0) (by omega)))) (zh hT188 [(29,85,(vA [(vI 0),(vI 1)]))] 1 1073741823 (zg hT188 30 2147483647 (some 86) vF (zi (bo .neq 89 (.tmp 84) (.tmp 85) (vA [(vI ((([(0,1),(1,0)]).getD 0 (0,0)).1)),(vI ((([(0,1),(1,0)]).getD 0 (0,0)).2))]) (vA [(vI 0),(vI 1)])) (fun w' hC=>zak (r:=true) (T:=89) ((zdr (dd:=9998) (t:=89) [(vI ((([(0,1),(1,0)]).getD 0 (0,0)).1)),(vI ((([(0,1),(1,0)]).getD 0 (0,0)).2))] [(vI 0),(vI 1)]).trans (congrArg (fun b=>Result.ok b _) (show (zgp [(vI ((([(0,1),(1,0)]).getD 0 (0,0)).1)),(vI ((([(0,1),(1,0)]).getD 0 (0,0)).2))] [(vI 0),(vI 1)])=true from rfl))))) (zh hT188 [(31,87,vF),(32,88,vF),(33,89,(.slice (pA b1 o1) 2 2))] 3 17179869183 (zg hT188 34 34359738367 (some 90) (vP b1 (o1+1*2)) (zi (Instr.indexAt 85 (.slice (pA b1 o1) 2 2) (vI 1)) (fun w' hC=>zP (E:=89) (sz:=2) (by omega))) ?_))))
   refine zg hT188 35 68719476735 (some 91) (vA [(vI ((([(0,1),(1,0)]).getD 1 (0,0)).1)),(vI ((([(0,1),(1,0)]).getD 1 (0,0)).2))]) (zi (Instr.loadAt 89 (vP b1 (o1+1*2))) (fun w' hC=>zw (vs:= [(vI ((([(0,1),(1,0)]).getD 1 (0,0)).1)),(vI ((([(0,1),(1,0)]).getD 1 (0,0)).2))]) ((hK21.ext hC).at (0,0) (by omega)))) (zh hT188 [(36,92,(vA [(vI 1),(vI 0)]))] 1 137438953471 (zg hT188 37 274877906943 (some 93) vF (zi (bo .neq 89 (.tmp 91) (.tmp 92) (vA [(vI ((([(0,1),(1,0)]).getD 1 (0,0)).1)),(vI ((([(0,1),(1,0)]).getD 1 (0,0)).2))]) (vA [(vI 1),(vI 0)])) (fun w' hC=>zak (r:=true) (T:=89) ((zdr (dd:=9998) (t:=89) [(vI ((([(0,1),(1,0)]).getD 1 (0,0)).1)),(vI ((([(0,1),(1,0)]).getD 1 (0,0)).2))] [(vI 1),(vI 0)]).trans (congrArg (fun b=>Result.ok b _) (show (zgp [(vI ((([(0,1),(1,0)]).getD 1 (0,0)).1)),(vI ((([(0,1),(1,0)]).getD 1 (0,0)).2))] [(vI 1),(vI 0)])=true from rfl))))) (zh hT188 [(38,94,vF),(39,95,vF)] 2 1099511627775 (zg hT188 40 2199023255551 (some 96) (vA (zM (wR1))) (zi (Instr.loadAt 68 (vP w23.heap.size 0)) (fun w' hC=>zw (vs:=zM (wR1)) (((hBw25.ext hEw26).ext hC).all) (by rw [zab];kernel_rfl))) ?_))))
   have hK22:=(((((((((((hK12.ext hX3)).ext hEw22)).ext hEw23)).ext hEw24)).chg hCw25 (fun hs=>by have h:_=_:=hs;omega))).ext hEw26)
   refine zg hT188 42 6597069766655 (some 98) (vA (zO (mkD 3))) (zi (Instr.loadAt 59 (vP w2.heap.size 0)) (fun w' hC=>zw (vs:=zO (mkD 3)) ((hK22.ext hC).all) (by rw [zal];kernel_rfl))) (zz 41 8796093022207 (zl (some 97) (zck 3 _ (by first | omega | decide | exact UInt8.toNat_lt _)) ?_))
   rintro _ w27 ⟨rfl,hEw27⟩
   have hzw27:=hEw27.size
   refine ⟨.inr hEw27, ?_⟩
   refine zg (hw:=hEw27) hT188 43 17592186044415 (some 99) (vA (zM wR1)) (zi (Instr.build 68 #[(0,(vB 1)),(1,(vA (zaU (za5 3)))),(2,(vA (zO (mkD 3))))]) (fun w' hC=>(zcO 1 (za5 3) (mkD 3) (by decide)).trans (congrArg (fun z:Rec=>Result.ok (Value.agg (zM z).toArray) _) (show (⟨1,(za5 3),(mkD 3),by decide⟩:Rec)=wR1 from rfl)))) (zg (hw:=hEw27) hT188 44 35184372088831 (some 100) vF (zi (bo .neq 68 (.tmp 96) (.tmp 99) (vA (zM (wR1))) (vA (zM wR1))) (fun w' hC=>zak (r:=true) (T:=68) ((zcP (dd:=9997) (t:=68) (t8:=5) (tn:=56) (td:=59) (e:=5) (t32:=53) (t64:=54) (wR1) wR1).trans (congrArg (fun b=>Result.ok b _) (show ((wR1).eqb wR1)=true from (Rec.eqb_iff _ _).2 rfl))))) (zh (hw:=hEw27) hT188 [(45,101,vF),(46,102,vF),(47,103,(vP w19.heap.size 1))] 3 281474976710655 ?_))
   have hK23:=(((((((((hBw21.ext hEw22)).ext hEw23)).ext hEw24)).chg hCw25 (fun hs=>by have h:_=_:=hs;omega))).ext hEw26)
   refine zg (hw:=hEw27) hT188 48 562949953421311 (some 104) (.slice a3 (tot 5) (tot 5)) (zi (Instr.loadAt 36 (vP w19.heap.size 1)) (fun w' hC=>zk ((hK23.ext hC).cell rfl))) (zh (hw:=hEw27) hT188 [(49,105,(vI (tot 5)))] 1 1125899906842623 (zg (hw:=hEw27) hT188 50 2251799813685247 (some 106) vF (zaD ((((tot 5):Nat):Int) !=((3:Nat):Int)) (zaA (by omega))) (zh (hw:=hEw27) hT188 [(51,107,vF)] 1 4503599627370495 (zJ (zb (zn (zu (zb (ze ?_)))))))))
   refine zd (zc 1 [(108,(vA (zH (Nod.mt 0 1))))] (za (zo (some 16) (Instr.alloc 74 true (.tuple #[])) (vP w27.heap.size 0) (zH Nod.zero) 74 ?_)))
   intro w28 hBw28 hEw28
   have hzw28:=hEw28.size;have hlw28:=hBw28.lt
   refine za (zv 74 w27.heap.size 0 74 (vA (zH (Nod.mt 0 1))) (zH Nod.zero) (zH (Nod.mt 0 1)) hBw28 (by rw [zV];kernel_rfl) (by first |(simp;done)|(simp;omega)) (zbZ _) ?_)
   intro w29 hBw29 hCw29
   have hzw29:=hCw29.size
   rw [zm _ _ (by simp)] at hBw29
   refine zf (zb (ze (zd ?_)))
   have hK24:=(((((((hBw25.ext hEw26)).ext hEw27)).ext hEw28)).chg hCw29 (fun hs=>by have h:_=_:=hs;omega))
   refine za (zj (some 109) (Instr.loadAt 68 (vP w23.heap.size 0)) (vA (zM (wR1))) (zw (vs:=zM (wR1)) (hK24.all) (by rw [zab];kernel_rfl)) ?_)
   refine zc 1 [(110,(vP w27.heap.size 2))] (za (zj (some 111) (Instr.indexAt 69 (vP w27.heap.size 2) (vI 0)) (vP w27.heap.size (2+0*35)) (zag (E:=68) (sz:=35) (m:=4) (by omega)) ?_))
   refine za (zv 68 w27.heap.size (2+0*35) 74 (vA (zM (wR1))) (zH (Nod.mt 0 1)) (zM (wR1)) hBw29 (by rw [zab];kernel_rfl) (by first |(simp;done)|(simp;omega)) (za2 _) ?_)
   intro w30 hBw30 hCw30
   have hzw30:=hCw30.size
   rw [show (zac (zH (Nod.mt 0 1)) (2+0*35) (zM (wR1)):List Value)=zH ((Nod.mt 0 1).setR 0 (wR1)) from nod_setR (by omega)] at hBw30
   refine zf (zb (ze (ze (zT (Ext w30.drew) 11 [(113,512,0),(114,5192296858534827628530496329220096,1),(115,10384593717069655257060992658440192,2),(116,20769187434139310514121985316880384,4),(117,41538374868278621028243970633760768,8),(118,83076749736557242056487941267521536,16),(119,166153499473114484112975882535043072,32),(120,65536,0),(121,664613997892457936451903530140172288,128),(122,1329227995784915872903807060280344576,256),(123,2990762990516060714033565885630775296,576)] (fun hT265=> ?_)))))
   have hEw31:Ext w30 w30.drew:=Ext.drew w30
   generalize w30.drew=w31 at hEw31⊢
   have hzw31:=hEw31.size
   refine zh hT265 [(0,112,(vP w19.heap.size 1))] 1 1 ?_
   have hK25:=(((((((((hK23.ext hEw27)).ext hEw28)).chg hCw29 (fun hs=>by have h:_=_:=hs;omega))).chg hCw30 (fun hs=>by have h:_=_:=hs;omega))).ext hEw31)
   refine zg hT265 1 3 (some 113) (.slice a3 (tot 5) (tot 5)) (zi (Instr.loadAt 36 (vP w19.heap.size 1)) (fun w' hC=>zk ((hK25.ext hC).cell rfl))) ?_
   obtain ⟨b2,o2,rfl⟩:=hK20.addr (by omega) (by decide)
   refine zg hT265 2 7 (some 114) (vP b2 (o2+2*280)) (zi (Instr.indexAt 36 (.slice (pA b2 o2) (tot 5) (tot 5)) (vI 2)) (fun w' hC=>zP (E:=77) (sz:=280) (by omega))) (zh hT265 [(3,115,(vP b2 (o2+2*280))),(4,116,(vP b2 (o2+2*280+142)))] 2 31 (zg hT265 5 63 (some 117) (vP b2 (o2+2*280+142+1*33)) (zi (Instr.indexAt 72 (vP b2 (o2+2*280+142)) (vI 1)) (fun w' hC=>zag (E:=71) (sz:=33) (m:=4) (by omega))) ?_))
   have hK26:=(((((((((((((((((hK20.ext hEw23)).ext hEw24)).chg hCw25 (fun k h1 h2 hs=>by have h:k=_:=hs;omega))).ext hEw26)).ext hEw27)).ext hEw28)).chg hCw29 (fun k h1 h2 hs=>by have h:k=_:=hs;omega))).chg hCw30 (fun k h1 h2 hs=>by have h:k=_:=hs;omega))).ext hEw31)
   refine zg hT265 6 127 (some 118) (vA (zad ((wT1.getD 2 Un.zero).nd.es.get 1))) (zi (Instr.loadAt 71 (vP b2 (o2+2*280+142+1*33))) (fun w' hC=>zw (vs:=zad ((wT1.getD 2 Un.zero).nd.es.get 1)) (((hK26.ext hC).at Un.zero (by omega)).sub2 142 _ (zad ((wT1.getD 2 Un.zero).nd.es.get 1)) (zng (by omega))) (by rw [zaF];kernel_rfl))) (zg hT265 7 255 (some 119) (vA (zH ((Nod.mt 0 1).setR 0 (wR1)))) (zi (Instr.loadAt 74 (vP w27.heap.size 0)) (fun w' hC=>zw (vs:=zH ((Nod.mt 0 1).setR 0 (wR1))) (((hBw30.ext hEw31).ext hC).all) (by rw [zV];kernel_rfl))) (zz 8 511 (zl (some 120) (zfe ((Nod.mt 0 1).setR 0 (wR1)) _) ?_)))
   rintro _ w32 ⟨rfl,hEw32⟩
   have hzw32:=hEw32.size
   refine ⟨.inr hEw32, ?_⟩
   refine zg (hw:=hEw32) hT265 9 1023 (some 121) (vA (zad (⟨1,(zU (zS ((Nod.mt 0 1).setR 0 (wR1)))),by decide⟩))) (zi (Instr.build 71 #[(0,(vB 1)),(1,(vA (zO (zU (zS ((Nod.mt 0 1).setR 0 (wR1)))))))]) (fun w' hC=>zcm 1 (zU (zS ((Nod.mt 0 1).setR 0 (wR1)))) (by decide))) (zg (hw:=hEw32) hT265 10 2047 (some 122) vF (zi (bo .neq 71 (.tmp 118) (.tmp 121) (vA (zad ((wT1.getD 2 Un.zero).nd.es.get 1))) (vA (zad (⟨1,(zU (zS ((Nod.mt 0 1).setR 0 (wR1)))),by decide⟩)))) (fun w' hC=>zak (r:=true) (T:=71) ((zb8 (dd:=9997) (t:=71) (t8:=5) (td:=59) (e:=5) ((wT1.getD 2 Un.zero).nd.es.get 1) (⟨1,(zU (zS ((Nod.mt 0 1).setR 0 (wR1)))),by decide⟩)).trans (congrArg (fun b=>Result.ok b _) (show (((wT1.getD 2 Un.zero).nd.es.get 1).eqb (⟨1,(zU (zS ((Nod.mt 0 1).setR 0 (wR1)))),by decide⟩))=true from (Ent.eqb_iff _ _).2 zo2))))) (zJ (zb (zn (zu (zb (ze (zT (Ext w32.drew) 12 [(125,512,0),(126,0,0),(127,4,0),(128,148873535527910577765226390751398592512,7),(124,170141183460469231731687303715884105728,8),(129,10633823966279326983230456482242756608,16),(130,10633823966279326983230456482242756608,16),(131,10633823966279326983230456482242756608,16),(18,0,0),(0,340282366920938463463374607431768342528,319),(11,680564733841876926926749214863536422912,895),(5,1361129467683753853853498429727072845824,2047)] (fun hT291=> ?_)))))))))
   have hEw33:Ext w32 w32.drew:=Ext.drew w32
   generalize w32.drew=w33 at hEw33⊢
   have hzw33:=hEw33.size
   refine zg hT291 0 1 (some 124) (vA [(vI 5),(.slice (pA b2 o2) (tot 5) (tot 5))]) (zi (Instr.loadAt 38 (vP w19.heap.size 0)) (fun w' hC=>zw (vs:= [(vI 5),(.slice (pA b2 o2) (tot 5) (tot 5))]) (((((hK25.ext hEw32)).ext hEw33).ext hC).all))) ?_
   have hK27:=(((((((((((((((((((((((((((((((((((((((((((((((hBw6.ext hEw7)).ext hEw8)).ext hEw9)).ext hEw10)).chg hCw11 (fun hs=>by have h:_=_:=hs;omega))).ext hEw12)).ext hEw13)).ext hEw14)).chg hCw15 (fun hs=>by have h:_=_:=hs;omega))).ext hEw16)).ext hEw17)).ext hX3)).ext hEw22)).ext hEw23)).ext hEw24)).chg hCw25 (fun hs=>by have h:_=_:=hs;omega))).ext hEw26)).ext hEw27)).ext hEw28)).chg hCw29 (fun hs=>by have h:_=_:=hs;omega))).chg hCw30 (fun hs=>by have h:_=_:=hs;omega))).ext hEw31)).ext hEw32)).ext hEw33)
   refine zg hT291 2 5 (some 126) (vA (zO (mkD 4))) (zi (Instr.loadAt 59 (vP w3.heap.size 0)) (fun w' hC=>zw (vs:=zO (mkD 4)) ((hK27.ext hC).all) (by rw [zal];kernel_rfl))) (za9 1 8 7 261 ?_ ?_)
   ·refine zl (some 125) (zck 4 _ (by first | omega | decide | exact UInt8.toNat_lt _)) ?_
    rintro _ w34 ⟨rfl,hEw34⟩
    have hzw34:=hEw34.size
    refine ⟨.inr hEw34, ?_⟩
    refine za9 3 8 15 263 ?_ ?_
    ·have hK28:=(((((hK26.ext hEw32)).ext hEw33)).ext hEw34)
     have hK29:=(((((((((((((((((((((((((hK17.ext hEw22)).ext hEw23)).ext hEw24)).chg hCw25 (fun hs=>by have h:_=_:=hs;omega))).ext hEw26)).ext hEw27)).ext hEw28)).chg hCw29 (fun hs=>by have h:_=_:=hs;omega))).chg hCw30 (fun hs=>by have h:_=_:=hs;omega))).ext hEw31)).ext hEw32)).ext hEw33)).ext hEw34)
     have hK30:=(((((((((((((((((((((((((hK18.ext hEw22)).ext hEw23)).ext hEw24)).chg hCw25 (fun hs=>by have h:_=_:=hs;omega))).ext hEw26)).ext hEw27)).ext hEw28)).chg hCw29 (fun hs=>by have h:_=_:=hs;omega))).chg hCw30 (fun hs=>by have h:_=_:=hs;omega))).ext hEw31)).ext hEw32)).ext hEw33)).ext hEw34)
     have hK31:=(((((((((((((((((((((((((hK19.ext hEw22)).ext hEw23)).ext hEw24)).chg hCw25 (fun hs=>by have h:_=_:=hs;omega))).ext hEw26)).ext hEw27)).ext hEw28)).chg hCw29 (fun hs=>by have h:_=_:=hs;omega))).chg hCw30 (fun hs=>by have h:_=_:=hs;omega))).ext hEw31)).ext hEw32)).ext hEw33)).ext hEw34)
     refine zl (some 127) (zdk 5 4 (za5 4) (mkD 4) _ hK28 (by first | omega | decide) (by first | omega | decide) (by first | omega | decide) (za1 wO1) (zaQ (n:=5) wO1 rfl) (by first | omega | decide) hK29 hK30 hK31) ?_
     rintro _ w35 ⟨a5,rfl,hFz13_0,hEw35⟩
     have hzw35:=hEw35.size
     have hlea5:=hFz13_0.le
     rw [show zdt 5 wT1 4 (za5 4) (mkD 4)=wT2 from wE1] at hFz13_0
     rw [show (zaT (wT1.getD (4/4) Un.zero) (4%4))=0 from wG1]
     have hX4:Ext w33 w35:=(hEw34.trans hEw35)
     refine ⟨.inr hX4, ?_⟩
     refine zh (hw:=hX4) hT291 [(4,123,(.tuple #[(vA [(vI 5),(.slice a5 (tot 5) (tot 5))]),(vI 0),(vI 0)])),(5,128,(vA [(vI 5),(.slice a5 (tot 5) (tot 5))])),(6,129,(vI 0)),(7,130,(vI 0))] 4 255 (zz 8 511 (zo (some 17) (Instr.alloc 38 true (.tuple #[])) (vP w35.heap.size 0) ([(vI 0),(.slice none 0 0)]) 38 ?_))
     intro w36 hBw36 hEw36
     have hzw36:=hEw36.size;have hlw36:=hBw36.lt
     have hX5:Ext w33 w36:=((hEw34.trans hEw35).trans hEw36)
     refine ⟨.inr hX5, ?_⟩
     refine zz 9 1023 (zv 38 w35.heap.size 0 38 (vA [(vI 5),(.slice a5 (tot 5) (tot 5))]) ([(vI 0),(.slice none 0 0)]) ([(vI 5),(.slice a5 (tot 5) (tot 5))]) hBw36 (by kernel_rfl) (by first | decide |(simp;done)|(simp;omega)) (by simp [Value.oneCell']) ?_)
     intro w37 hBw37 hCw37
     have hzw37:=hCw37.size
     rw [zm _ _ (by kernel_rfl)] at hBw37
     have hX6:Ext w33 w37:=(Ext.own ((hEw34.trans hEw35).trans hEw36) hCw37 (by omega))
     refine ⟨.inr hX6, ?_⟩
     refine zh (hw:=hX6) hT291 [(10,10,(vI 0)),(11,4,(vI 0))] 2 4095 (zJ (zb (ze (zd (za (zj (some 132) (Instr.loadAt 38 (vP w35.heap.size 0)) (vA [(vI 5),(.slice a5 (tot 5) (tot 5))]) (zw (vs:= [(vI 5),(.slice a5 (tot 5) (tot 5))]) (hBw37.all)) ?_))))))
     have hK32:=(((((hK29.ext hEw35)).ext hEw36)).chg hCw37 (fun hs=>by have h:_=_:=hs;omega))
     have hK33:=(((((hK30.ext hEw35)).ext hEw36)).chg hCw37 (fun hs=>by have h:_=_:=hs;omega))
     have hK34:=(((((hK31.ext hEw35)).ext hEw36)).chg hCw37 (fun hs=>by have h:_=_:=hs;omega))
     refine za (zl (some 133) (zd3 5 _ (((hFz13_0.ext hEw36)).chg hCw37 (fun k h1 h2 hs=>by have h:k=_:=hs;omega)) (by first | omega | decide) (by first | omega | decide) (by first | omega | decide) (za1 wO2) (zaQ (n:=5) wO2 rfl) hK32 hK33 hK34) ?_)
     rintro _ w38 ⟨a6,rfl,hFz14_0,hEw38⟩
     have hzw38:=hEw38.size
     have hlea6:=hFz14_0.le
     rw [show zba (tot 5) wT2=wT3 from wE2] at hFz14_0
     refine zc 3 [(135,(vI 0)),(134,(vA [(vI 5),(.slice a6 (tot 5) (tot 5))])),(131,(.tuple #[(vA [(vI 5),(.slice a6 (tot 5) (tot 5))]),(vI 0)]))] (za (zo (some 18) (Instr.alloc 38 true (.tuple #[])) (vP w38.heap.size 0) ([(vI 0),(.slice none 0 0)]) 38 ?_))
     intro w39 hBw39 hEw39
     have hzw39:=hEw39.size;have hlw39:=hBw39.lt
     refine za (zv 38 w38.heap.size 0 38 (vA [(vI 5),(.slice a6 (tot 5) (tot 5))]) ([(vI 0),(.slice none 0 0)]) ([(vI 5),(.slice a6 (tot 5) (tot 5))]) hBw39 (by kernel_rfl) (by first | decide |(simp;done)|(simp;omega)) (by simp [Value.oneCell']) ?_)
     intro w40 hBw40 hCw40
     have hzw40:=hCw40.size
     rw [zm _ _ (by kernel_rfl)] at hBw40
     refine zc 1 [(6,(vI 0))] (zf (zb (ze (zd (za (zj (some 137) (Instr.loadAt 38 (vP w38.heap.size 0)) (vA [(vI 5),(.slice a6 (tot 5) (tot 5))]) (zw (vs:= [(vI 5),(.slice a6 (tot 5) (tot 5))]) (hBw40.all)) ?_))))))
     have hK35:=(((((hK32.ext hEw38)).ext hEw39)).chg hCw40 (fun hs=>by have h:_=_:=hs;omega))
     have hK36:=(((((hK33.ext hEw38)).ext hEw39)).chg hCw40 (fun hs=>by have h:_=_:=hs;omega))
     have hK37:=(((((hK34.ext hEw38)).ext hEw39)).chg hCw40 (fun hs=>by have h:_=_:=hs;omega))
     refine za (zl (some 138) (zd4 5 4 _ (((hFz14_0.ext hEw39)).chg hCw40 (fun k h1 h2 hs=>by have h:k=_:=hs;omega)) (by first | omega | decide) (by first | omega | decide) (by first | omega | decide) (za1 wO3) (zaQ (n:=5) wO3 rfl) (by first | omega | decide) hK35 hK36 hK37) ?_)
     rintro _ w41 ⟨rfl,hEw41⟩
     have hzw41:=hEw41.size
     rw [show zaT (wT3.getD (4/4) Un.zero) (4%4)=1 from wG3]
     refine zc 5 [(8,(vI 0)),(7,(vI 1)),(140,(vI 0)),(139,(vI 1)),(136,(.tuple #[(vI 1),(vI 0)]))] (zf (zb (ze (zd (zc 2 [(142,(vI 0)),(141,(vI 0))] (za (zt (some 143) .i64 (IntKind.i64.wrap (((0:Nat):Int)+((0:Nat):Int))) 0 (zA (by omega) (by omega) (by omega)) ?_)))))))
     refine zc 1 [(144,(vI 0))] (za (zt (some 145) .i64 (IntKind.i64.wrap (((0:Nat):Int)+((0:Nat):Int))) 0 (zA (by omega) (by omega) (by omega)) ?_))
     refine zc 3 [(148,(vI 0)),(147,vT),(146,vT)] (za (zai (some 149) (((0:Nat):Int)==((0:Nat):Int)) true (zas (by omega)) ?_))
     refine zc 3 [(152,(vI 1)),(151,vT),(150,vT)] (za (zai (some 153) (((1:Nat):Int)==((1:Nat):Int)) true (zas (by omega)) ?_))
     refine zc 3 [(156,(vP w38.heap.size 1)),(155,vT),(154,vT)] (za (zj (some 157) (Instr.loadAt 36 (vP w38.heap.size 1)) (.slice a6 (tot 5) (tot 5)) (zk ((hBw40.ext hEw41).cell rfl)) ?_))
     refine zc 1 [(158,(vI (tot 5)))] (za (zai (some 159) ((((tot 5):Nat):Int)==((3:Nat):Int)) true (zas (by omega)) ?_))
     refine zc 3 [(162,(vP w38.heap.size 1)),(161,vT),(160,vT)] (za (zj (some 163) (Instr.loadAt 36 (vP w38.heap.size 1)) (.slice a6 (tot 5) (tot 5)) (zk ((hBw40.ext hEw41).cell rfl)) ?_))
     obtain ⟨b3,o3,rfl⟩:=hFz14_0.addr (by omega) (by decide)
     refine za (zj (some 164) (Instr.indexAt 36 (.slice (pA b3 o3) (tot 5) (tot 5)) (vI 1)) (vP b3 (o3+1*280)) (zP (E:=77) (sz:=280) (by omega)) ?_)
     refine zc 1 [(165,(vP b3 (o3+1*280+274)))] ?_
     have hK38:=(((((hFz14_0.ext hEw39)).chg hCw40 (fun k h1 h2 hs=>by have h:k=_:=hs;omega))).ext hEw41)
     refine za (zj (some 166) (Instr.loadAt 3 (vP b3 (o3+1*280+274))) (.int .i64 ((wT3.getD 1 Un.zero).sl)) (zk (hK38.cell (j:=274) (i:=1) Un.zero (by omega) (zbk _))) ?_)
     refine za (zai (some 167) ((wT3.getD 1 Un.zero).sl==((0:Nat):Int)) true (zas (by omega)) ?_)
     refine zc 3 [(170,(vP w38.heap.size 1)),(169,vT),(168,vT)] (za (zj (some 171) (Instr.loadAt 36 (vP w38.heap.size 1)) (.slice (pA b3 o3) (tot 5) (tot 5)) (zk ((hBw40.ext hEw41).cell rfl)) ?_))
     refine za (zj (some 172) (Instr.indexAt 36 (.slice (pA b3 o3) (tot 5) (tot 5)) (vI 2)) (vP b3 (o3+2*280)) (zP (E:=77) (sz:=280) (by omega)) ?_)
     refine zc 1 [(173,(vP b3 (o3+2*280+274)))] (za (zj (some 174) (Instr.loadAt 3 (vP b3 (o3+2*280+274))) (.int .i64 ((wT3.getD 2 Un.zero).sl)) (zk (hK38.cell (j:=274) (i:=2) Un.zero (by omega) (zbk _))) ?_))
     refine za (zai (some 175) ((wT3.getD 2 Un.zero).sl==((1:Nat):Int)) true (zas (by omega)) ?_)
     refine zc 2 [(0,vT),(176,vT)] (zf (zb (zq (zr vT ?_))))
     have hX7:Ext w w41:=((Ext.own (((((((Ext.own (Ext.own ((((Ext.own (((((((Ext.own ((((Ext.own (((((Ext.own (Ext.own (((hEw1.trans hEw2).trans hEw3).trans hEw4) hCw5 (by omega)) hCw6 (by omega)).trans hEw7).trans hEw8).trans hEw9).trans hEw10) hCw11 (by omega)).trans hEw12).trans hEw13).trans hEw14) hCw15 (by omega)).trans hEw16).trans hEw17).trans hX3).trans hEw22).trans hEw23).trans hEw24) hCw25 (by omega)).trans hEw26).trans hEw27).trans hEw28) hCw29 (by omega)) hCw30 (by omega)).trans hEw31).trans hEw32).trans hEw33).trans hX6).trans hEw38).trans hEw39) hCw40 (by omega)).trans hEw41)
     exact ⟨rfl,hX7⟩
    ·refine zo (some 17) (Instr.alloc 38 true (.tuple #[])) (vP w34.heap.size 0) ([(vI 0),(.slice none 0 0)]) 38 ?_
     intro w42 hBw42 hEw42
     have hzw42:=hEw42.size;have hlw42:=hBw42.lt
     have hX8:Ext w33 w42:=(hEw34.trans hEw42)
     refine ⟨.inr hX8, ?_⟩
     have hK39:=(((((((hK26.ext hEw32)).ext hEw33)).ext hEw34)).ext hEw42)
     have hK40:=(((((((((((((((((((((((((((hK17.ext hEw22)).ext hEw23)).ext hEw24)).chg hCw25 (fun hs=>by have h:_=_:=hs;omega))).ext hEw26)).ext hEw27)).ext hEw28)).chg hCw29 (fun hs=>by have h:_=_:=hs;omega))).chg hCw30 (fun hs=>by have h:_=_:=hs;omega))).ext hEw31)).ext hEw32)).ext hEw33)).ext hEw34)).ext hEw42)
     have hK41:=(((((((((((((((((((((((((((hK18.ext hEw22)).ext hEw23)).ext hEw24)).chg hCw25 (fun hs=>by have h:_=_:=hs;omega))).ext hEw26)).ext hEw27)).ext hEw28)).chg hCw29 (fun hs=>by have h:_=_:=hs;omega))).chg hCw30 (fun hs=>by have h:_=_:=hs;omega))).ext hEw31)).ext hEw32)).ext hEw33)).ext hEw34)).ext hEw42)
     have hK42:=(((((((((((((((((((((((((((hK19.ext hEw22)).ext hEw23)).ext hEw24)).chg hCw25 (fun hs=>by have h:_=_:=hs;omega))).ext hEw26)).ext hEw27)).ext hEw28)).chg hCw29 (fun hs=>by have h:_=_:=hs;omega))).chg hCw30 (fun hs=>by have h:_=_:=hs;omega))).ext hEw31)).ext hEw32)).ext hEw33)).ext hEw34)).ext hEw42)
     refine zz 3 271 (zl (some 127) (zdk 5 4 (za5 4) (mkD 4) _ hK39 (by first | omega | decide) (by first | omega | decide) (by first | omega | decide) (za1 wO1) (zaQ (n:=5) wO1 rfl) (by first | omega | decide) hK40 hK41 hK42) ?_)
     rintro _ w43 ⟨a7,rfl,hFz16_0,hEw43⟩
     have hzw43:=hEw43.size
     have hlea7:=hFz16_0.le
     rw [show zdt 5 wT1 4 (za5 4) (mkD 4)=wT2 from wE1] at hFz16_0
     rw [show (zaT (wT1.getD (4/4) Un.zero) (4%4))=0 from wG1]
     have hX9:Ext w33 w43:=((hEw34.trans hEw42).trans hEw43)
     refine ⟨.inr hX9, ?_⟩
     refine zh (hw:=hX9) hT291 [(4,123,(.tuple #[(vA [(vI 5),(.slice a7 (tot 5) (tot 5))]),(vI 0),(vI 0)])),(5,128,(vA [(vI 5),(.slice a7 (tot 5) (tot 5))])),(6,129,(vI 0)),(7,130,(vI 0))] 4 511 (zz 9 1023 (zv 38 w34.heap.size 0 38 (vA [(vI 5),(.slice a7 (tot 5) (tot 5))]) ([(vI 0),(.slice none 0 0)]) ([(vI 5),(.slice a7 (tot 5) (tot 5))]) (hBw42.ext hEw43) (by kernel_rfl) (by first | decide |(simp;done)|(simp;omega)) (by simp [Value.oneCell']) ?_))
     intro w44 hBw44 hCw44
     have hzw44:=hCw44.size
     rw [zm _ _ (by kernel_rfl)] at hBw44
     have hX10:Ext w33 w44:=(Ext.own ((hEw34.trans hEw42).trans hEw43) hCw44 (by omega))
     refine ⟨.inr hX10, ?_⟩
     refine zh (hw:=hX10) hT291 [(10,10,(vI 0)),(11,4,(vI 0))] 2 4095 (zJ (zb (ze (zd (za (zj (some 132) (Instr.loadAt 38 (vP w34.heap.size 0)) (vA [(vI 5),(.slice a7 (tot 5) (tot 5))]) (zw (vs:= [(vI 5),(.slice a7 (tot 5) (tot 5))]) (hBw44.all)) ?_))))))
     refine za (zl (some 133) (zd3 5 _ ((hFz16_0).chg hCw44 (fun k h1 h2 hs=>by have h:k=_:=hs;omega)) (by first | omega | decide) (by first | omega | decide) (by first | omega | decide) (za1 wO2) (zaQ (n:=5) wO2 rfl) (((hK40.ext hEw43)).chg hCw44 (fun hs=>by have h:_=_:=hs;omega)) (((hK41.ext hEw43)).chg hCw44 (fun hs=>by have h:_=_:=hs;omega)) (((hK42.ext hEw43)).chg hCw44 (fun hs=>by have h:_=_:=hs;omega))) ?_)
     rintro _ w45 ⟨a8,rfl,hFz17_0,hEw45⟩
     have hzw45:=hEw45.size
     have hlea8:=hFz17_0.le
     rw [show zba (tot 5) wT2=wT3 from wE2] at hFz17_0
     refine zc 3 [(135,(vI 0)),(134,(vA [(vI 5),(.slice a8 (tot 5) (tot 5))])),(131,(.tuple #[(vA [(vI 5),(.slice a8 (tot 5) (tot 5))]),(vI 0)]))] (za (zo (some 18) (Instr.alloc 38 true (.tuple #[])) (vP w45.heap.size 0) ([(vI 0),(.slice none 0 0)]) 38 ?_))
     intro w46 hBw46 hEw46
     have hzw46:=hEw46.size;have hlw46:=hBw46.lt
     refine za (zv 38 w45.heap.size 0 38 (vA [(vI 5),(.slice a8 (tot 5) (tot 5))]) ([(vI 0),(.slice none 0 0)]) ([(vI 5),(.slice a8 (tot 5) (tot 5))]) hBw46 (by kernel_rfl) (by first | decide |(simp;done)|(simp;omega)) (by simp [Value.oneCell']) ?_)
     intro w47 hBw47 hCw47
     have hzw47:=hCw47.size
     rw [zm _ _ (by kernel_rfl)] at hBw47
     refine zc 1 [(6,(vI 0))] (zf (zb (ze (zd (za (zj (some 137) (Instr.loadAt 38 (vP w45.heap.size 0)) (vA [(vI 5),(.slice a8 (tot 5) (tot 5))]) (zw (vs:= [(vI 5),(.slice a8 (tot 5) (tot 5))]) (hBw47.all)) ?_))))))
     have hK43:=(((((((((hK40.ext hEw43)).chg hCw44 (fun hs=>by have h:_=_:=hs;omega))).ext hEw45)).ext hEw46)).chg hCw47 (fun hs=>by have h:_=_:=hs;omega))
     have hK44:=(((((((((hK41.ext hEw43)).chg hCw44 (fun hs=>by have h:_=_:=hs;omega))).ext hEw45)).ext hEw46)).chg hCw47 (fun hs=>by have h:_=_:=hs;omega))
     have hK45:=(((((((((hK42.ext hEw43)).chg hCw44 (fun hs=>by have h:_=_:=hs;omega))).ext hEw45)).ext hEw46)).chg hCw47 (fun hs=>by have h:_=_:=hs;omega))
     refine za (zl (some 138) (zd4 5 4 _ (((hFz17_0.ext hEw46)).chg hCw47 (fun k h1 h2 hs=>by have h:k=_:=hs;omega)) (by first | omega | decide) (by first | omega | decide) (by first | omega | decide) (za1 wO3) (zaQ (n:=5) wO3 rfl) (by first | omega | decide) hK43 hK44 hK45) ?_)
     rintro _ w48 ⟨rfl,hEw48⟩
     have hzw48:=hEw48.size
     rw [show zaT (wT3.getD (4/4) Un.zero) (4%4)=1 from wG3]
     refine zc 5 [(8,(vI 0)),(7,(vI 1)),(140,(vI 0)),(139,(vI 1)),(136,(.tuple #[(vI 1),(vI 0)]))] (zf (zb (ze (zd (zc 2 [(142,(vI 0)),(141,(vI 0))] (za (zt (some 143) .i64 (IntKind.i64.wrap (((0:Nat):Int)+((0:Nat):Int))) 0 (zA (by omega) (by omega) (by omega)) ?_)))))))
     refine zc 1 [(144,(vI 0))] (za (zt (some 145) .i64 (IntKind.i64.wrap (((0:Nat):Int)+((0:Nat):Int))) 0 (zA (by omega) (by omega) (by omega)) ?_))
     refine zc 3 [(148,(vI 0)),(147,vT),(146,vT)] (za (zai (some 149) (((0:Nat):Int)==((0:Nat):Int)) true (zas (by omega)) ?_))
     refine zc 3 [(152,(vI 1)),(151,vT),(150,vT)] (za (zai (some 153) (((1:Nat):Int)==((1:Nat):Int)) true (zas (by omega)) ?_))
     refine zc 3 [(156,(vP w45.heap.size 1)),(155,vT),(154,vT)] (za (zj (some 157) (Instr.loadAt 36 (vP w45.heap.size 1)) (.slice a8 (tot 5) (tot 5)) (zk ((hBw47.ext hEw48).cell rfl)) ?_))
     refine zc 1 [(158,(vI (tot 5)))] (za (zai (some 159) ((((tot 5):Nat):Int)==((3:Nat):Int)) true (zas (by omega)) ?_))
     refine zc 3 [(162,(vP w45.heap.size 1)),(161,vT),(160,vT)] (za (zj (some 163) (Instr.loadAt 36 (vP w45.heap.size 1)) (.slice a8 (tot 5) (tot 5)) (zk ((hBw47.ext hEw48).cell rfl)) ?_))
     obtain ⟨b4,o4,rfl⟩:=hFz17_0.addr (by omega) (by decide)
     refine za (zj (some 164) (Instr.indexAt 36 (.slice (pA b4 o4) (tot 5) (tot 5)) (vI 1)) (vP b4 (o4+1*280)) (zP (E:=77) (sz:=280) (by omega)) ?_)
     refine zc 1 [(165,(vP b4 (o4+1*280+274)))] ?_
     have hK46:=(((((hFz17_0.ext hEw46)).chg hCw47 (fun k h1 h2 hs=>by have h:k=_:=hs;omega))).ext hEw48)
     refine za (zj (some 166) (Instr.loadAt 3 (vP b4 (o4+1*280+274))) (.int .i64 ((wT3.getD 1 Un.zero).sl)) (zk (hK46.cell (j:=274) (i:=1) Un.zero (by omega) (zbk _))) ?_)
     refine za (zai (some 167) ((wT3.getD 1 Un.zero).sl==((0:Nat):Int)) true (zas (by omega)) ?_)
     refine zc 3 [(170,(vP w45.heap.size 1)),(169,vT),(168,vT)] (za (zj (some 171) (Instr.loadAt 36 (vP w45.heap.size 1)) (.slice (pA b4 o4) (tot 5) (tot 5)) (zk ((hBw47.ext hEw48).cell rfl)) ?_))
     refine za (zj (some 172) (Instr.indexAt 36 (.slice (pA b4 o4) (tot 5) (tot 5)) (vI 2)) (vP b4 (o4+2*280)) (zP (E:=77) (sz:=280) (by omega)) ?_)
     refine zc 1 [(173,(vP b4 (o4+2*280+274)))] (za (zj (some 174) (Instr.loadAt 3 (vP b4 (o4+2*280+274))) (.int .i64 ((wT3.getD 2 Un.zero).sl)) (zk (hK46.cell (j:=274) (i:=2) Un.zero (by omega) (zbk _))) ?_))
     refine za (zai (some 175) ((wT3.getD 2 Un.zero).sl==((1:Nat):Int)) true (zas (by omega)) ?_)
     refine zc 2 [(0,vT),(176,vT)] (zf (zb (zq (zr vT ?_))))
     have hX11:Ext w w48:=((Ext.own (((((((Ext.own (Ext.own ((((Ext.own (((((((Ext.own ((((Ext.own (((((Ext.own (Ext.own (((hEw1.trans hEw2).trans hEw3).trans hEw4) hCw5 (by omega)) hCw6 (by omega)).trans hEw7).trans hEw8).trans hEw9).trans hEw10) hCw11 (by omega)).trans hEw12).trans hEw13).trans hEw14) hCw15 (by omega)).trans hEw16).trans hEw17).trans hX3).trans hEw22).trans hEw23).trans hEw24) hCw25 (by omega)).trans hEw26).trans hEw27).trans hEw28) hCw29 (by omega)) hCw30 (by omega)).trans hEw31).trans hEw32).trans hEw33).trans hX10).trans hEw45).trans hEw46) hCw47 (by omega)).trans hEw48)
     exact ⟨rfl,hX11⟩
   ·refine zo (some 17) (Instr.alloc 38 true (.tuple #[])) (vP w33.heap.size 0) ([(vI 0),(.slice none 0 0)]) 38 ?_
    intro w49 hBw49 hEw49
    have hzw49:=hEw49.size;have hlw49:=hBw49.lt
    refine ⟨.inr hEw49, ?_⟩
    refine zz 1 263 (zl (some 125) (zck 4 _ (by first | omega | decide | exact UInt8.toNat_lt _)) ?_)
    rintro _ w50 ⟨rfl,hEw50⟩
    have hzw50:=hEw50.size
    have hX12:Ext w33 w50:=(hEw49.trans hEw50)
    refine ⟨.inr hX12, ?_⟩
    have hK47:=(((((((hK26.ext hEw32)).ext hEw33)).ext hEw49)).ext hEw50)
    have hK48:=(((((((((((((((((((((((((((hK17.ext hEw22)).ext hEw23)).ext hEw24)).chg hCw25 (fun hs=>by have h:_=_:=hs;omega))).ext hEw26)).ext hEw27)).ext hEw28)).chg hCw29 (fun hs=>by have h:_=_:=hs;omega))).chg hCw30 (fun hs=>by have h:_=_:=hs;omega))).ext hEw31)).ext hEw32)).ext hEw33)).ext hEw49)).ext hEw50)
    have hK49:=(((((((((((((((((((((((((((hK18.ext hEw22)).ext hEw23)).ext hEw24)).chg hCw25 (fun hs=>by have h:_=_:=hs;omega))).ext hEw26)).ext hEw27)).ext hEw28)).chg hCw29 (fun hs=>by have h:_=_:=hs;omega))).chg hCw30 (fun hs=>by have h:_=_:=hs;omega))).ext hEw31)).ext hEw32)).ext hEw33)).ext hEw49)).ext hEw50)
    have hK50:=(((((((((((((((((((((((((((hK19.ext hEw22)).ext hEw23)).ext hEw24)).chg hCw25 (fun hs=>by have h:_=_:=hs;omega))).ext hEw26)).ext hEw27)).ext hEw28)).chg hCw29 (fun hs=>by have h:_=_:=hs;omega))).chg hCw30 (fun hs=>by have h:_=_:=hs;omega))).ext hEw31)).ext hEw32)).ext hEw33)).ext hEw49)).ext hEw50)
    refine zz 3 271 (zl (some 127) (zdk 5 4 (za5 4) (mkD 4) _ hK47 (by first | omega | decide) (by first | omega | decide) (by first | omega | decide) (za1 wO1) (zaQ (n:=5) wO1 rfl) (by first | omega | decide) hK48 hK49 hK50) ?_)
    rintro _ w51 ⟨a9,rfl,hFz20_0,hEw51⟩
    have hzw51:=hEw51.size
    have hlea9:=hFz20_0.le
    rw [show zdt 5 wT1 4 (za5 4) (mkD 4)=wT2 from wE1] at hFz20_0
    rw [show (zaT (wT1.getD (4/4) Un.zero) (4%4))=0 from wG1]
    have hX13:Ext w33 w51:=((hEw49.trans hEw50).trans hEw51)
    refine ⟨.inr hX13, ?_⟩
    refine zh (hw:=hX13) hT291 [(4,123,(.tuple #[(vA [(vI 5),(.slice a9 (tot 5) (tot 5))]),(vI 0),(vI 0)])),(5,128,(vA [(vI 5),(.slice a9 (tot 5) (tot 5))])),(6,129,(vI 0)),(7,130,(vI 0))] 4 511 (zz 9 1023 (zv 38 w33.heap.size 0 38 (vA [(vI 5),(.slice a9 (tot 5) (tot 5))]) ([(vI 0),(.slice none 0 0)]) ([(vI 5),(.slice a9 (tot 5) (tot 5))]) (((hBw49.ext hEw50)).ext hEw51) (by kernel_rfl) (by first | decide |(simp;done)|(simp;omega)) (by simp [Value.oneCell']) ?_))
    intro w52 hBw52 hCw52
    have hzw52:=hCw52.size
    rw [zm _ _ (by kernel_rfl)] at hBw52
    have hX14:Ext w33 w52:=(Ext.own ((hEw49.trans hEw50).trans hEw51) hCw52 (by omega))
    refine ⟨.inr hX14, ?_⟩
    refine zh (hw:=hX14) hT291 [(10,10,(vI 0)),(11,4,(vI 0))] 2 4095 (zJ (zb (ze (zd (za (zj (some 132) (Instr.loadAt 38 (vP w33.heap.size 0)) (vA [(vI 5),(.slice a9 (tot 5) (tot 5))]) (zw (vs:= [(vI 5),(.slice a9 (tot 5) (tot 5))]) (hBw52.all)) ?_))))))
    refine za (zl (some 133) (zd3 5 _ ((hFz20_0).chg hCw52 (fun k h1 h2 hs=>by have h:k=_:=hs;omega)) (by first | omega | decide) (by first | omega | decide) (by first | omega | decide) (za1 wO2) (zaQ (n:=5) wO2 rfl) (((hK48.ext hEw51)).chg hCw52 (fun hs=>by have h:_=_:=hs;omega)) (((hK49.ext hEw51)).chg hCw52 (fun hs=>by have h:_=_:=hs;omega)) (((hK50.ext hEw51)).chg hCw52 (fun hs=>by have h:_=_:=hs;omega))) ?_)
    rintro _ w53 ⟨a10,rfl,hFz21_0,hEw53⟩
    have hzw53:=hEw53.size
    have hlea10:=hFz21_0.le
    rw [show zba (tot 5) wT2=wT3 from wE2] at hFz21_0
    refine zc 3 [(135,(vI 0)),(134,(vA [(vI 5),(.slice a10 (tot 5) (tot 5))])),(131,(.tuple #[(vA [(vI 5),(.slice a10 (tot 5) (tot 5))]),(vI 0)]))] (za (zo (some 18) (Instr.alloc 38 true (.tuple #[])) (vP w53.heap.size 0) ([(vI 0),(.slice none 0 0)]) 38 ?_))
    intro w54 hBw54 hEw54
    have hzw54:=hEw54.size;have hlw54:=hBw54.lt
    refine za (zv 38 w53.heap.size 0 38 (vA [(vI 5),(.slice a10 (tot 5) (tot 5))]) ([(vI 0),(.slice none 0 0)]) ([(vI 5),(.slice a10 (tot 5) (tot 5))]) hBw54 (by kernel_rfl) (by first | decide |(simp;done)|(simp;omega)) (by simp [Value.oneCell']) ?_)
    intro w55 hBw55 hCw55
    have hzw55:=hCw55.size
    rw [zm _ _ (by kernel_rfl)] at hBw55
    refine zc 1 [(6,(vI 0))] (zf (zb (ze (zd (za (zj (some 137) (Instr.loadAt 38 (vP w53.heap.size 0)) (vA [(vI 5),(.slice a10 (tot 5) (tot 5))]) (zw (vs:= [(vI 5),(.slice a10 (tot 5) (tot 5))]) (hBw55.all)) ?_))))))
    have hK51:=(((((((((hK48.ext hEw51)).chg hCw52 (fun hs=>by have h:_=_:=hs;omega))).ext hEw53)).ext hEw54)).chg hCw55 (fun hs=>by have h:_=_:=hs;omega))
    have hK52:=(((((((((hK49.ext hEw51)).chg hCw52 (fun hs=>by have h:_=_:=hs;omega))).ext hEw53)).ext hEw54)).chg hCw55 (fun hs=>by have h:_=_:=hs;omega))
    have hK53:=(((((((((hK50.ext hEw51)).chg hCw52 (fun hs=>by have h:_=_:=hs;omega))).ext hEw53)).ext hEw54)).chg hCw55 (fun hs=>by have h:_=_:=hs;omega))
    refine za (zl (some 138) (zd4 5 4 _ (((hFz21_0.ext hEw54)).chg hCw55 (fun k h1 h2 hs=>by have h:k=_:=hs;omega)) (by first | omega | decide) (by first | omega | decide) (by first | omega | decide) (za1 wO3) (zaQ (n:=5) wO3 rfl) (by first | omega | decide) hK51 hK52 hK53) ?_)
    rintro _ w56 ⟨rfl,hEw56⟩
    have hzw56:=hEw56.size
    rw [show zaT (wT3.getD (4/4) Un.zero) (4%4)=1 from wG3]
    refine zc 5 [(8,(vI 0)),(7,(vI 1)),(140,(vI 0)),(139,(vI 1)),(136,(.tuple #[(vI 1),(vI 0)]))] (zf (zb (ze (zd (zc 2 [(142,(vI 0)),(141,(vI 0))] (za (zt (some 143) .i64 (IntKind.i64.wrap (((0:Nat):Int)+((0:Nat):Int))) 0 (zA (by omega) (by omega) (by omega)) ?_)))))))
    refine zc 1 [(144,(vI 0))] (za (zt (some 145) .i64 (IntKind.i64.wrap (((0:Nat):Int)+((0:Nat):Int))) 0 (zA (by omega) (by omega) (by omega)) ?_))
    refine zc 3 [(148,(vI 0)),(147,vT),(146,vT)] (za (zai (some 149) (((0:Nat):Int)==((0:Nat):Int)) true (zas (by omega)) ?_))
    refine zc 3 [(152,(vI 1)),(151,vT),(150,vT)] (za (zai (some 153) (((1:Nat):Int)==((1:Nat):Int)) true (zas (by omega)) ?_))
    refine zc 3 [(156,(vP w53.heap.size 1)),(155,vT),(154,vT)] (za (zj (some 157) (Instr.loadAt 36 (vP w53.heap.size 1)) (.slice a10 (tot 5) (tot 5)) (zk ((hBw55.ext hEw56).cell rfl)) ?_))
    refine zc 1 [(158,(vI (tot 5)))] (za (zai (some 159) ((((tot 5):Nat):Int)==((3:Nat):Int)) true (zas (by omega)) ?_))
    refine zc 3 [(162,(vP w53.heap.size 1)),(161,vT),(160,vT)] (za (zj (some 163) (Instr.loadAt 36 (vP w53.heap.size 1)) (.slice a10 (tot 5) (tot 5)) (zk ((hBw55.ext hEw56).cell rfl)) ?_))
    obtain ⟨b5,o5,rfl⟩:=hFz21_0.addr (by omega) (by decide)
    refine za (zj (some 164) (Instr.indexAt 36 (.slice (pA b5 o5) (tot 5) (tot 5)) (vI 1)) (vP b5 (o5+1*280)) (zP (E:=77) (sz:=280) (by omega)) ?_)
    refine zc 1 [(165,(vP b5 (o5+1*280+274)))] ?_
    have hK54:=(((((hFz21_0.ext hEw54)).chg hCw55 (fun k h1 h2 hs=>by have h:k=_:=hs;omega))).ext hEw56)
    refine za (zj (some 166) (Instr.loadAt 3 (vP b5 (o5+1*280+274))) (.int .i64 ((wT3.getD 1 Un.zero).sl)) (zk (hK54.cell (j:=274) (i:=1) Un.zero (by omega) (zbk _))) ?_)
    refine za (zai (some 167) ((wT3.getD 1 Un.zero).sl==((0:Nat):Int)) true (zas (by omega)) ?_)
    refine zc 3 [(170,(vP w53.heap.size 1)),(169,vT),(168,vT)] (za (zj (some 171) (Instr.loadAt 36 (vP w53.heap.size 1)) (.slice (pA b5 o5) (tot 5) (tot 5)) (zk ((hBw55.ext hEw56).cell rfl)) ?_))
    refine za (zj (some 172) (Instr.indexAt 36 (.slice (pA b5 o5) (tot 5) (tot 5)) (vI 2)) (vP b5 (o5+2*280)) (zP (E:=77) (sz:=280) (by omega)) ?_)
    refine zc 1 [(173,(vP b5 (o5+2*280+274)))] (za (zj (some 174) (Instr.loadAt 3 (vP b5 (o5+2*280+274))) (.int .i64 ((wT3.getD 2 Un.zero).sl)) (zk (hK54.cell (j:=274) (i:=2) Un.zero (by omega) (zbk _))) ?_))
    refine za (zai (some 175) ((wT3.getD 2 Un.zero).sl==((1:Nat):Int)) true (zas (by omega)) ?_)
    refine zc 2 [(0,vT),(176,vT)] (zf (zb (zq (zr vT ?_))))
    have hX15:Ext w w56:=((Ext.own (((((((Ext.own (Ext.own ((((Ext.own (((((((Ext.own ((((Ext.own (((((Ext.own (Ext.own (((hEw1.trans hEw2).trans hEw3).trans hEw4) hCw5 (by omega)) hCw6 (by omega)).trans hEw7).trans hEw8).trans hEw9).trans hEw10) hCw11 (by omega)).trans hEw12).trans hEw13).trans hEw14) hCw15 (by omega)).trans hEw16).trans hEw17).trans hX3).trans hEw22).trans hEw23).trans hEw24) hCw25 (by omega)).trans hEw26).trans hEw27).trans hEw28) hCw29 (by omega)) hCw30 (by omega)).trans hEw31).trans hEw32).trans hEw33).trans hX14).trans hEw53).trans hEw54) hCw55 (by omega)).trans hEw56)
    exact ⟨rfl,hX15⟩
  ·refine zo (some 9) (Instr.alloc 38 true (.tuple #[])) (vP w18.heap.size 0) ([(vI 0),(.slice none 0 0)]) 38 ?_
   intro w57 hBw57 hEw57
   have hzw57:=hEw57.size;have hlw57:=hBw57.lt
   have hX16:Ext w17 w57:=(hEw18.trans hEw57)
   refine ⟨.inr hX16, ?_⟩
   have hK55:=(((((((((((hFz4_0.ext hEw14)).chg hCw15 (fun k h1 h2 hs=>by have h:k=_:=hs;omega))).ext hEw16)).ext hEw17)).ext hEw18)).ext hEw57)
   have hK56:=(((((((hK9.ext hEw16)).ext hEw17)).ext hEw18)).ext hEw57)
   have hK57:=(((((((hK10.ext hEw16)).ext hEw17)).ext hEw18)).ext hEw57)
   have hK58:=(((((((hK11.ext hEw16)).ext hEw17)).ext hEw18)).ext hEw57)
   refine zz 3 271 (zl (some 42) (zdk 5 4 (za5 3) (mkD 3) _ hK55 (by first | omega | decide) (by first | omega | decide) (by first | omega | decide) (za1 wO0) (zaQ (n:=5) wO0 rfl) (by first | omega | decide) hK56 hK57 hK58) ?_)
   rintro _ w58 ⟨a11,rfl,hFz23_0,hEw58⟩
   have hzw58:=hEw58.size
   have hlea11:=hFz23_0.le
   rw [show zdt 5 wT0 4 (za5 3) (mkD 3)=wT1 from wE0] at hFz23_0
   rw [show (zaT (wT0.getD (4/4) Un.zero) (4%4))=0 from wG0]
   have hX17:Ext w17 w58:=((hEw18.trans hEw57).trans hEw58)
   refine ⟨.inr hX17, ?_⟩
   refine zh (hw:=hX17) hT111 [(4,38,(.tuple #[(vA [(vI 5),(.slice a11 (tot 5) (tot 5))]),(vI 0),(vI 0)])),(5,43,(vA [(vI 5),(.slice a11 (tot 5) (tot 5))])),(6,44,(vI 0)),(7,45,(vI 0))] 4 511 (zz 9 1023 (zv 38 w18.heap.size 0 38 (vA [(vI 5),(.slice a11 (tot 5) (tot 5))]) ([(vI 0),(.slice none 0 0)]) ([(vI 5),(.slice a11 (tot 5) (tot 5))]) (hBw57.ext hEw58) (by kernel_rfl) (by first | decide |(simp;done)|(simp;omega)) (by simp [Value.oneCell']) ?_))
   intro w59 hBw59 hCw59
   have hzw59:=hCw59.size
   rw [zm _ _ (by kernel_rfl)] at hBw59
   have hX18:Ext w17 w59:=(Ext.own ((hEw18.trans hEw57).trans hEw58) hCw59 (by omega))
   refine ⟨.inr hX18, ?_⟩
   refine zh (hw:=hX18) hT111 [(10,10,(vI 0)),(11,11,(vI 0))] 2 4095 (zJ (zb (ze (zd (za (zj (some 47) (Instr.loadAt 38 (vP w18.heap.size 0)) (vA [(vI 5),(.slice a11 (tot 5) (tot 5))]) (zw (vs:= [(vI 5),(.slice a11 (tot 5) (tot 5))]) (hBw59.all)) ?_))))))
   refine za (zl (some 48) (zkt 5 _ ((hFz23_0).chg hCw59 (fun k h1 h2 hs=>by have h:k=_:=hs;omega)) (by first | omega | decide) (by first | omega | decide) (by first | omega | decide) (za1 wO1) (zaQ (n:=5) wO1 rfl) (((hK56.ext hEw58)).chg hCw59 (fun hs=>by have h:_=_:=hs;omega)) (((hK57.ext hEw58)).chg hCw59 (fun hs=>by have h:_=_:=hs;omega)) (((hK58.ext hEw58)).chg hCw59 (fun hs=>by have h:_=_:=hs;omega))) ?_)
   rintro _ w60 ⟨a12,rfl,hFz24_0,hEw60⟩
   have hzw60:=hEw60.size
   have hlea12:=hFz24_0.le
   rw [wD1,show List.length [(0,1),(1,0)]=2 from rfl] at hFz24_0
   rw [show zbv 5 wT1 (tot 5)= [(0,1),(1,0)] from wD1]
   rw [show List.length ([(0,1),(1,0)])=2 from rfl]
   refine zc 5 [(13,(vI 0)),(12,(.slice a12 2 2)),(50,(vI 0)),(49,(.slice a12 2 2)),(46,(.tuple #[(.slice a12 2 2),(vI 0)]))] (zf (zb (ze (zd (za (zj (some 52) (Instr.loadAt 38 (vP w18.heap.size 0)) (vA [(vI 5),(.slice a11 (tot 5) (tot 5))]) (zw (vs:= [(vI 5),(.slice a11 (tot 5) (tot 5))]) ((hBw59.ext hEw60).all)) ?_))))))
   have hK59:=(((((hK56.ext hEw58)).chg hCw59 (fun hs=>by have h:_=_:=hs;omega))).ext hEw60)
   have hK60:=(((((hK57.ext hEw58)).chg hCw59 (fun hs=>by have h:_=_:=hs;omega))).ext hEw60)
   have hK61:=(((((hK58.ext hEw58)).chg hCw59 (fun hs=>by have h:_=_:=hs;omega))).ext hEw60)
   refine za (zl (some 53) (zjN 5 4 _ ((((hFz23_0).chg hCw59 (fun k h1 h2 hs=>by have h:k=_:=hs;omega))).ext hEw60) (by first | omega | decide) (by first | omega | decide) (by first | omega | decide) (za1 wO1) (zaQ (n:=5) wO1 rfl) (by first | omega | decide) hK59 hK60 hK61) ?_)
   rintro _ w61 ⟨rfl,hEw61⟩
   have hzw61:=hEw61.size
   rw [show (wT1.getD (4/4) Un.zero).nd.rs.get (4%4)=wR1 from zna]
   refine zc 3 [(55,(vI 0)),(54,(vA (zM (wR1)))),(51,(.tuple #[(vA (zM (wR1))),(vI 0)]))] (za (zo (some 14) (Instr.alloc 68 true (.tuple #[])) (vP w61.heap.size 0) (zM Rec.zero) 68 ?_))
   intro w62 hBw62 hEw62
   have hzw62:=hEw62.size;have hlw62:=hBw62.lt
   refine za (zv 68 w61.heap.size 0 68 (vA (zM (wR1))) (zM Rec.zero) (zM (wR1)) hBw62 (by rw [zab];kernel_rfl) (by first |(simp;done)|(simp;omega)) (za2 _) ?_)
   intro w63 hBw63 hCw63
   have hzw63:=hCw63.size
   rw [zm _ _ (by simp)] at hBw63
   refine zc 1 [(15,(vI 0))] (zf (zb (ze (ze ?_))))
   refine zT (Ext w63.drew) 52 [(57,16,0),(58,64,0),(59,216172782113783808,3),(60,256,0),(61,864691128455135232,12),(62,2048,0),(63,3458764513820540928,48),(64,8192,0),(65,13835058055282163712,192),(66,32768,0),(67,55340232221128654848,768),(68,73786976294838206464,1024),(69,147573952589676412928,2048),(70,295147905179352825984,4096),(71,885443715538058477568,12288),(72,1475739525896764129280,20480),(73,2361183241434822606848,36864),(74,4722366482869645214720,65536),(75,14167099448608935641088,196608),(76,23611832414348226068480,327680),(77,37778931862957161709568,589824),(78,75557863725914323423232,1048576),(79,226673591177742970257408,3145728),(80,377789318629571617095680,5242880),(81,680020773533228910772224,9437184),(82,1208925819614629174706176,17825792),(83,2417851639229258349416448,33554432),(84,7253554917687775048237056,100663296),(85,12089258196146291747061760,167772160),(86,2417851639229258349412352,33554432),(87,60446290980731458735308800,838860800),(88,79789104094565525530607616,1107296256),(89,154742504910672534362390528,2181038080),(90,309485009821345068724785152,4294967296),(91,928455029464035206174343168,12884901888),(92,1547425049106725343623905280,21474836480),(93,309485009821345068724781056,4294967296),(94,7737125245533626718119526400,107374182400),(95,10213005324104387267917774848,141733920768),(96,19807040628566084398385987584,279172874240),(97,39614081257132168796771991552,549755813888),(98,39614081257132168796771975168,549755813888),(99,39614081257132168796771975170,549755813888),(100,514983056342718194358035677184,7146825580544),(101,752667543885511207138667528192,10445360463872),(102,1307264681485361570293475180544,18141941858304),(103,2535301200456458802993406410752,37383395344384),(104,5070602400912917605986812822016,70368744177664),(105,15211807202738752817960438464512,211106232532992),(106,25353012004564588029934064107520,351843720888320),(107,45635421608216258453881315393536,633318697598976),(108,86200240815519599301775817965568,1196268651020288)] (fun hT656=> ?_)
   have hEw64:Ext w63 w63.drew:=Ext.drew w63
   generalize w63.drew=w64 at hEw64⊢
   have hzw64:=hEw64.size
   refine zh hT656 [(0,56,(vI 0)),(1,57,(vI 0))] 2 3 (zg hT656 2 7 (some 58) (vI 0) (zaa .i64 (IntKind.i64.wrap (((0:Nat):Int)+((0:Nat):Int))) (zA (by omega) (by omega) (by omega))) (zh hT656 [(3,59,(vI 0))] 1 15 (zg hT656 4 31 (some 60) (vI 0) (zaa .i64 (IntKind.i64.wrap (((0:Nat):Int)+((0:Nat):Int))) (zA (by omega) (by omega) (by omega))) (zh hT656 [(5,61,(vI 0))] 1 63 (zg hT656 6 127 (some 62) (vI 0) (zaa .i64 (IntKind.i64.wrap (((0:Nat):Int)+((0:Nat):Int))) (zA (by omega) (by omega) (by omega))) (zh hT656 [(7,63,(vI 0))] 1 255 (zg hT656 8 511 (some 64) (vI 0) (zaa .i64 (IntKind.i64.wrap (((0:Nat):Int)+((0:Nat):Int))) (zA (by omega) (by omega) (by omega))) (zh hT656 [(9,65,(vI 0))] 1 1023 (zg hT656 10 2047 (some 66) (vI 0) (zaa .i64 (IntKind.i64.wrap (((0:Nat):Int)+((0:Nat):Int))) (zA (by omega) (by omega) (by omega))) ?_)))))))))
   refine zh hT656 [(11,67,vF),(12,68,vF),(13,69,(vI 0))] 3 16383 (zg hT656 14 32767 (some 70) vF (zaD (((0:Nat):Int) !=((0:Nat):Int)) (zaA (by omega))) (zh hT656 [(15,71,vF),(16,72,vF),(17,73,(vI 0))] 3 262143 (zg hT656 18 524287 (some 74) vF (zaD (((0:Nat):Int) !=((0:Nat):Int)) (zaA (by omega))) (zh hT656 [(19,75,vF),(20,76,vF),(21,77,(.slice a12 2 2)),(22,78,(vI 2)),(23,79,vF),(24,80,vF),(25,81,vF),(26,82,(.slice a12 2 2))] 8 134217727 ?_))))
   obtain ⟨b6,o6,rfl⟩:=hFz24_0.addr (by omega) (by decide)
   refine zg hT656 27 268435455 (some 83) (vP b6 (o6+0*2)) (zi (Instr.indexAt 85 (.slice (pA b6 o6) 2 2) (vI 0)) (fun w' hC=>zP (E:=89) (sz:=2) (by omega))) ?_
   have hK62:=(((((((hFz24_0.ext hEw61)).ext hEw62)).chg hCw63 (fun k h1 h2 hs=>by have h:k=_:=hs;omega))).ext hEw64)
   refine zg hT656 28 536870911 (some 84) (vA [(vI ((([(0,1),(1,0)]).getD 0 (0,0)).1)),(vI ((([(0,1),(1,0)]).getD 0 (0,0)).2))]) (zi (Instr.loadAt 89 (vP b6 (o6+0*2))) (fun w' hC=>zw (vs:= [(vI ((([(0,1),(1,0)]).getD 0 (0,0)).1)),(vI ((([(0,1),(1,0)]).getD 0 (0,0)).2))]) ((hK62.ext hC).at (0,0) (by omega)))) (zh hT656 [(29,85,(vA [(vI 0),(vI 1)]))] 1 1073741823 (zg hT656 30 2147483647 (some 86) vF (zi (bo .neq 89 (.tmp 84) (.tmp 85) (vA [(vI ((([(0,1),(1,0)]).getD 0 (0,0)).1)),(vI ((([(0,1),(1,0)]).getD 0 (0,0)).2))]) (vA [(vI 0),(vI 1)])) (fun w' hC=>zak (r:=true) (T:=89) ((zdr (dd:=9998) (t:=89) [(vI ((([(0,1),(1,0)]).getD 0 (0,0)).1)),(vI ((([(0,1),(1,0)]).getD 0 (0,0)).2))] [(vI 0),(vI 1)]).trans (congrArg (fun b=>Result.ok b _) (show (zgp [(vI ((([(0,1),(1,0)]).getD 0 (0,0)).1)),(vI ((([(0,1),(1,0)]).getD 0 (0,0)).2))] [(vI 0),(vI 1)])=true from rfl))))) (zh hT656 [(31,87,vF),(32,88,vF),(33,89,(.slice (pA b6 o6) 2 2))] 3 17179869183 (zg hT656 34 34359738367 (some 90) (vP b6 (o6+1*2)) (zi (Instr.indexAt 85 (.slice (pA b6 o6) 2 2) (vI 1)) (fun w' hC=>zP (E:=89) (sz:=2) (by omega))) ?_))))
   refine zg hT656 35 68719476735 (some 91) (vA [(vI ((([(0,1),(1,0)]).getD 1 (0,0)).1)),(vI ((([(0,1),(1,0)]).getD 1 (0,0)).2))]) (zi (Instr.loadAt 89 (vP b6 (o6+1*2))) (fun w' hC=>zw (vs:= [(vI ((([(0,1),(1,0)]).getD 1 (0,0)).1)),(vI ((([(0,1),(1,0)]).getD 1 (0,0)).2))]) ((hK62.ext hC).at (0,0) (by omega)))) (zh hT656 [(36,92,(vA [(vI 1),(vI 0)]))] 1 137438953471 (zg hT656 37 274877906943 (some 93) vF (zi (bo .neq 89 (.tmp 91) (.tmp 92) (vA [(vI ((([(0,1),(1,0)]).getD 1 (0,0)).1)),(vI ((([(0,1),(1,0)]).getD 1 (0,0)).2))]) (vA [(vI 1),(vI 0)])) (fun w' hC=>zak (r:=true) (T:=89) ((zdr (dd:=9998) (t:=89) [(vI ((([(0,1),(1,0)]).getD 1 (0,0)).1)),(vI ((([(0,1),(1,0)]).getD 1 (0,0)).2))] [(vI 1),(vI 0)]).trans (congrArg (fun b=>Result.ok b _) (show (zgp [(vI ((([(0,1),(1,0)]).getD 1 (0,0)).1)),(vI ((([(0,1),(1,0)]).getD 1 (0,0)).2))] [(vI 1),(vI 0)])=true from rfl))))) (zh hT656 [(38,94,vF),(39,95,vF)] 2 1099511627775 (zg hT656 40 2199023255551 (some 96) (vA (zM (wR1))) (zi (Instr.loadAt 68 (vP w61.heap.size 0)) (fun w' hC=>zw (vs:=zM (wR1)) (((hBw63.ext hEw64).ext hC).all) (by rw [zab];kernel_rfl))) ?_))))
   have hK63:=(((((((((((hK12.ext hX18)).ext hEw60)).ext hEw61)).ext hEw62)).chg hCw63 (fun hs=>by have h:_=_:=hs;omega))).ext hEw64)
   refine zg hT656 42 6597069766655 (some 98) (vA (zO (mkD 3))) (zi (Instr.loadAt 59 (vP w2.heap.size 0)) (fun w' hC=>zw (vs:=zO (mkD 3)) ((hK63.ext hC).all) (by rw [zal];kernel_rfl))) (zz 41 8796093022207 (zl (some 97) (zck 3 _ (by first | omega | decide | exact UInt8.toNat_lt _)) ?_))
   rintro _ w65 ⟨rfl,hEw65⟩
   have hzw65:=hEw65.size
   refine ⟨.inr hEw65, ?_⟩
   refine zg (hw:=hEw65) hT656 43 17592186044415 (some 99) (vA (zM wR1)) (zi (Instr.build 68 #[(0,(vB 1)),(1,(vA (zaU (za5 3)))),(2,(vA (zO (mkD 3))))]) (fun w' hC=>(zcO 1 (za5 3) (mkD 3) (by decide)).trans (congrArg (fun z:Rec=>Result.ok (Value.agg (zM z).toArray) _) (show (⟨1,(za5 3),(mkD 3),by decide⟩:Rec)=wR1 from rfl)))) (zg (hw:=hEw65) hT656 44 35184372088831 (some 100) vF (zi (bo .neq 68 (.tmp 96) (.tmp 99) (vA (zM (wR1))) (vA (zM wR1))) (fun w' hC=>zak (r:=true) (T:=68) ((zcP (dd:=9997) (t:=68) (t8:=5) (tn:=56) (td:=59) (e:=5) (t32:=53) (t64:=54) (wR1) wR1).trans (congrArg (fun b=>Result.ok b _) (show ((wR1).eqb wR1)=true from (Rec.eqb_iff _ _).2 rfl))))) (zh (hw:=hEw65) hT656 [(45,101,vF),(46,102,vF),(47,103,(vP w18.heap.size 1))] 3 281474976710655 ?_))
   have hK64:=(((((((((hBw59.ext hEw60)).ext hEw61)).ext hEw62)).chg hCw63 (fun hs=>by have h:_=_:=hs;omega))).ext hEw64)
   refine zg (hw:=hEw65) hT656 48 562949953421311 (some 104) (.slice a11 (tot 5) (tot 5)) (zi (Instr.loadAt 36 (vP w18.heap.size 1)) (fun w' hC=>zk ((hK64.ext hC).cell rfl))) (zh (hw:=hEw65) hT656 [(49,105,(vI (tot 5)))] 1 1125899906842623 (zg (hw:=hEw65) hT656 50 2251799813685247 (some 106) vF (zaD ((((tot 5):Nat):Int) !=((3:Nat):Int)) (zaA (by omega))) (zh (hw:=hEw65) hT656 [(51,107,vF)] 1 4503599627370495 (zJ (zb (zn (zu (zb (ze ?_)))))))))
   refine zd (zc 1 [(108,(vA (zH (Nod.mt 0 1))))] (za (zo (some 16) (Instr.alloc 74 true (.tuple #[])) (vP w65.heap.size 0) (zH Nod.zero) 74 ?_)))
   intro w66 hBw66 hEw66
   have hzw66:=hEw66.size;have hlw66:=hBw66.lt
   refine za (zv 74 w65.heap.size 0 74 (vA (zH (Nod.mt 0 1))) (zH Nod.zero) (zH (Nod.mt 0 1)) hBw66 (by rw [zV];kernel_rfl) (by first |(simp;done)|(simp;omega)) (zbZ _) ?_)
   intro w67 hBw67 hCw67
   have hzw67:=hCw67.size
   rw [zm _ _ (by simp)] at hBw67
   refine zf (zb (ze (zd ?_)))
   have hK65:=(((((((hBw63.ext hEw64)).ext hEw65)).ext hEw66)).chg hCw67 (fun hs=>by have h:_=_:=hs;omega))
   refine za (zj (some 109) (Instr.loadAt 68 (vP w61.heap.size 0)) (vA (zM (wR1))) (zw (vs:=zM (wR1)) (hK65.all) (by rw [zab];kernel_rfl)) ?_)
   refine zc 1 [(110,(vP w65.heap.size 2))] (za (zj (some 111) (Instr.indexAt 69 (vP w65.heap.size 2) (vI 0)) (vP w65.heap.size (2+0*35)) (zag (E:=68) (sz:=35) (m:=4) (by omega)) ?_))
   refine za (zv 68 w65.heap.size (2+0*35) 74 (vA (zM (wR1))) (zH (Nod.mt 0 1)) (zM (wR1)) hBw67 (by rw [zab];kernel_rfl) (by first |(simp;done)|(simp;omega)) (za2 _) ?_)
   intro w68 hBw68 hCw68
   have hzw68:=hCw68.size
   rw [show (zac (zH (Nod.mt 0 1)) (2+0*35) (zM (wR1)):List Value)=zH ((Nod.mt 0 1).setR 0 (wR1)) from nod_setR (by omega)] at hBw68
   refine zf (zb (ze (ze (zT (Ext w68.drew) 11 [(113,512,0),(114,5192296858534827628530496329220096,1),(115,10384593717069655257060992658440192,2),(116,20769187434139310514121985316880384,4),(117,41538374868278621028243970633760768,8),(118,83076749736557242056487941267521536,16),(119,166153499473114484112975882535043072,32),(120,65536,0),(121,664613997892457936451903530140172288,128),(122,1329227995784915872903807060280344576,256),(123,2990762990516060714033565885630775296,576)] (fun hT733=> ?_)))))
   have hEw69:Ext w68 w68.drew:=Ext.drew w68
   generalize w68.drew=w69 at hEw69⊢
   have hzw69:=hEw69.size
   refine zh hT733 [(0,112,(vP w18.heap.size 1))] 1 1 ?_
   have hK66:=(((((((((hK64.ext hEw65)).ext hEw66)).chg hCw67 (fun hs=>by have h:_=_:=hs;omega))).chg hCw68 (fun hs=>by have h:_=_:=hs;omega))).ext hEw69)
   refine zg hT733 1 3 (some 113) (.slice a11 (tot 5) (tot 5)) (zi (Instr.loadAt 36 (vP w18.heap.size 1)) (fun w' hC=>zk ((hK66.ext hC).cell rfl))) ?_
   obtain ⟨b7,o7,rfl⟩:=hFz23_0.addr (by omega) (by decide)
   refine zg hT733 2 7 (some 114) (vP b7 (o7+2*280)) (zi (Instr.indexAt 36 (.slice (pA b7 o7) (tot 5) (tot 5)) (vI 2)) (fun w' hC=>zP (E:=77) (sz:=280) (by omega))) (zh hT733 [(3,115,(vP b7 (o7+2*280))),(4,116,(vP b7 (o7+2*280+142)))] 2 31 (zg hT733 5 63 (some 117) (vP b7 (o7+2*280+142+1*33)) (zi (Instr.indexAt 72 (vP b7 (o7+2*280+142)) (vI 1)) (fun w' hC=>zag (E:=71) (sz:=33) (m:=4) (by omega))) ?_))
   have hK67:=((((((((((((((((((((((hFz23_0).chg hCw59 (fun k h1 h2 hs=>by have h:k=_:=hs;omega))).ext hEw60)).ext hEw61)).ext hEw62)).chg hCw63 (fun k h1 h2 hs=>by have h:k=_:=hs;omega))).ext hEw64)).ext hEw65)).ext hEw66)).chg hCw67 (fun k h1 h2 hs=>by have h:k=_:=hs;omega))).chg hCw68 (fun k h1 h2 hs=>by have h:k=_:=hs;omega))).ext hEw69)
   refine zg hT733 6 127 (some 118) (vA (zad ((wT1.getD 2 Un.zero).nd.es.get 1))) (zi (Instr.loadAt 71 (vP b7 (o7+2*280+142+1*33))) (fun w' hC=>zw (vs:=zad ((wT1.getD 2 Un.zero).nd.es.get 1)) (((hK67.ext hC).at Un.zero (by omega)).sub2 142 _ (zad ((wT1.getD 2 Un.zero).nd.es.get 1)) (zng (by omega))) (by rw [zaF];kernel_rfl))) (zg hT733 7 255 (some 119) (vA (zH ((Nod.mt 0 1).setR 0 (wR1)))) (zi (Instr.loadAt 74 (vP w65.heap.size 0)) (fun w' hC=>zw (vs:=zH ((Nod.mt 0 1).setR 0 (wR1))) (((hBw68.ext hEw69).ext hC).all) (by rw [zV];kernel_rfl))) (zz 8 511 (zl (some 120) (zfe ((Nod.mt 0 1).setR 0 (wR1)) _) ?_)))
   rintro _ w70 ⟨rfl,hEw70⟩
   have hzw70:=hEw70.size
   refine ⟨.inr hEw70, ?_⟩
   refine zg (hw:=hEw70) hT733 9 1023 (some 121) (vA (zad (⟨1,(zU (zS ((Nod.mt 0 1).setR 0 (wR1)))),by decide⟩))) (zi (Instr.build 71 #[(0,(vB 1)),(1,(vA (zO (zU (zS ((Nod.mt 0 1).setR 0 (wR1)))))))]) (fun w' hC=>zcm 1 (zU (zS ((Nod.mt 0 1).setR 0 (wR1)))) (by decide))) (zg (hw:=hEw70) hT733 10 2047 (some 122) vF (zi (bo .neq 71 (.tmp 118) (.tmp 121) (vA (zad ((wT1.getD 2 Un.zero).nd.es.get 1))) (vA (zad (⟨1,(zU (zS ((Nod.mt 0 1).setR 0 (wR1)))),by decide⟩)))) (fun w' hC=>zak (r:=true) (T:=71) ((zb8 (dd:=9997) (t:=71) (t8:=5) (td:=59) (e:=5) ((wT1.getD 2 Un.zero).nd.es.get 1) (⟨1,(zU (zS ((Nod.mt 0 1).setR 0 (wR1)))),by decide⟩)).trans (congrArg (fun b=>Result.ok b _) (show (((wT1.getD 2 Un.zero).nd.es.get 1).eqb (⟨1,(zU (zS ((Nod.mt 0 1).setR 0 (wR1)))),by decide⟩))=true from (Ent.eqb_iff _ _).2 zo2))))) (zJ (zb (zn (zu (zb (ze (zT (Ext w70.drew) 12 [(125,512,0),(126,0,0),(127,4,0),(128,148873535527910577765226390751398592512,7),(124,170141183460469231731687303715884105728,8),(129,10633823966279326983230456482242756608,16),(130,10633823966279326983230456482242756608,16),(131,10633823966279326983230456482242756608,16),(18,0,0),(0,340282366920938463463374607431768342528,319),(11,680564733841876926926749214863536422912,895),(5,1361129467683753853853498429727072845824,2047)] (fun hT759=> ?_)))))))))
   have hEw71:Ext w70 w70.drew:=Ext.drew w70
   generalize w70.drew=w71 at hEw71⊢
   have hzw71:=hEw71.size
   refine zg hT759 0 1 (some 124) (vA [(vI 5),(.slice (pA b7 o7) (tot 5) (tot 5))]) (zi (Instr.loadAt 38 (vP w18.heap.size 0)) (fun w' hC=>zw (vs:= [(vI 5),(.slice (pA b7 o7) (tot 5) (tot 5))]) (((((hK66.ext hEw70)).ext hEw71).ext hC).all))) ?_
   have hK68:=(((((((((((((((((((((((((((((((((((((((((((((((hBw6.ext hEw7)).ext hEw8)).ext hEw9)).ext hEw10)).chg hCw11 (fun hs=>by have h:_=_:=hs;omega))).ext hEw12)).ext hEw13)).ext hEw14)).chg hCw15 (fun hs=>by have h:_=_:=hs;omega))).ext hEw16)).ext hEw17)).ext hX18)).ext hEw60)).ext hEw61)).ext hEw62)).chg hCw63 (fun hs=>by have h:_=_:=hs;omega))).ext hEw64)).ext hEw65)).ext hEw66)).chg hCw67 (fun hs=>by have h:_=_:=hs;omega))).chg hCw68 (fun hs=>by have h:_=_:=hs;omega))).ext hEw69)).ext hEw70)).ext hEw71)
   refine zg hT759 2 5 (some 126) (vA (zO (mkD 4))) (zi (Instr.loadAt 59 (vP w3.heap.size 0)) (fun w' hC=>zw (vs:=zO (mkD 4)) ((hK68.ext hC).all) (by rw [zal];kernel_rfl))) (za9 1 8 7 261 ?_ ?_)
   ·refine zl (some 125) (zck 4 _ (by first | omega | decide | exact UInt8.toNat_lt _)) ?_
    rintro _ w72 ⟨rfl,hEw72⟩
    have hzw72:=hEw72.size
    refine ⟨.inr hEw72, ?_⟩
    refine za9 3 8 15 263 ?_ ?_
    ·have hK69:=(((((hK67.ext hEw70)).ext hEw71)).ext hEw72)
     have hK70:=(((((((((((((((((((((((hK59.ext hEw61)).ext hEw62)).chg hCw63 (fun hs=>by have h:_=_:=hs;omega))).ext hEw64)).ext hEw65)).ext hEw66)).chg hCw67 (fun hs=>by have h:_=_:=hs;omega))).chg hCw68 (fun hs=>by have h:_=_:=hs;omega))).ext hEw69)).ext hEw70)).ext hEw71)).ext hEw72)
     have hK71:=(((((((((((((((((((((((hK60.ext hEw61)).ext hEw62)).chg hCw63 (fun hs=>by have h:_=_:=hs;omega))).ext hEw64)).ext hEw65)).ext hEw66)).chg hCw67 (fun hs=>by have h:_=_:=hs;omega))).chg hCw68 (fun hs=>by have h:_=_:=hs;omega))).ext hEw69)).ext hEw70)).ext hEw71)).ext hEw72)
     have hK72:=(((((((((((((((((((((((hK61.ext hEw61)).ext hEw62)).chg hCw63 (fun hs=>by have h:_=_:=hs;omega))).ext hEw64)).ext hEw65)).ext hEw66)).chg hCw67 (fun hs=>by have h:_=_:=hs;omega))).chg hCw68 (fun hs=>by have h:_=_:=hs;omega))).ext hEw69)).ext hEw70)).ext hEw71)).ext hEw72)
     refine zl (some 127) (zdk 5 4 (za5 4) (mkD 4) _ hK69 (by first | omega | decide) (by first | omega | decide) (by first | omega | decide) (za1 wO1) (zaQ (n:=5) wO1 rfl) (by first | omega | decide) hK70 hK71 hK72) ?_
     rintro _ w73 ⟨a13,rfl,hFz29_0,hEw73⟩
     have hzw73:=hEw73.size
     have hlea13:=hFz29_0.le
     rw [show zdt 5 wT1 4 (za5 4) (mkD 4)=wT2 from wE1] at hFz29_0
     rw [show (zaT (wT1.getD (4/4) Un.zero) (4%4))=0 from wG1]
     have hX19:Ext w71 w73:=(hEw72.trans hEw73)
     refine ⟨.inr hX19, ?_⟩
     refine zh (hw:=hX19) hT759 [(4,123,(.tuple #[(vA [(vI 5),(.slice a13 (tot 5) (tot 5))]),(vI 0),(vI 0)])),(5,128,(vA [(vI 5),(.slice a13 (tot 5) (tot 5))])),(6,129,(vI 0)),(7,130,(vI 0))] 4 255 (zz 8 511 (zo (some 17) (Instr.alloc 38 true (.tuple #[])) (vP w73.heap.size 0) ([(vI 0),(.slice none 0 0)]) 38 ?_))
     intro w74 hBw74 hEw74
     have hzw74:=hEw74.size;have hlw74:=hBw74.lt
     have hX20:Ext w71 w74:=((hEw72.trans hEw73).trans hEw74)
     refine ⟨.inr hX20, ?_⟩
     refine zz 9 1023 (zv 38 w73.heap.size 0 38 (vA [(vI 5),(.slice a13 (tot 5) (tot 5))]) ([(vI 0),(.slice none 0 0)]) ([(vI 5),(.slice a13 (tot 5) (tot 5))]) hBw74 (by kernel_rfl) (by first | decide |(simp;done)|(simp;omega)) (by simp [Value.oneCell']) ?_)
     intro w75 hBw75 hCw75
     have hzw75:=hCw75.size
     rw [zm _ _ (by kernel_rfl)] at hBw75
     have hX21:Ext w71 w75:=(Ext.own ((hEw72.trans hEw73).trans hEw74) hCw75 (by omega))
     refine ⟨.inr hX21, ?_⟩
     refine zh (hw:=hX21) hT759 [(10,10,(vI 0)),(11,4,(vI 0))] 2 4095 (zJ (zb (ze (zd (za (zj (some 132) (Instr.loadAt 38 (vP w73.heap.size 0)) (vA [(vI 5),(.slice a13 (tot 5) (tot 5))]) (zw (vs:= [(vI 5),(.slice a13 (tot 5) (tot 5))]) (hBw75.all)) ?_))))))
     have hK73:=(((((hK70.ext hEw73)).ext hEw74)).chg hCw75 (fun hs=>by have h:_=_:=hs;omega))
     have hK74:=(((((hK71.ext hEw73)).ext hEw74)).chg hCw75 (fun hs=>by have h:_=_:=hs;omega))
     have hK75:=(((((hK72.ext hEw73)).ext hEw74)).chg hCw75 (fun hs=>by have h:_=_:=hs;omega))
     refine za (zl (some 133) (zd3 5 _ (((hFz29_0.ext hEw74)).chg hCw75 (fun k h1 h2 hs=>by have h:k=_:=hs;omega)) (by first | omega | decide) (by first | omega | decide) (by first | omega | decide) (za1 wO2) (zaQ (n:=5) wO2 rfl) hK73 hK74 hK75) ?_)
     rintro _ w76 ⟨a14,rfl,hFz30_0,hEw76⟩
     have hzw76:=hEw76.size
     have hlea14:=hFz30_0.le
     rw [show zba (tot 5) wT2=wT3 from wE2] at hFz30_0
     refine zc 3 [(135,(vI 0)),(134,(vA [(vI 5),(.slice a14 (tot 5) (tot 5))])),(131,(.tuple #[(vA [(vI 5),(.slice a14 (tot 5) (tot 5))]),(vI 0)]))] (za (zo (some 18) (Instr.alloc 38 true (.tuple #[])) (vP w76.heap.size 0) ([(vI 0),(.slice none 0 0)]) 38 ?_))
     intro w77 hBw77 hEw77
     have hzw77:=hEw77.size;have hlw77:=hBw77.lt
     refine za (zv 38 w76.heap.size 0 38 (vA [(vI 5),(.slice a14 (tot 5) (tot 5))]) ([(vI 0),(.slice none 0 0)]) ([(vI 5),(.slice a14 (tot 5) (tot 5))]) hBw77 (by kernel_rfl) (by first | decide |(simp;done)|(simp;omega)) (by simp [Value.oneCell']) ?_)
     intro w78 hBw78 hCw78
     have hzw78:=hCw78.size
     rw [zm _ _ (by kernel_rfl)] at hBw78
     refine zc 1 [(6,(vI 0))] (zf (zb (ze (zd (za (zj (some 137) (Instr.loadAt 38 (vP w76.heap.size 0)) (vA [(vI 5),(.slice a14 (tot 5) (tot 5))]) (zw (vs:= [(vI 5),(.slice a14 (tot 5) (tot 5))]) (hBw78.all)) ?_))))))
     have hK76:=(((((hK73.ext hEw76)).ext hEw77)).chg hCw78 (fun hs=>by have h:_=_:=hs;omega))
     have hK77:=(((((hK74.ext hEw76)).ext hEw77)).chg hCw78 (fun hs=>by have h:_=_:=hs;omega))
     have hK78:=(((((hK75.ext hEw76)).ext hEw77)).chg hCw78 (fun hs=>by have h:_=_:=hs;omega))
     refine za (zl (some 138) (zd4 5 4 _ (((hFz30_0.ext hEw77)).chg hCw78 (fun k h1 h2 hs=>by have h:k=_:=hs;omega)) (by first | omega | decide) (by first | omega | decide) (by first | omega | decide) (za1 wO3) (zaQ (n:=5) wO3 rfl) (by first | omega | decide) hK76 hK77 hK78) ?_)
     rintro _ w79 ⟨rfl,hEw79⟩
     have hzw79:=hEw79.size
     rw [show zaT (wT3.getD (4/4) Un.zero) (4%4)=1 from wG3]
     refine zc 5 [(8,(vI 0)),(7,(vI 1)),(140,(vI 0)),(139,(vI 1)),(136,(.tuple #[(vI 1),(vI 0)]))] (zf (zb (ze (zd (zc 2 [(142,(vI 0)),(141,(vI 0))] (za (zt (some 143) .i64 (IntKind.i64.wrap (((0:Nat):Int)+((0:Nat):Int))) 0 (zA (by omega) (by omega) (by omega)) ?_)))))))
     refine zc 1 [(144,(vI 0))] (za (zt (some 145) .i64 (IntKind.i64.wrap (((0:Nat):Int)+((0:Nat):Int))) 0 (zA (by omega) (by omega) (by omega)) ?_))
     refine zc 3 [(148,(vI 0)),(147,vT),(146,vT)] (za (zai (some 149) (((0:Nat):Int)==((0:Nat):Int)) true (zas (by omega)) ?_))
     refine zc 3 [(152,(vI 1)),(151,vT),(150,vT)] (za (zai (some 153) (((1:Nat):Int)==((1:Nat):Int)) true (zas (by omega)) ?_))
     refine zc 3 [(156,(vP w76.heap.size 1)),(155,vT),(154,vT)] (za (zj (some 157) (Instr.loadAt 36 (vP w76.heap.size 1)) (.slice a14 (tot 5) (tot 5)) (zk ((hBw78.ext hEw79).cell rfl)) ?_))
     refine zc 1 [(158,(vI (tot 5)))] (za (zai (some 159) ((((tot 5):Nat):Int)==((3:Nat):Int)) true (zas (by omega)) ?_))
     refine zc 3 [(162,(vP w76.heap.size 1)),(161,vT),(160,vT)] (za (zj (some 163) (Instr.loadAt 36 (vP w76.heap.size 1)) (.slice a14 (tot 5) (tot 5)) (zk ((hBw78.ext hEw79).cell rfl)) ?_))
     obtain ⟨b8,o8,rfl⟩:=hFz30_0.addr (by omega) (by decide)
     refine za (zj (some 164) (Instr.indexAt 36 (.slice (pA b8 o8) (tot 5) (tot 5)) (vI 1)) (vP b8 (o8+1*280)) (zP (E:=77) (sz:=280) (by omega)) ?_)
     refine zc 1 [(165,(vP b8 (o8+1*280+274)))] ?_
     have hK79:=(((((hFz30_0.ext hEw77)).chg hCw78 (fun k h1 h2 hs=>by have h:k=_:=hs;omega))).ext hEw79)
     refine za (zj (some 166) (Instr.loadAt 3 (vP b8 (o8+1*280+274))) (.int .i64 ((wT3.getD 1 Un.zero).sl)) (zk (hK79.cell (j:=274) (i:=1) Un.zero (by omega) (zbk _))) ?_)
     refine za (zai (some 167) ((wT3.getD 1 Un.zero).sl==((0:Nat):Int)) true (zas (by omega)) ?_)
     refine zc 3 [(170,(vP w76.heap.size 1)),(169,vT),(168,vT)] (za (zj (some 171) (Instr.loadAt 36 (vP w76.heap.size 1)) (.slice (pA b8 o8) (tot 5) (tot 5)) (zk ((hBw78.ext hEw79).cell rfl)) ?_))
     refine za (zj (some 172) (Instr.indexAt 36 (.slice (pA b8 o8) (tot 5) (tot 5)) (vI 2)) (vP b8 (o8+2*280)) (zP (E:=77) (sz:=280) (by omega)) ?_)
     refine zc 1 [(173,(vP b8 (o8+2*280+274)))] (za (zj (some 174) (Instr.loadAt 3 (vP b8 (o8+2*280+274))) (.int .i64 ((wT3.getD 2 Un.zero).sl)) (zk (hK79.cell (j:=274) (i:=2) Un.zero (by omega) (zbk _))) ?_))
     refine za (zai (some 175) ((wT3.getD 2 Un.zero).sl==((1:Nat):Int)) true (zas (by omega)) ?_)
     refine zc 2 [(0,vT),(176,vT)] (zf (zb (zq (zr vT ?_))))
     have hX22:Ext w w79:=((Ext.own (((((((Ext.own (Ext.own ((((Ext.own (((((((Ext.own ((((Ext.own (((((Ext.own (Ext.own (((hEw1.trans hEw2).trans hEw3).trans hEw4) hCw5 (by omega)) hCw6 (by omega)).trans hEw7).trans hEw8).trans hEw9).trans hEw10) hCw11 (by omega)).trans hEw12).trans hEw13).trans hEw14) hCw15 (by omega)).trans hEw16).trans hEw17).trans hX18).trans hEw60).trans hEw61).trans hEw62) hCw63 (by omega)).trans hEw64).trans hEw65).trans hEw66) hCw67 (by omega)) hCw68 (by omega)).trans hEw69).trans hEw70).trans hEw71).trans hX21).trans hEw76).trans hEw77) hCw78 (by omega)).trans hEw79)
     exact ⟨rfl,hX22⟩
    ·refine zo (some 17) (Instr.alloc 38 true (.tuple #[])) (vP w72.heap.size 0) ([(vI 0),(.slice none 0 0)]) 38 ?_
     intro w80 hBw80 hEw80
     have hzw80:=hEw80.size;have hlw80:=hBw80.lt
     have hX23:Ext w71 w80:=(hEw72.trans hEw80)
     refine ⟨.inr hX23, ?_⟩
     have hK80:=(((((((hK67.ext hEw70)).ext hEw71)).ext hEw72)).ext hEw80)
     have hK81:=(((((((((((((((((((((((((hK59.ext hEw61)).ext hEw62)).chg hCw63 (fun hs=>by have h:_=_:=hs;omega))).ext hEw64)).ext hEw65)).ext hEw66)).chg hCw67 (fun hs=>by have h:_=_:=hs;omega))).chg hCw68 (fun hs=>by have h:_=_:=hs;omega))).ext hEw69)).ext hEw70)).ext hEw71)).ext hEw72)).ext hEw80)
     have hK82:=(((((((((((((((((((((((((hK60.ext hEw61)).ext hEw62)).chg hCw63 (fun hs=>by have h:_=_:=hs;omega))).ext hEw64)).ext hEw65)).ext hEw66)).chg hCw67 (fun hs=>by have h:_=_:=hs;omega))).chg hCw68 (fun hs=>by have h:_=_:=hs;omega))).ext hEw69)).ext hEw70)).ext hEw71)).ext hEw72)).ext hEw80)
     have hK83:=(((((((((((((((((((((((((hK61.ext hEw61)).ext hEw62)).chg hCw63 (fun hs=>by have h:_=_:=hs;omega))).ext hEw64)).ext hEw65)).ext hEw66)).chg hCw67 (fun hs=>by have h:_=_:=hs;omega))).chg hCw68 (fun hs=>by have h:_=_:=hs;omega))).ext hEw69)).ext hEw70)).ext hEw71)).ext hEw72)).ext hEw80)
     refine zz 3 271 (zl (some 127) (zdk 5 4 (za5 4) (mkD 4) _ hK80 (by first | omega | decide) (by first | omega | decide) (by first | omega | decide) (za1 wO1) (zaQ (n:=5) wO1 rfl) (by first | omega | decide) hK81 hK82 hK83) ?_)
     rintro _ w81 ⟨a15,rfl,hFz32_0,hEw81⟩
     have hzw81:=hEw81.size
     have hlea15:=hFz32_0.le
     rw [show zdt 5 wT1 4 (za5 4) (mkD 4)=wT2 from wE1] at hFz32_0
     rw [show (zaT (wT1.getD (4/4) Un.zero) (4%4))=0 from wG1]
     have hX24:Ext w71 w81:=((hEw72.trans hEw80).trans hEw81)
     refine ⟨.inr hX24, ?_⟩
     refine zh (hw:=hX24) hT759 [(4,123,(.tuple #[(vA [(vI 5),(.slice a15 (tot 5) (tot 5))]),(vI 0),(vI 0)])),(5,128,(vA [(vI 5),(.slice a15 (tot 5) (tot 5))])),(6,129,(vI 0)),(7,130,(vI 0))] 4 511 (zz 9 1023 (zv 38 w72.heap.size 0 38 (vA [(vI 5),(.slice a15 (tot 5) (tot 5))]) ([(vI 0),(.slice none 0 0)]) ([(vI 5),(.slice a15 (tot 5) (tot 5))]) (hBw80.ext hEw81) (by kernel_rfl) (by first | decide |(simp;done)|(simp;omega)) (by simp [Value.oneCell']) ?_))
     intro w82 hBw82 hCw82
     have hzw82:=hCw82.size
     rw [zm _ _ (by kernel_rfl)] at hBw82
     have hX25:Ext w71 w82:=(Ext.own ((hEw72.trans hEw80).trans hEw81) hCw82 (by omega))
     refine ⟨.inr hX25, ?_⟩
     refine zh (hw:=hX25) hT759 [(10,10,(vI 0)),(11,4,(vI 0))] 2 4095 (zJ (zb (ze (zd (za (zj (some 132) (Instr.loadAt 38 (vP w72.heap.size 0)) (vA [(vI 5),(.slice a15 (tot 5) (tot 5))]) (zw (vs:= [(vI 5),(.slice a15 (tot 5) (tot 5))]) (hBw82.all)) ?_))))))
     refine za (zl (some 133) (zd3 5 _ ((hFz32_0).chg hCw82 (fun k h1 h2 hs=>by have h:k=_:=hs;omega)) (by first | omega | decide) (by first | omega | decide) (by first | omega | decide) (za1 wO2) (zaQ (n:=5) wO2 rfl) (((hK81.ext hEw81)).chg hCw82 (fun hs=>by have h:_=_:=hs;omega)) (((hK82.ext hEw81)).chg hCw82 (fun hs=>by have h:_=_:=hs;omega)) (((hK83.ext hEw81)).chg hCw82 (fun hs=>by have h:_=_:=hs;omega))) ?_)
     rintro _ w83 ⟨a16,rfl,hFz33_0,hEw83⟩
     have hzw83:=hEw83.size
     have hlea16:=hFz33_0.le
     rw [show zba (tot 5) wT2=wT3 from wE2] at hFz33_0
     refine zc 3 [(135,(vI 0)),(134,(vA [(vI 5),(.slice a16 (tot 5) (tot 5))])),(131,(.tuple #[(vA [(vI 5),(.slice a16 (tot 5) (tot 5))]),(vI 0)]))] (za (zo (some 18) (Instr.alloc 38 true (.tuple #[])) (vP w83.heap.size 0) ([(vI 0),(.slice none 0 0)]) 38 ?_))
     intro w84 hBw84 hEw84
     have hzw84:=hEw84.size;have hlw84:=hBw84.lt
     refine za (zv 38 w83.heap.size 0 38 (vA [(vI 5),(.slice a16 (tot 5) (tot 5))]) ([(vI 0),(.slice none 0 0)]) ([(vI 5),(.slice a16 (tot 5) (tot 5))]) hBw84 (by kernel_rfl) (by first | decide |(simp;done)|(simp;omega)) (by simp [Value.oneCell']) ?_)
     intro w85 hBw85 hCw85
     have hzw85:=hCw85.size
     rw [zm _ _ (by kernel_rfl)] at hBw85
     refine zc 1 [(6,(vI 0))] (zf (zb (ze (zd (za (zj (some 137) (Instr.loadAt 38 (vP w83.heap.size 0)) (vA [(vI 5),(.slice a16 (tot 5) (tot 5))]) (zw (vs:= [(vI 5),(.slice a16 (tot 5) (tot 5))]) (hBw85.all)) ?_))))))
     have hK84:=(((((((((hK81.ext hEw81)).chg hCw82 (fun hs=>by have h:_=_:=hs;omega))).ext hEw83)).ext hEw84)).chg hCw85 (fun hs=>by have h:_=_:=hs;omega))
     have hK85:=(((((((((hK82.ext hEw81)).chg hCw82 (fun hs=>by have h:_=_:=hs;omega))).ext hEw83)).ext hEw84)).chg hCw85 (fun hs=>by have h:_=_:=hs;omega))
     have hK86:=(((((((((hK83.ext hEw81)).chg hCw82 (fun hs=>by have h:_=_:=hs;omega))).ext hEw83)).ext hEw84)).chg hCw85 (fun hs=>by have h:_=_:=hs;omega))
     refine za (zl (some 138) (zd4 5 4 _ (((hFz33_0.ext hEw84)).chg hCw85 (fun k h1 h2 hs=>by have h:k=_:=hs;omega)) (by first | omega | decide) (by first | omega | decide) (by first | omega | decide) (za1 wO3) (zaQ (n:=5) wO3 rfl) (by first | omega | decide) hK84 hK85 hK86) ?_)
     rintro _ w86 ⟨rfl,hEw86⟩
     have hzw86:=hEw86.size
     rw [show zaT (wT3.getD (4/4) Un.zero) (4%4)=1 from wG3]
     refine zc 5 [(8,(vI 0)),(7,(vI 1)),(140,(vI 0)),(139,(vI 1)),(136,(.tuple #[(vI 1),(vI 0)]))] (zf (zb (ze (zd (zc 2 [(142,(vI 0)),(141,(vI 0))] (za (zt (some 143) .i64 (IntKind.i64.wrap (((0:Nat):Int)+((0:Nat):Int))) 0 (zA (by omega) (by omega) (by omega)) ?_)))))))
     refine zc 1 [(144,(vI 0))] (za (zt (some 145) .i64 (IntKind.i64.wrap (((0:Nat):Int)+((0:Nat):Int))) 0 (zA (by omega) (by omega) (by omega)) ?_))
     refine zc 3 [(148,(vI 0)),(147,vT),(146,vT)] (za (zai (some 149) (((0:Nat):Int)==((0:Nat):Int)) true (zas (by omega)) ?_))
     refine zc 3 [(152,(vI 1)),(151,vT),(150,vT)] (za (zai (some 153) (((1:Nat):Int)==((1:Nat):Int)) true (zas (by omega)) ?_))
     refine zc 3 [(156,(vP w83.heap.size 1)),(155,vT),(154,vT)] (za (zj (some 157) (Instr.loadAt 36 (vP w83.heap.size 1)) (.slice a16 (tot 5) (tot 5)) (zk ((hBw85.ext hEw86).cell rfl)) ?_))
     refine zc 1 [(158,(vI (tot 5)))] (za (zai (some 159) ((((tot 5):Nat):Int)==((3:Nat):Int)) true (zas (by omega)) ?_))
     refine zc 3 [(162,(vP w83.heap.size 1)),(161,vT),(160,vT)] (za (zj (some 163) (Instr.loadAt 36 (vP w83.heap.size 1)) (.slice a16 (tot 5) (tot 5)) (zk ((hBw85.ext hEw86).cell rfl)) ?_))
     obtain ⟨b9,o9,rfl⟩:=hFz33_0.addr (by omega) (by decide)
     refine za (zj (some 164) (Instr.indexAt 36 (.slice (pA b9 o9) (tot 5) (tot 5)) (vI 1)) (vP b9 (o9+1*280)) (zP (E:=77) (sz:=280) (by omega)) ?_)
     refine zc 1 [(165,(vP b9 (o9+1*280+274)))] ?_
     have hK87:=(((((hFz33_0.ext hEw84)).chg hCw85 (fun k h1 h2 hs=>by have h:k=_:=hs;omega))).ext hEw86)
     refine za (zj (some 166) (Instr.loadAt 3 (vP b9 (o9+1*280+274))) (.int .i64 ((wT3.getD 1 Un.zero).sl)) (zk (hK87.cell (j:=274) (i:=1) Un.zero (by omega) (zbk _))) ?_)
     refine za (zai (some 167) ((wT3.getD 1 Un.zero).sl==((0:Nat):Int)) true (zas (by omega)) ?_)
     refine zc 3 [(170,(vP w83.heap.size 1)),(169,vT),(168,vT)] (za (zj (some 171) (Instr.loadAt 36 (vP w83.heap.size 1)) (.slice (pA b9 o9) (tot 5) (tot 5)) (zk ((hBw85.ext hEw86).cell rfl)) ?_))
     refine za (zj (some 172) (Instr.indexAt 36 (.slice (pA b9 o9) (tot 5) (tot 5)) (vI 2)) (vP b9 (o9+2*280)) (zP (E:=77) (sz:=280) (by omega)) ?_)
     refine zc 1 [(173,(vP b9 (o9+2*280+274)))] (za (zj (some 174) (Instr.loadAt 3 (vP b9 (o9+2*280+274))) (.int .i64 ((wT3.getD 2 Un.zero).sl)) (zk (hK87.cell (j:=274) (i:=2) Un.zero (by omega) (zbk _))) ?_))
     refine za (zai (some 175) ((wT3.getD 2 Un.zero).sl==((1:Nat):Int)) true (zas (by omega)) ?_)
     refine zc 2 [(0,vT),(176,vT)] (zf (zb (zq (zr vT ?_))))
     have hX26:Ext w w86:=((Ext.own (((((((Ext.own (Ext.own ((((Ext.own (((((((Ext.own ((((Ext.own (((((Ext.own (Ext.own (((hEw1.trans hEw2).trans hEw3).trans hEw4) hCw5 (by omega)) hCw6 (by omega)).trans hEw7).trans hEw8).trans hEw9).trans hEw10) hCw11 (by omega)).trans hEw12).trans hEw13).trans hEw14) hCw15 (by omega)).trans hEw16).trans hEw17).trans hX18).trans hEw60).trans hEw61).trans hEw62) hCw63 (by omega)).trans hEw64).trans hEw65).trans hEw66) hCw67 (by omega)) hCw68 (by omega)).trans hEw69).trans hEw70).trans hEw71).trans hX25).trans hEw83).trans hEw84) hCw85 (by omega)).trans hEw86)
     exact ⟨rfl,hX26⟩
   ·refine zo (some 17) (Instr.alloc 38 true (.tuple #[])) (vP w71.heap.size 0) ([(vI 0),(.slice none 0 0)]) 38 ?_
    intro w87 hBw87 hEw87
    have hzw87:=hEw87.size;have hlw87:=hBw87.lt
    refine ⟨.inr hEw87, ?_⟩
    refine zz 1 263 (zl (some 125) (zck 4 _ (by first | omega | decide | exact UInt8.toNat_lt _)) ?_)
    rintro _ w88 ⟨rfl,hEw88⟩
    have hzw88:=hEw88.size
    have hX27:Ext w71 w88:=(hEw87.trans hEw88)
    refine ⟨.inr hX27, ?_⟩
    have hK88:=(((((((hK67.ext hEw70)).ext hEw71)).ext hEw87)).ext hEw88)
    have hK89:=(((((((((((((((((((((((((hK59.ext hEw61)).ext hEw62)).chg hCw63 (fun hs=>by have h:_=_:=hs;omega))).ext hEw64)).ext hEw65)).ext hEw66)).chg hCw67 (fun hs=>by have h:_=_:=hs;omega))).chg hCw68 (fun hs=>by have h:_=_:=hs;omega))).ext hEw69)).ext hEw70)).ext hEw71)).ext hEw87)).ext hEw88)
    have hK90:=(((((((((((((((((((((((((hK60.ext hEw61)).ext hEw62)).chg hCw63 (fun hs=>by have h:_=_:=hs;omega))).ext hEw64)).ext hEw65)).ext hEw66)).chg hCw67 (fun hs=>by have h:_=_:=hs;omega))).chg hCw68 (fun hs=>by have h:_=_:=hs;omega))).ext hEw69)).ext hEw70)).ext hEw71)).ext hEw87)).ext hEw88)
    have hK91:=(((((((((((((((((((((((((hK61.ext hEw61)).ext hEw62)).chg hCw63 (fun hs=>by have h:_=_:=hs;omega))).ext hEw64)).ext hEw65)).ext hEw66)).chg hCw67 (fun hs=>by have h:_=_:=hs;omega))).chg hCw68 (fun hs=>by have h:_=_:=hs;omega))).ext hEw69)).ext hEw70)).ext hEw71)).ext hEw87)).ext hEw88)
    refine zz 3 271 (zl (some 127) (zdk 5 4 (za5 4) (mkD 4) _ hK88 (by first | omega | decide) (by first | omega | decide) (by first | omega | decide) (za1 wO1) (zaQ (n:=5) wO1 rfl) (by first | omega | decide) hK89 hK90 hK91) ?_)
    rintro _ w89 ⟨a17,rfl,hFz36_0,hEw89⟩
    have hzw89:=hEw89.size
    have hlea17:=hFz36_0.le
    rw [show zdt 5 wT1 4 (za5 4) (mkD 4)=wT2 from wE1] at hFz36_0
    rw [show (zaT (wT1.getD (4/4) Un.zero) (4%4))=0 from wG1]
    have hX28:Ext w71 w89:=((hEw87.trans hEw88).trans hEw89)
    refine ⟨.inr hX28, ?_⟩
    refine zh (hw:=hX28) hT759 [(4,123,(.tuple #[(vA [(vI 5),(.slice a17 (tot 5) (tot 5))]),(vI 0),(vI 0)])),(5,128,(vA [(vI 5),(.slice a17 (tot 5) (tot 5))])),(6,129,(vI 0)),(7,130,(vI 0))] 4 511 (zz 9 1023 (zv 38 w71.heap.size 0 38 (vA [(vI 5),(.slice a17 (tot 5) (tot 5))]) ([(vI 0),(.slice none 0 0)]) ([(vI 5),(.slice a17 (tot 5) (tot 5))]) (((hBw87.ext hEw88)).ext hEw89) (by kernel_rfl) (by first | decide |(simp;done)|(simp;omega)) (by simp [Value.oneCell']) ?_))
    intro w90 hBw90 hCw90
    have hzw90:=hCw90.size
    rw [zm _ _ (by kernel_rfl)] at hBw90
    have hX29:Ext w71 w90:=(Ext.own ((hEw87.trans hEw88).trans hEw89) hCw90 (by omega))
    refine ⟨.inr hX29, ?_⟩
    refine zh (hw:=hX29) hT759 [(10,10,(vI 0)),(11,4,(vI 0))] 2 4095 (zJ (zb (ze (zd (za (zj (some 132) (Instr.loadAt 38 (vP w71.heap.size 0)) (vA [(vI 5),(.slice a17 (tot 5) (tot 5))]) (zw (vs:= [(vI 5),(.slice a17 (tot 5) (tot 5))]) (hBw90.all)) ?_))))))
    refine za (zl (some 133) (zd3 5 _ ((hFz36_0).chg hCw90 (fun k h1 h2 hs=>by have h:k=_:=hs;omega)) (by first | omega | decide) (by first | omega | decide) (by first | omega | decide) (za1 wO2) (zaQ (n:=5) wO2 rfl) (((hK89.ext hEw89)).chg hCw90 (fun hs=>by have h:_=_:=hs;omega)) (((hK90.ext hEw89)).chg hCw90 (fun hs=>by have h:_=_:=hs;omega)) (((hK91.ext hEw89)).chg hCw90 (fun hs=>by have h:_=_:=hs;omega))) ?_)
    rintro _ w91 ⟨a18,rfl,hFz37_0,hEw91⟩
    have hzw91:=hEw91.size
    have hlea18:=hFz37_0.le
    rw [show zba (tot 5) wT2=wT3 from wE2] at hFz37_0
    refine zc 3 [(135,(vI 0)),(134,(vA [(vI 5),(.slice a18 (tot 5) (tot 5))])),(131,(.tuple #[(vA [(vI 5),(.slice a18 (tot 5) (tot 5))]),(vI 0)]))] (za (zo (some 18) (Instr.alloc 38 true (.tuple #[])) (vP w91.heap.size 0) ([(vI 0),(.slice none 0 0)]) 38 ?_))
    intro w92 hBw92 hEw92
    have hzw92:=hEw92.size;have hlw92:=hBw92.lt
    refine za (zv 38 w91.heap.size 0 38 (vA [(vI 5),(.slice a18 (tot 5) (tot 5))]) ([(vI 0),(.slice none 0 0)]) ([(vI 5),(.slice a18 (tot 5) (tot 5))]) hBw92 (by kernel_rfl) (by first | decide |(simp;done)|(simp;omega)) (by simp [Value.oneCell']) ?_)
    intro w93 hBw93 hCw93
    have hzw93:=hCw93.size
    rw [zm _ _ (by kernel_rfl)] at hBw93
    refine zc 1 [(6,(vI 0))] (zf (zb (ze (zd (za (zj (some 137) (Instr.loadAt 38 (vP w91.heap.size 0)) (vA [(vI 5),(.slice a18 (tot 5) (tot 5))]) (zw (vs:= [(vI 5),(.slice a18 (tot 5) (tot 5))]) (hBw93.all)) ?_))))))
    have hK92:=(((((((((hK89.ext hEw89)).chg hCw90 (fun hs=>by have h:_=_:=hs;omega))).ext hEw91)).ext hEw92)).chg hCw93 (fun hs=>by have h:_=_:=hs;omega))
    have hK93:=(((((((((hK90.ext hEw89)).chg hCw90 (fun hs=>by have h:_=_:=hs;omega))).ext hEw91)).ext hEw92)).chg hCw93 (fun hs=>by have h:_=_:=hs;omega))
    have hK94:=(((((((((hK91.ext hEw89)).chg hCw90 (fun hs=>by have h:_=_:=hs;omega))).ext hEw91)).ext hEw92)).chg hCw93 (fun hs=>by have h:_=_:=hs;omega))
    refine za (zl (some 138) (zd4 5 4 _ (((hFz37_0.ext hEw92)).chg hCw93 (fun k h1 h2 hs=>by have h:k=_:=hs;omega)) (by first | omega | decide) (by first | omega | decide) (by first | omega | decide) (za1 wO3) (zaQ (n:=5) wO3 rfl) (by first | omega | decide) hK92 hK93 hK94) ?_)
    rintro _ w94 ⟨rfl,hEw94⟩
    have hzw94:=hEw94.size
    rw [show zaT (wT3.getD (4/4) Un.zero) (4%4)=1 from wG3]
    refine zc 5 [(8,(vI 0)),(7,(vI 1)),(140,(vI 0)),(139,(vI 1)),(136,(.tuple #[(vI 1),(vI 0)]))] (zf (zb (ze (zd (zc 2 [(142,(vI 0)),(141,(vI 0))] (za (zt (some 143) .i64 (IntKind.i64.wrap (((0:Nat):Int)+((0:Nat):Int))) 0 (zA (by omega) (by omega) (by omega)) ?_)))))))
    refine zc 1 [(144,(vI 0))] (za (zt (some 145) .i64 (IntKind.i64.wrap (((0:Nat):Int)+((0:Nat):Int))) 0 (zA (by omega) (by omega) (by omega)) ?_))
    refine zc 3 [(148,(vI 0)),(147,vT),(146,vT)] (za (zai (some 149) (((0:Nat):Int)==((0:Nat):Int)) true (zas (by omega)) ?_))
    refine zc 3 [(152,(vI 1)),(151,vT),(150,vT)] (za (zai (some 153) (((1:Nat):Int)==((1:Nat):Int)) true (zas (by omega)) ?_))
    refine zc 3 [(156,(vP w91.heap.size 1)),(155,vT),(154,vT)] (za (zj (some 157) (Instr.loadAt 36 (vP w91.heap.size 1)) (.slice a18 (tot 5) (tot 5)) (zk ((hBw93.ext hEw94).cell rfl)) ?_))
    refine zc 1 [(158,(vI (tot 5)))] (za (zai (some 159) ((((tot 5):Nat):Int)==((3:Nat):Int)) true (zas (by omega)) ?_))
    refine zc 3 [(162,(vP w91.heap.size 1)),(161,vT),(160,vT)] (za (zj (some 163) (Instr.loadAt 36 (vP w91.heap.size 1)) (.slice a18 (tot 5) (tot 5)) (zk ((hBw93.ext hEw94).cell rfl)) ?_))
    obtain ⟨b10,o10,rfl⟩:=hFz37_0.addr (by omega) (by decide)
    refine za (zj (some 164) (Instr.indexAt 36 (.slice (pA b10 o10) (tot 5) (tot 5)) (vI 1)) (vP b10 (o10+1*280)) (zP (E:=77) (sz:=280) (by omega)) ?_)
    refine zc 1 [(165,(vP b10 (o10+1*280+274)))] ?_
    have hK95:=(((((hFz37_0.ext hEw92)).chg hCw93 (fun k h1 h2 hs=>by have h:k=_:=hs;omega))).ext hEw94)
    refine za (zj (some 166) (Instr.loadAt 3 (vP b10 (o10+1*280+274))) (.int .i64 ((wT3.getD 1 Un.zero).sl)) (zk (hK95.cell (j:=274) (i:=1) Un.zero (by omega) (zbk _))) ?_)
    refine za (zai (some 167) ((wT3.getD 1 Un.zero).sl==((0:Nat):Int)) true (zas (by omega)) ?_)
    refine zc 3 [(170,(vP w91.heap.size 1)),(169,vT),(168,vT)] (za (zj (some 171) (Instr.loadAt 36 (vP w91.heap.size 1)) (.slice (pA b10 o10) (tot 5) (tot 5)) (zk ((hBw93.ext hEw94).cell rfl)) ?_))
    refine za (zj (some 172) (Instr.indexAt 36 (.slice (pA b10 o10) (tot 5) (tot 5)) (vI 2)) (vP b10 (o10+2*280)) (zP (E:=77) (sz:=280) (by omega)) ?_)
    refine zc 1 [(173,(vP b10 (o10+2*280+274)))] (za (zj (some 174) (Instr.loadAt 3 (vP b10 (o10+2*280+274))) (.int .i64 ((wT3.getD 2 Un.zero).sl)) (zk (hK95.cell (j:=274) (i:=2) Un.zero (by omega) (zbk _))) ?_))
    refine za (zai (some 175) ((wT3.getD 2 Un.zero).sl==((1:Nat):Int)) true (zas (by omega)) ?_)
    refine zc 2 [(0,vT),(176,vT)] (zf (zb (zq (zr vT ?_))))
    have hX30:Ext w w94:=((Ext.own (((((((Ext.own (Ext.own ((((Ext.own (((((((Ext.own ((((Ext.own (((((Ext.own (Ext.own (((hEw1.trans hEw2).trans hEw3).trans hEw4) hCw5 (by omega)) hCw6 (by omega)).trans hEw7).trans hEw8).trans hEw9).trans hEw10) hCw11 (by omega)).trans hEw12).trans hEw13).trans hEw14) hCw15 (by omega)).trans hEw16).trans hEw17).trans hX18).trans hEw60).trans hEw61).trans hEw62) hCw63 (by omega)).trans hEw64).trans hEw65).trans hEw66) hCw67 (by omega)) hCw68 (by omega)).trans hEw69).trans hEw70).trans hEw71).trans hX29).trans hEw91).trans hEw92) hCw93 (by omega)).trans hEw94)
    exact ⟨rfl,hX30⟩
 ·refine zo (some 9) (Instr.alloc 38 true (.tuple #[])) (vP w17.heap.size 0) ([(vI 0),(.slice none 0 0)]) 38 ?_
  intro w95 hBw95 hEw95
  have hzw95:=hEw95.size;have hlw95:=hBw95.lt
  refine ⟨.inr hEw95, ?_⟩
  refine zz 1 263 (zl (some 40) (zck 3 _ (by first | omega | decide | exact UInt8.toNat_lt _)) ?_)
  rintro _ w96 ⟨rfl,hEw96⟩
  have hzw96:=hEw96.size
  have hX31:Ext w17 w96:=(hEw95.trans hEw96)
  refine ⟨.inr hX31, ?_⟩
  have hK96:=(((((((((((hFz4_0.ext hEw14)).chg hCw15 (fun k h1 h2 hs=>by have h:k=_:=hs;omega))).ext hEw16)).ext hEw17)).ext hEw95)).ext hEw96)
  have hK97:=(((((((hK9.ext hEw16)).ext hEw17)).ext hEw95)).ext hEw96)
  have hK98:=(((((((hK10.ext hEw16)).ext hEw17)).ext hEw95)).ext hEw96)
  have hK99:=(((((((hK11.ext hEw16)).ext hEw17)).ext hEw95)).ext hEw96)
  refine zz 3 271 (zl (some 42) (zdk 5 4 (za5 3) (mkD 3) _ hK96 (by first | omega | decide) (by first | omega | decide) (by first | omega | decide) (za1 wO0) (zaQ (n:=5) wO0 rfl) (by first | omega | decide) hK97 hK98 hK99) ?_)
  rintro _ w97 ⟨a19,rfl,hFz40_0,hEw97⟩
  have hzw97:=hEw97.size
  have hlea19:=hFz40_0.le
  rw [show zdt 5 wT0 4 (za5 3) (mkD 3)=wT1 from wE0] at hFz40_0
  rw [show (zaT (wT0.getD (4/4) Un.zero) (4%4))=0 from wG0]
  have hX32:Ext w17 w97:=((hEw95.trans hEw96).trans hEw97)
  refine ⟨.inr hX32, ?_⟩
  refine zh (hw:=hX32) hT111 [(4,38,(.tuple #[(vA [(vI 5),(.slice a19 (tot 5) (tot 5))]),(vI 0),(vI 0)])),(5,43,(vA [(vI 5),(.slice a19 (tot 5) (tot 5))])),(6,44,(vI 0)),(7,45,(vI 0))] 4 511 (zz 9 1023 (zv 38 w17.heap.size 0 38 (vA [(vI 5),(.slice a19 (tot 5) (tot 5))]) ([(vI 0),(.slice none 0 0)]) ([(vI 5),(.slice a19 (tot 5) (tot 5))]) (((hBw95.ext hEw96)).ext hEw97) (by kernel_rfl) (by first | decide |(simp;done)|(simp;omega)) (by simp [Value.oneCell']) ?_))
  intro w98 hBw98 hCw98
  have hzw98:=hCw98.size
  rw [zm _ _ (by kernel_rfl)] at hBw98
  have hX33:Ext w17 w98:=(Ext.own ((hEw95.trans hEw96).trans hEw97) hCw98 (by omega))
  refine ⟨.inr hX33, ?_⟩
  refine zh (hw:=hX33) hT111 [(10,10,(vI 0)),(11,11,(vI 0))] 2 4095 (zJ (zb (ze (zd (za (zj (some 47) (Instr.loadAt 38 (vP w17.heap.size 0)) (vA [(vI 5),(.slice a19 (tot 5) (tot 5))]) (zw (vs:= [(vI 5),(.slice a19 (tot 5) (tot 5))]) (hBw98.all)) ?_))))))
  refine za (zl (some 48) (zkt 5 _ ((hFz40_0).chg hCw98 (fun k h1 h2 hs=>by have h:k=_:=hs;omega)) (by first | omega | decide) (by first | omega | decide) (by first | omega | decide) (za1 wO1) (zaQ (n:=5) wO1 rfl) (((hK97.ext hEw97)).chg hCw98 (fun hs=>by have h:_=_:=hs;omega)) (((hK98.ext hEw97)).chg hCw98 (fun hs=>by have h:_=_:=hs;omega)) (((hK99.ext hEw97)).chg hCw98 (fun hs=>by have h:_=_:=hs;omega))) ?_)
  rintro _ w99 ⟨a20,rfl,hFz41_0,hEw99⟩
  have hzw99:=hEw99.size
  have hlea20:=hFz41_0.le
  rw [wD1,show List.length [(0,1),(1,0)]=2 from rfl] at hFz41_0
  rw [show zbv 5 wT1 (tot 5)= [(0,1),(1,0)] from wD1]
  rw [show List.length ([(0,1),(1,0)])=2 from rfl]
  refine zc 5 [(13,(vI 0)),(12,(.slice a20 2 2)),(50,(vI 0)),(49,(.slice a20 2 2)),(46,(.tuple #[(.slice a20 2 2),(vI 0)]))] (zf (zb (ze (zd (za (zj (some 52) (Instr.loadAt 38 (vP w17.heap.size 0)) (vA [(vI 5),(.slice a19 (tot 5) (tot 5))]) (zw (vs:= [(vI 5),(.slice a19 (tot 5) (tot 5))]) ((hBw98.ext hEw99).all)) ?_))))))
  have hK100:=(((((hK97.ext hEw97)).chg hCw98 (fun hs=>by have h:_=_:=hs;omega))).ext hEw99)
  have hK101:=(((((hK98.ext hEw97)).chg hCw98 (fun hs=>by have h:_=_:=hs;omega))).ext hEw99)
  have hK102:=(((((hK99.ext hEw97)).chg hCw98 (fun hs=>by have h:_=_:=hs;omega))).ext hEw99)
  refine za (zl (some 53) (zjN 5 4 _ ((((hFz40_0).chg hCw98 (fun k h1 h2 hs=>by have h:k=_:=hs;omega))).ext hEw99) (by first | omega | decide) (by first | omega | decide) (by first | omega | decide) (za1 wO1) (zaQ (n:=5) wO1 rfl) (by first | omega | decide) hK100 hK101 hK102) ?_)
  rintro _ w100 ⟨rfl,hEw100⟩
  have hzw100:=hEw100.size
  rw [show (wT1.getD (4/4) Un.zero).nd.rs.get (4%4)=wR1 from zna]
  refine zc 3 [(55,(vI 0)),(54,(vA (zM (wR1)))),(51,(.tuple #[(vA (zM (wR1))),(vI 0)]))] (za (zo (some 14) (Instr.alloc 68 true (.tuple #[])) (vP w100.heap.size 0) (zM Rec.zero) 68 ?_))
  intro w101 hBw101 hEw101
  have hzw101:=hEw101.size;have hlw101:=hBw101.lt
  refine za (zv 68 w100.heap.size 0 68 (vA (zM (wR1))) (zM Rec.zero) (zM (wR1)) hBw101 (by rw [zab];kernel_rfl) (by first |(simp;done)|(simp;omega)) (za2 _) ?_)
  intro w102 hBw102 hCw102
  have hzw102:=hCw102.size
  rw [zm _ _ (by simp)] at hBw102
  refine zc 1 [(15,(vI 0))] (zf (zb (ze (ze ?_))))
  refine zT (Ext w102.drew) 52 [(57,16,0),(58,64,0),(59,216172782113783808,3),(60,256,0),(61,864691128455135232,12),(62,2048,0),(63,3458764513820540928,48),(64,8192,0),(65,13835058055282163712,192),(66,32768,0),(67,55340232221128654848,768),(68,73786976294838206464,1024),(69,147573952589676412928,2048),(70,295147905179352825984,4096),(71,885443715538058477568,12288),(72,1475739525896764129280,20480),(73,2361183241434822606848,36864),(74,4722366482869645214720,65536),(75,14167099448608935641088,196608),(76,23611832414348226068480,327680),(77,37778931862957161709568,589824),(78,75557863725914323423232,1048576),(79,226673591177742970257408,3145728),(80,377789318629571617095680,5242880),(81,680020773533228910772224,9437184),(82,1208925819614629174706176,17825792),(83,2417851639229258349416448,33554432),(84,7253554917687775048237056,100663296),(85,12089258196146291747061760,167772160),(86,2417851639229258349412352,33554432),(87,60446290980731458735308800,838860800),(88,79789104094565525530607616,1107296256),(89,154742504910672534362390528,2181038080),(90,309485009821345068724785152,4294967296),(91,928455029464035206174343168,12884901888),(92,1547425049106725343623905280,21474836480),(93,309485009821345068724781056,4294967296),(94,7737125245533626718119526400,107374182400),(95,10213005324104387267917774848,141733920768),(96,19807040628566084398385987584,279172874240),(97,39614081257132168796771991552,549755813888),(98,39614081257132168796771975168,549755813888),(99,39614081257132168796771975170,549755813888),(100,514983056342718194358035677184,7146825580544),(101,752667543885511207138667528192,10445360463872),(102,1307264681485361570293475180544,18141941858304),(103,2535301200456458802993406410752,37383395344384),(104,5070602400912917605986812822016,70368744177664),(105,15211807202738752817960438464512,211106232532992),(106,25353012004564588029934064107520,351843720888320),(107,45635421608216258453881315393536,633318697598976),(108,86200240815519599301775817965568,1196268651020288)] (fun hT1128=> ?_)
  have hEw103:Ext w102 w102.drew:=Ext.drew w102
  generalize w102.drew=w103 at hEw103⊢
  have hzw103:=hEw103.size
  refine zh hT1128 [(0,56,(vI 0)),(1,57,(vI 0))] 2 3 (zg hT1128 2 7 (some 58) (vI 0) (zaa .i64 (IntKind.i64.wrap (((0:Nat):Int)+((0:Nat):Int))) (zA (by omega) (by omega) (by omega))) (zh hT1128 [(3,59,(vI 0))] 1 15 (zg hT1128 4 31 (some 60) (vI 0) (zaa .i64 (IntKind.i64.wrap (((0:Nat):Int)+((0:Nat):Int))) (zA (by omega) (by omega) (by omega))) (zh hT1128 [(5,61,(vI 0))] 1 63 (zg hT1128 6 127 (some 62) (vI 0) (zaa .i64 (IntKind.i64.wrap (((0:Nat):Int)+((0:Nat):Int))) (zA (by omega) (by omega) (by omega))) (zh hT1128 [(7,63,(vI 0))] 1 255 (zg hT1128 8 511 (some 64) (vI 0) (zaa .i64 (IntKind.i64.wrap (((0:Nat):Int)+((0:Nat):Int))) (zA (by omega) (by omega) (by omega))) (zh hT1128 [(9,65,(vI 0))] 1 1023 (zg hT1128 10 2047 (some 66) (vI 0) (zaa .i64 (IntKind.i64.wrap (((0:Nat):Int)+((0:Nat):Int))) (zA (by omega) (by omega) (by omega))) ?_)))))))))
  refine zh hT1128 [(11,67,vF),(12,68,vF),(13,69,(vI 0))] 3 16383 (zg hT1128 14 32767 (some 70) vF (zaD (((0:Nat):Int) !=((0:Nat):Int)) (zaA (by omega))) (zh hT1128 [(15,71,vF),(16,72,vF),(17,73,(vI 0))] 3 262143 (zg hT1128 18 524287 (some 74) vF (zaD (((0:Nat):Int) !=((0:Nat):Int)) (zaA (by omega))) (zh hT1128 [(19,75,vF),(20,76,vF),(21,77,(.slice a20 2 2)),(22,78,(vI 2)),(23,79,vF),(24,80,vF),(25,81,vF),(26,82,(.slice a20 2 2))] 8 134217727 ?_))))
  obtain ⟨b11,o11,rfl⟩:=hFz41_0.addr (by omega) (by decide)
  refine zg hT1128 27 268435455 (some 83) (vP b11 (o11+0*2)) (zi (Instr.indexAt 85 (.slice (pA b11 o11) 2 2) (vI 0)) (fun w' hC=>zP (E:=89) (sz:=2) (by omega))) ?_
  have hK103:=(((((((hFz41_0.ext hEw100)).ext hEw101)).chg hCw102 (fun k h1 h2 hs=>by have h:k=_:=hs;omega))).ext hEw103)
  refine zg hT1128 28 536870911 (some 84) (vA [(vI ((([(0,1),(1,0)]).getD 0 (0,0)).1)),(vI ((([(0,1),(1,0)]).getD 0 (0,0)).2))]) (zi (Instr.loadAt 89 (vP b11 (o11+0*2))) (fun w' hC=>zw (vs:= [(vI ((([(0,1),(1,0)]).getD 0 (0,0)).1)),(vI ((([(0,1),(1,0)]).getD 0 (0,0)).2))]) ((hK103.ext hC).at (0,0) (by omega)))) (zh hT1128 [(29,85,(vA [(vI 0),(vI 1)]))] 1 1073741823 (zg hT1128 30 2147483647 (some 86) vF (zi (bo .neq 89 (.tmp 84) (.tmp 85) (vA [(vI ((([(0,1),(1,0)]).getD 0 (0,0)).1)),(vI ((([(0,1),(1,0)]).getD 0 (0,0)).2))]) (vA [(vI 0),(vI 1)])) (fun w' hC=>zak (r:=true) (T:=89) ((zdr (dd:=9998) (t:=89) [(vI ((([(0,1),(1,0)]).getD 0 (0,0)).1)),(vI ((([(0,1),(1,0)]).getD 0 (0,0)).2))] [(vI 0),(vI 1)]).trans (congrArg (fun b=>Result.ok b _) (show (zgp [(vI ((([(0,1),(1,0)]).getD 0 (0,0)).1)),(vI ((([(0,1),(1,0)]).getD 0 (0,0)).2))] [(vI 0),(vI 1)])=true from rfl))))) (zh hT1128 [(31,87,vF),(32,88,vF),(33,89,(.slice (pA b11 o11) 2 2))] 3 17179869183 (zg hT1128 34 34359738367 (some 90) (vP b11 (o11+1*2)) (zi (Instr.indexAt 85 (.slice (pA b11 o11) 2 2) (vI 1)) (fun w' hC=>zP (E:=89) (sz:=2) (by omega))) ?_))))
  refine zg hT1128 35 68719476735 (some 91) (vA [(vI ((([(0,1),(1,0)]).getD 1 (0,0)).1)),(vI ((([(0,1),(1,0)]).getD 1 (0,0)).2))]) (zi (Instr.loadAt 89 (vP b11 (o11+1*2))) (fun w' hC=>zw (vs:= [(vI ((([(0,1),(1,0)]).getD 1 (0,0)).1)),(vI ((([(0,1),(1,0)]).getD 1 (0,0)).2))]) ((hK103.ext hC).at (0,0) (by omega)))) (zh hT1128 [(36,92,(vA [(vI 1),(vI 0)]))] 1 137438953471 (zg hT1128 37 274877906943 (some 93) vF (zi (bo .neq 89 (.tmp 91) (.tmp 92) (vA [(vI ((([(0,1),(1,0)]).getD 1 (0,0)).1)),(vI ((([(0,1),(1,0)]).getD 1 (0,0)).2))]) (vA [(vI 1),(vI 0)])) (fun w' hC=>zak (r:=true) (T:=89) ((zdr (dd:=9998) (t:=89) [(vI ((([(0,1),(1,0)]).getD 1 (0,0)).1)),(vI ((([(0,1),(1,0)]).getD 1 (0,0)).2))] [(vI 1),(vI 0)]).trans (congrArg (fun b=>Result.ok b _) (show (zgp [(vI ((([(0,1),(1,0)]).getD 1 (0,0)).1)),(vI ((([(0,1),(1,0)]).getD 1 (0,0)).2))] [(vI 1),(vI 0)])=true from rfl))))) (zh hT1128 [(38,94,vF),(39,95,vF)] 2 1099511627775 (zg hT1128 40 2199023255551 (some 96) (vA (zM (wR1))) (zi (Instr.loadAt 68 (vP w100.heap.size 0)) (fun w' hC=>zw (vs:=zM (wR1)) (((hBw102.ext hEw103).ext hC).all) (by rw [zab];kernel_rfl))) ?_))))
  have hK104:=(((((((((((hK12.ext hX33)).ext hEw99)).ext hEw100)).ext hEw101)).chg hCw102 (fun hs=>by have h:_=_:=hs;omega))).ext hEw103)
  refine zg hT1128 42 6597069766655 (some 98) (vA (zO (mkD 3))) (zi (Instr.loadAt 59 (vP w2.heap.size 0)) (fun w' hC=>zw (vs:=zO (mkD 3)) ((hK104.ext hC).all) (by rw [zal];kernel_rfl))) (zz 41 8796093022207 (zl (some 97) (zck 3 _ (by first | omega | decide | exact UInt8.toNat_lt _)) ?_))
  rintro _ w104 ⟨rfl,hEw104⟩
  have hzw104:=hEw104.size
  refine ⟨.inr hEw104, ?_⟩
  refine zg (hw:=hEw104) hT1128 43 17592186044415 (some 99) (vA (zM wR1)) (zi (Instr.build 68 #[(0,(vB 1)),(1,(vA (zaU (za5 3)))),(2,(vA (zO (mkD 3))))]) (fun w' hC=>(zcO 1 (za5 3) (mkD 3) (by decide)).trans (congrArg (fun z:Rec=>Result.ok (Value.agg (zM z).toArray) _) (show (⟨1,(za5 3),(mkD 3),by decide⟩:Rec)=wR1 from rfl)))) (zg (hw:=hEw104) hT1128 44 35184372088831 (some 100) vF (zi (bo .neq 68 (.tmp 96) (.tmp 99) (vA (zM (wR1))) (vA (zM wR1))) (fun w' hC=>zak (r:=true) (T:=68) ((zcP (dd:=9997) (t:=68) (t8:=5) (tn:=56) (td:=59) (e:=5) (t32:=53) (t64:=54) (wR1) wR1).trans (congrArg (fun b=>Result.ok b _) (show ((wR1).eqb wR1)=true from (Rec.eqb_iff _ _).2 rfl))))) (zh (hw:=hEw104) hT1128 [(45,101,vF),(46,102,vF),(47,103,(vP w17.heap.size 1))] 3 281474976710655 ?_))
  have hK105:=(((((((((hBw98.ext hEw99)).ext hEw100)).ext hEw101)).chg hCw102 (fun hs=>by have h:_=_:=hs;omega))).ext hEw103)
  refine zg (hw:=hEw104) hT1128 48 562949953421311 (some 104) (.slice a19 (tot 5) (tot 5)) (zi (Instr.loadAt 36 (vP w17.heap.size 1)) (fun w' hC=>zk ((hK105.ext hC).cell rfl))) (zh (hw:=hEw104) hT1128 [(49,105,(vI (tot 5)))] 1 1125899906842623 (zg (hw:=hEw104) hT1128 50 2251799813685247 (some 106) vF (zaD ((((tot 5):Nat):Int) !=((3:Nat):Int)) (zaA (by omega))) (zh (hw:=hEw104) hT1128 [(51,107,vF)] 1 4503599627370495 (zJ (zb (zn (zu (zb (ze ?_)))))))))
  refine zd (zc 1 [(108,(vA (zH (Nod.mt 0 1))))] (za (zo (some 16) (Instr.alloc 74 true (.tuple #[])) (vP w104.heap.size 0) (zH Nod.zero) 74 ?_)))
  intro w105 hBw105 hEw105
  have hzw105:=hEw105.size;have hlw105:=hBw105.lt
  refine za (zv 74 w104.heap.size 0 74 (vA (zH (Nod.mt 0 1))) (zH Nod.zero) (zH (Nod.mt 0 1)) hBw105 (by rw [zV];kernel_rfl) (by first |(simp;done)|(simp;omega)) (zbZ _) ?_)
  intro w106 hBw106 hCw106
  have hzw106:=hCw106.size
  rw [zm _ _ (by simp)] at hBw106
  refine zf (zb (ze (zd ?_)))
  have hK106:=(((((((hBw102.ext hEw103)).ext hEw104)).ext hEw105)).chg hCw106 (fun hs=>by have h:_=_:=hs;omega))
  refine za (zj (some 109) (Instr.loadAt 68 (vP w100.heap.size 0)) (vA (zM (wR1))) (zw (vs:=zM (wR1)) (hK106.all) (by rw [zab];kernel_rfl)) ?_)
  refine zc 1 [(110,(vP w104.heap.size 2))] (za (zj (some 111) (Instr.indexAt 69 (vP w104.heap.size 2) (vI 0)) (vP w104.heap.size (2+0*35)) (zag (E:=68) (sz:=35) (m:=4) (by omega)) ?_))
  refine za (zv 68 w104.heap.size (2+0*35) 74 (vA (zM (wR1))) (zH (Nod.mt 0 1)) (zM (wR1)) hBw106 (by rw [zab];kernel_rfl) (by first |(simp;done)|(simp;omega)) (za2 _) ?_)
  intro w107 hBw107 hCw107
  have hzw107:=hCw107.size
  rw [show (zac (zH (Nod.mt 0 1)) (2+0*35) (zM (wR1)):List Value)=zH ((Nod.mt 0 1).setR 0 (wR1)) from nod_setR (by omega)] at hBw107
  refine zf (zb (ze (ze (zT (Ext w107.drew) 11 [(113,512,0),(114,5192296858534827628530496329220096,1),(115,10384593717069655257060992658440192,2),(116,20769187434139310514121985316880384,4),(117,41538374868278621028243970633760768,8),(118,83076749736557242056487941267521536,16),(119,166153499473114484112975882535043072,32),(120,65536,0),(121,664613997892457936451903530140172288,128),(122,1329227995784915872903807060280344576,256),(123,2990762990516060714033565885630775296,576)] (fun hT1205=> ?_)))))
  have hEw108:Ext w107 w107.drew:=Ext.drew w107
  generalize w107.drew=w108 at hEw108⊢
  have hzw108:=hEw108.size
  refine zh hT1205 [(0,112,(vP w17.heap.size 1))] 1 1 ?_
  have hK107:=(((((((((hK105.ext hEw104)).ext hEw105)).chg hCw106 (fun hs=>by have h:_=_:=hs;omega))).chg hCw107 (fun hs=>by have h:_=_:=hs;omega))).ext hEw108)
  refine zg hT1205 1 3 (some 113) (.slice a19 (tot 5) (tot 5)) (zi (Instr.loadAt 36 (vP w17.heap.size 1)) (fun w' hC=>zk ((hK107.ext hC).cell rfl))) ?_
  obtain ⟨b12,o12,rfl⟩:=hFz40_0.addr (by omega) (by decide)
  refine zg hT1205 2 7 (some 114) (vP b12 (o12+2*280)) (zi (Instr.indexAt 36 (.slice (pA b12 o12) (tot 5) (tot 5)) (vI 2)) (fun w' hC=>zP (E:=77) (sz:=280) (by omega))) (zh hT1205 [(3,115,(vP b12 (o12+2*280))),(4,116,(vP b12 (o12+2*280+142)))] 2 31 (zg hT1205 5 63 (some 117) (vP b12 (o12+2*280+142+1*33)) (zi (Instr.indexAt 72 (vP b12 (o12+2*280+142)) (vI 1)) (fun w' hC=>zag (E:=71) (sz:=33) (m:=4) (by omega))) ?_))
  have hK108:=((((((((((((((((((((((hFz40_0).chg hCw98 (fun k h1 h2 hs=>by have h:k=_:=hs;omega))).ext hEw99)).ext hEw100)).ext hEw101)).chg hCw102 (fun k h1 h2 hs=>by have h:k=_:=hs;omega))).ext hEw103)).ext hEw104)).ext hEw105)).chg hCw106 (fun k h1 h2 hs=>by have h:k=_:=hs;omega))).chg hCw107 (fun k h1 h2 hs=>by have h:k=_:=hs;omega))).ext hEw108)
  refine zg hT1205 6 127 (some 118) (vA (zad ((wT1.getD 2 Un.zero).nd.es.get 1))) (zi (Instr.loadAt 71 (vP b12 (o12+2*280+142+1*33))) (fun w' hC=>zw (vs:=zad ((wT1.getD 2 Un.zero).nd.es.get 1)) (((hK108.ext hC).at Un.zero (by omega)).sub2 142 _ (zad ((wT1.getD 2 Un.zero).nd.es.get 1)) (zng (by omega))) (by rw [zaF];kernel_rfl))) (zg hT1205 7 255 (some 119) (vA (zH ((Nod.mt 0 1).setR 0 (wR1)))) (zi (Instr.loadAt 74 (vP w104.heap.size 0)) (fun w' hC=>zw (vs:=zH ((Nod.mt 0 1).setR 0 (wR1))) (((hBw107.ext hEw108).ext hC).all) (by rw [zV];kernel_rfl))) (zz 8 511 (zl (some 120) (zfe ((Nod.mt 0 1).setR 0 (wR1)) _) ?_)))
  rintro _ w109 ⟨rfl,hEw109⟩
  have hzw109:=hEw109.size
  refine ⟨.inr hEw109, ?_⟩
  refine zg (hw:=hEw109) hT1205 9 1023 (some 121) (vA (zad (⟨1,(zU (zS ((Nod.mt 0 1).setR 0 (wR1)))),by decide⟩))) (zi (Instr.build 71 #[(0,(vB 1)),(1,(vA (zO (zU (zS ((Nod.mt 0 1).setR 0 (wR1)))))))]) (fun w' hC=>zcm 1 (zU (zS ((Nod.mt 0 1).setR 0 (wR1)))) (by decide))) (zg (hw:=hEw109) hT1205 10 2047 (some 122) vF (zi (bo .neq 71 (.tmp 118) (.tmp 121) (vA (zad ((wT1.getD 2 Un.zero).nd.es.get 1))) (vA (zad (⟨1,(zU (zS ((Nod.mt 0 1).setR 0 (wR1)))),by decide⟩)))) (fun w' hC=>zak (r:=true) (T:=71) ((zb8 (dd:=9997) (t:=71) (t8:=5) (td:=59) (e:=5) ((wT1.getD 2 Un.zero).nd.es.get 1) (⟨1,(zU (zS ((Nod.mt 0 1).setR 0 (wR1)))),by decide⟩)).trans (congrArg (fun b=>Result.ok b _) (show (((wT1.getD 2 Un.zero).nd.es.get 1).eqb (⟨1,(zU (zS ((Nod.mt 0 1).setR 0 (wR1)))),by decide⟩))=true from (Ent.eqb_iff _ _).2 zo2))))) (zJ (zb (zn (zu (zb (ze (zT (Ext w109.drew) 12 [(125,512,0),(126,0,0),(127,4,0),(128,148873535527910577765226390751398592512,7),(124,170141183460469231731687303715884105728,8),(129,10633823966279326983230456482242756608,16),(130,10633823966279326983230456482242756608,16),(131,10633823966279326983230456482242756608,16),(18,0,0),(0,340282366920938463463374607431768342528,319),(11,680564733841876926926749214863536422912,895),(5,1361129467683753853853498429727072845824,2047)] (fun hT1231=> ?_)))))))))
  have hEw110:Ext w109 w109.drew:=Ext.drew w109
  generalize w109.drew=w110 at hEw110⊢
  have hzw110:=hEw110.size
  refine zg hT1231 0 1 (some 124) (vA [(vI 5),(.slice (pA b12 o12) (tot 5) (tot 5))]) (zi (Instr.loadAt 38 (vP w17.heap.size 0)) (fun w' hC=>zw (vs:= [(vI 5),(.slice (pA b12 o12) (tot 5) (tot 5))]) (((((hK107.ext hEw109)).ext hEw110).ext hC).all))) ?_
  have hK109:=(((((((((((((((((((((((((((((((((((((((((((((((hBw6.ext hEw7)).ext hEw8)).ext hEw9)).ext hEw10)).chg hCw11 (fun hs=>by have h:_=_:=hs;omega))).ext hEw12)).ext hEw13)).ext hEw14)).chg hCw15 (fun hs=>by have h:_=_:=hs;omega))).ext hEw16)).ext hEw17)).ext hX33)).ext hEw99)).ext hEw100)).ext hEw101)).chg hCw102 (fun hs=>by have h:_=_:=hs;omega))).ext hEw103)).ext hEw104)).ext hEw105)).chg hCw106 (fun hs=>by have h:_=_:=hs;omega))).chg hCw107 (fun hs=>by have h:_=_:=hs;omega))).ext hEw108)).ext hEw109)).ext hEw110)
  refine zg hT1231 2 5 (some 126) (vA (zO (mkD 4))) (zi (Instr.loadAt 59 (vP w3.heap.size 0)) (fun w' hC=>zw (vs:=zO (mkD 4)) ((hK109.ext hC).all) (by rw [zal];kernel_rfl))) (za9 1 8 7 261 ?_ ?_)
  ·refine zl (some 125) (zck 4 _ (by first | omega | decide | exact UInt8.toNat_lt _)) ?_
   rintro _ w111 ⟨rfl,hEw111⟩
   have hzw111:=hEw111.size
   refine ⟨.inr hEw111, ?_⟩
   refine za9 3 8 15 263 ?_ ?_
   ·have hK110:=(((((hK108.ext hEw109)).ext hEw110)).ext hEw111)
    have hK111:=(((((((((((((((((((((((hK100.ext hEw100)).ext hEw101)).chg hCw102 (fun hs=>by have h:_=_:=hs;omega))).ext hEw103)).ext hEw104)).ext hEw105)).chg hCw106 (fun hs=>by have h:_=_:=hs;omega))).chg hCw107 (fun hs=>by have h:_=_:=hs;omega))).ext hEw108)).ext hEw109)).ext hEw110)).ext hEw111)
    have hK112:=(((((((((((((((((((((((hK101.ext hEw100)).ext hEw101)).chg hCw102 (fun hs=>by have h:_=_:=hs;omega))).ext hEw103)).ext hEw104)).ext hEw105)).chg hCw106 (fun hs=>by have h:_=_:=hs;omega))).chg hCw107 (fun hs=>by have h:_=_:=hs;omega))).ext hEw108)).ext hEw109)).ext hEw110)).ext hEw111)
    have hK113:=(((((((((((((((((((((((hK102.ext hEw100)).ext hEw101)).chg hCw102 (fun hs=>by have h:_=_:=hs;omega))).ext hEw103)).ext hEw104)).ext hEw105)).chg hCw106 (fun hs=>by have h:_=_:=hs;omega))).chg hCw107 (fun hs=>by have h:_=_:=hs;omega))).ext hEw108)).ext hEw109)).ext hEw110)).ext hEw111)
    refine zl (some 127) (zdk 5 4 (za5 4) (mkD 4) _ hK110 (by first | omega | decide) (by first | omega | decide) (by first | omega | decide) (za1 wO1) (zaQ (n:=5) wO1 rfl) (by first | omega | decide) hK111 hK112 hK113) ?_
    rintro _ w112 ⟨a21,rfl,hFz46_0,hEw112⟩
    have hzw112:=hEw112.size
    have hlea21:=hFz46_0.le
    rw [show zdt 5 wT1 4 (za5 4) (mkD 4)=wT2 from wE1] at hFz46_0
    rw [show (zaT (wT1.getD (4/4) Un.zero) (4%4))=0 from wG1]
    have hX34:Ext w110 w112:=(hEw111.trans hEw112)
    refine ⟨.inr hX34, ?_⟩
    refine zh (hw:=hX34) hT1231 [(4,123,(.tuple #[(vA [(vI 5),(.slice a21 (tot 5) (tot 5))]),(vI 0),(vI 0)])),(5,128,(vA [(vI 5),(.slice a21 (tot 5) (tot 5))])),(6,129,(vI 0)),(7,130,(vI 0))] 4 255 (zz 8 511 (zo (some 17) (Instr.alloc 38 true (.tuple #[])) (vP w112.heap.size 0) ([(vI 0),(.slice none 0 0)]) 38 ?_))
    intro w113 hBw113 hEw113
    have hzw113:=hEw113.size;have hlw113:=hBw113.lt
    have hX35:Ext w110 w113:=((hEw111.trans hEw112).trans hEw113)
    refine ⟨.inr hX35, ?_⟩
    refine zz 9 1023 (zv 38 w112.heap.size 0 38 (vA [(vI 5),(.slice a21 (tot 5) (tot 5))]) ([(vI 0),(.slice none 0 0)]) ([(vI 5),(.slice a21 (tot 5) (tot 5))]) hBw113 (by kernel_rfl) (by first | decide |(simp;done)|(simp;omega)) (by simp [Value.oneCell']) ?_)
    intro w114 hBw114 hCw114
    have hzw114:=hCw114.size
    rw [zm _ _ (by kernel_rfl)] at hBw114
    have hX36:Ext w110 w114:=(Ext.own ((hEw111.trans hEw112).trans hEw113) hCw114 (by omega))
    refine ⟨.inr hX36, ?_⟩
    refine zh (hw:=hX36) hT1231 [(10,10,(vI 0)),(11,4,(vI 0))] 2 4095 (zJ (zb (ze (zd (za (zj (some 132) (Instr.loadAt 38 (vP w112.heap.size 0)) (vA [(vI 5),(.slice a21 (tot 5) (tot 5))]) (zw (vs:= [(vI 5),(.slice a21 (tot 5) (tot 5))]) (hBw114.all)) ?_))))))
    have hK114:=(((((hK111.ext hEw112)).ext hEw113)).chg hCw114 (fun hs=>by have h:_=_:=hs;omega))
    have hK115:=(((((hK112.ext hEw112)).ext hEw113)).chg hCw114 (fun hs=>by have h:_=_:=hs;omega))
    have hK116:=(((((hK113.ext hEw112)).ext hEw113)).chg hCw114 (fun hs=>by have h:_=_:=hs;omega))
    refine za (zl (some 133) (zd3 5 _ (((hFz46_0.ext hEw113)).chg hCw114 (fun k h1 h2 hs=>by have h:k=_:=hs;omega)) (by first | omega | decide) (by first | omega | decide) (by first | omega | decide) (za1 wO2) (zaQ (n:=5) wO2 rfl) hK114 hK115 hK116) ?_)
    rintro _ w115 ⟨a22,rfl,hFz47_0,hEw115⟩
    have hzw115:=hEw115.size
    have hlea22:=hFz47_0.le
    rw [show zba (tot 5) wT2=wT3 from wE2] at hFz47_0
    refine zc 3 [(135,(vI 0)),(134,(vA [(vI 5),(.slice a22 (tot 5) (tot 5))])),(131,(.tuple #[(vA [(vI 5),(.slice a22 (tot 5) (tot 5))]),(vI 0)]))] (za (zo (some 18) (Instr.alloc 38 true (.tuple #[])) (vP w115.heap.size 0) ([(vI 0),(.slice none 0 0)]) 38 ?_))
    intro w116 hBw116 hEw116
    have hzw116:=hEw116.size;have hlw116:=hBw116.lt
    refine za (zv 38 w115.heap.size 0 38 (vA [(vI 5),(.slice a22 (tot 5) (tot 5))]) ([(vI 0),(.slice none 0 0)]) ([(vI 5),(.slice a22 (tot 5) (tot 5))]) hBw116 (by kernel_rfl) (by first | decide |(simp;done)|(simp;omega)) (by simp [Value.oneCell']) ?_)
    intro w117 hBw117 hCw117
    have hzw117:=hCw117.size
    rw [zm _ _ (by kernel_rfl)] at hBw117
    refine zc 1 [(6,(vI 0))] (zf (zb (ze (zd (za (zj (some 137) (Instr.loadAt 38 (vP w115.heap.size 0)) (vA [(vI 5),(.slice a22 (tot 5) (tot 5))]) (zw (vs:= [(vI 5),(.slice a22 (tot 5) (tot 5))]) (hBw117.all)) ?_))))))
    have hK117:=(((((hK114.ext hEw115)).ext hEw116)).chg hCw117 (fun hs=>by have h:_=_:=hs;omega))
    have hK118:=(((((hK115.ext hEw115)).ext hEw116)).chg hCw117 (fun hs=>by have h:_=_:=hs;omega))
    have hK119:=(((((hK116.ext hEw115)).ext hEw116)).chg hCw117 (fun hs=>by have h:_=_:=hs;omega))
    refine za (zl (some 138) (zd4 5 4 _ (((hFz47_0.ext hEw116)).chg hCw117 (fun k h1 h2 hs=>by have h:k=_:=hs;omega)) (by first | omega | decide) (by first | omega | decide) (by first | omega | decide) (za1 wO3) (zaQ (n:=5) wO3 rfl) (by first | omega | decide) hK117 hK118 hK119) ?_)
    rintro _ w118 ⟨rfl,hEw118⟩
    have hzw118:=hEw118.size
    rw [show zaT (wT3.getD (4/4) Un.zero) (4%4)=1 from wG3]
    refine zc 5 [(8,(vI 0)),(7,(vI 1)),(140,(vI 0)),(139,(vI 1)),(136,(.tuple #[(vI 1),(vI 0)]))] (zf (zb (ze (zd (zc 2 [(142,(vI 0)),(141,(vI 0))] (za (zt (some 143) .i64 (IntKind.i64.wrap (((0:Nat):Int)+((0:Nat):Int))) 0 (zA (by omega) (by omega) (by omega)) ?_)))))))
    refine zc 1 [(144,(vI 0))] (za (zt (some 145) .i64 (IntKind.i64.wrap (((0:Nat):Int)+((0:Nat):Int))) 0 (zA (by omega) (by omega) (by omega)) ?_))
    refine zc 3 [(148,(vI 0)),(147,vT),(146,vT)] (za (zai (some 149) (((0:Nat):Int)==((0:Nat):Int)) true (zas (by omega)) ?_))
    refine zc 3 [(152,(vI 1)),(151,vT),(150,vT)] (za (zai (some 153) (((1:Nat):Int)==((1:Nat):Int)) true (zas (by omega)) ?_))
    refine zc 3 [(156,(vP w115.heap.size 1)),(155,vT),(154,vT)] (za (zj (some 157) (Instr.loadAt 36 (vP w115.heap.size 1)) (.slice a22 (tot 5) (tot 5)) (zk ((hBw117.ext hEw118).cell rfl)) ?_))
    refine zc 1 [(158,(vI (tot 5)))] (za (zai (some 159) ((((tot 5):Nat):Int)==((3:Nat):Int)) true (zas (by omega)) ?_))
    refine zc 3 [(162,(vP w115.heap.size 1)),(161,vT),(160,vT)] (za (zj (some 163) (Instr.loadAt 36 (vP w115.heap.size 1)) (.slice a22 (tot 5) (tot 5)) (zk ((hBw117.ext hEw118).cell rfl)) ?_))
    obtain ⟨b13,o13,rfl⟩:=hFz47_0.addr (by omega) (by decide)
    refine za (zj (some 164) (Instr.indexAt 36 (.slice (pA b13 o13) (tot 5) (tot 5)) (vI 1)) (vP b13 (o13+1*280)) (zP (E:=77) (sz:=280) (by omega)) ?_)
    refine zc 1 [(165,(vP b13 (o13+1*280+274)))] ?_
    have hK120:=(((((hFz47_0.ext hEw116)).chg hCw117 (fun k h1 h2 hs=>by have h:k=_:=hs;omega))).ext hEw118)
    refine za (zj (some 166) (Instr.loadAt 3 (vP b13 (o13+1*280+274))) (.int .i64 ((wT3.getD 1 Un.zero).sl)) (zk (hK120.cell (j:=274) (i:=1) Un.zero (by omega) (zbk _))) ?_)
    refine za (zai (some 167) ((wT3.getD 1 Un.zero).sl==((0:Nat):Int)) true (zas (by omega)) ?_)
    refine zc 3 [(170,(vP w115.heap.size 1)),(169,vT),(168,vT)] (za (zj (some 171) (Instr.loadAt 36 (vP w115.heap.size 1)) (.slice (pA b13 o13) (tot 5) (tot 5)) (zk ((hBw117.ext hEw118).cell rfl)) ?_))
    refine za (zj (some 172) (Instr.indexAt 36 (.slice (pA b13 o13) (tot 5) (tot 5)) (vI 2)) (vP b13 (o13+2*280)) (zP (E:=77) (sz:=280) (by omega)) ?_)
    refine zc 1 [(173,(vP b13 (o13+2*280+274)))] (za (zj (some 174) (Instr.loadAt 3 (vP b13 (o13+2*280+274))) (.int .i64 ((wT3.getD 2 Un.zero).sl)) (zk (hK120.cell (j:=274) (i:=2) Un.zero (by omega) (zbk _))) ?_))
    refine za (zai (some 175) ((wT3.getD 2 Un.zero).sl==((1:Nat):Int)) true (zas (by omega)) ?_)
    refine zc 2 [(0,vT),(176,vT)] (zf (zb (zq (zr vT ?_))))
    have hX37:Ext w w118:=((Ext.own (((((((Ext.own (Ext.own ((((Ext.own (((((((Ext.own ((((Ext.own (((((Ext.own (Ext.own (((hEw1.trans hEw2).trans hEw3).trans hEw4) hCw5 (by omega)) hCw6 (by omega)).trans hEw7).trans hEw8).trans hEw9).trans hEw10) hCw11 (by omega)).trans hEw12).trans hEw13).trans hEw14) hCw15 (by omega)).trans hEw16).trans hEw17).trans hX33).trans hEw99).trans hEw100).trans hEw101) hCw102 (by omega)).trans hEw103).trans hEw104).trans hEw105) hCw106 (by omega)) hCw107 (by omega)).trans hEw108).trans hEw109).trans hEw110).trans hX36).trans hEw115).trans hEw116) hCw117 (by omega)).trans hEw118)
    exact ⟨rfl,hX37⟩
   ·refine zo (some 17) (Instr.alloc 38 true (.tuple #[])) (vP w111.heap.size 0) ([(vI 0),(.slice none 0 0)]) 38 ?_
    intro w119 hBw119 hEw119
    have hzw119:=hEw119.size;have hlw119:=hBw119.lt
    have hX38:Ext w110 w119:=(hEw111.trans hEw119)
    refine ⟨.inr hX38, ?_⟩
    have hK121:=(((((((hK108.ext hEw109)).ext hEw110)).ext hEw111)).ext hEw119)
    have hK122:=(((((((((((((((((((((((((hK100.ext hEw100)).ext hEw101)).chg hCw102 (fun hs=>by have h:_=_:=hs;omega))).ext hEw103)).ext hEw104)).ext hEw105)).chg hCw106 (fun hs=>by have h:_=_:=hs;omega))).chg hCw107 (fun hs=>by have h:_=_:=hs;omega))).ext hEw108)).ext hEw109)).ext hEw110)).ext hEw111)).ext hEw119)
    have hK123:=(((((((((((((((((((((((((hK101.ext hEw100)).ext hEw101)).chg hCw102 (fun hs=>by have h:_=_:=hs;omega))).ext hEw103)).ext hEw104)).ext hEw105)).chg hCw106 (fun hs=>by have h:_=_:=hs;omega))).chg hCw107 (fun hs=>by have h:_=_:=hs;omega))).ext hEw108)).ext hEw109)).ext hEw110)).ext hEw111)).ext hEw119)
    have hK124:=(((((((((((((((((((((((((hK102.ext hEw100)).ext hEw101)).chg hCw102 (fun hs=>by have h:_=_:=hs;omega))).ext hEw103)).ext hEw104)).ext hEw105)).chg hCw106 (fun hs=>by have h:_=_:=hs;omega))).chg hCw107 (fun hs=>by have h:_=_:=hs;omega))).ext hEw108)).ext hEw109)).ext hEw110)).ext hEw111)).ext hEw119)
    refine zz 3 271 (zl (some 127) (zdk 5 4 (za5 4) (mkD 4) _ hK121 (by first | omega | decide) (by first | omega | decide) (by first | omega | decide) (za1 wO1) (zaQ (n:=5) wO1 rfl) (by first | omega | decide) hK122 hK123 hK124) ?_)
    rintro _ w120 ⟨a23,rfl,hFz49_0,hEw120⟩
    have hzw120:=hEw120.size
    have hlea23:=hFz49_0.le
    rw [show zdt 5 wT1 4 (za5 4) (mkD 4)=wT2 from wE1] at hFz49_0
    rw [show (zaT (wT1.getD (4/4) Un.zero) (4%4))=0 from wG1]
    have hX39:Ext w110 w120:=((hEw111.trans hEw119).trans hEw120)
    refine ⟨.inr hX39, ?_⟩
    refine zh (hw:=hX39) hT1231 [(4,123,(.tuple #[(vA [(vI 5),(.slice a23 (tot 5) (tot 5))]),(vI 0),(vI 0)])),(5,128,(vA [(vI 5),(.slice a23 (tot 5) (tot 5))])),(6,129,(vI 0)),(7,130,(vI 0))] 4 511 (zz 9 1023 (zv 38 w111.heap.size 0 38 (vA [(vI 5),(.slice a23 (tot 5) (tot 5))]) ([(vI 0),(.slice none 0 0)]) ([(vI 5),(.slice a23 (tot 5) (tot 5))]) (hBw119.ext hEw120) (by kernel_rfl) (by first | decide |(simp;done)|(simp;omega)) (by simp [Value.oneCell']) ?_))
    intro w121 hBw121 hCw121
    have hzw121:=hCw121.size
    rw [zm _ _ (by kernel_rfl)] at hBw121
    have hX40:Ext w110 w121:=(Ext.own ((hEw111.trans hEw119).trans hEw120) hCw121 (by omega))
    refine ⟨.inr hX40, ?_⟩
    refine zh (hw:=hX40) hT1231 [(10,10,(vI 0)),(11,4,(vI 0))] 2 4095 (zJ (zb (ze (zd (za (zj (some 132) (Instr.loadAt 38 (vP w111.heap.size 0)) (vA [(vI 5),(.slice a23 (tot 5) (tot 5))]) (zw (vs:= [(vI 5),(.slice a23 (tot 5) (tot 5))]) (hBw121.all)) ?_))))))
    refine za (zl (some 133) (zd3 5 _ ((hFz49_0).chg hCw121 (fun k h1 h2 hs=>by have h:k=_:=hs;omega)) (by first | omega | decide) (by first | omega | decide) (by first | omega | decide) (za1 wO2) (zaQ (n:=5) wO2 rfl) (((hK122.ext hEw120)).chg hCw121 (fun hs=>by have h:_=_:=hs;omega)) (((hK123.ext hEw120)).chg hCw121 (fun hs=>by have h:_=_:=hs;omega)) (((hK124.ext hEw120)).chg hCw121 (fun hs=>by have h:_=_:=hs;omega))) ?_)
    rintro _ w122 ⟨a24,rfl,hFz50_0,hEw122⟩
    have hzw122:=hEw122.size
    have hlea24:=hFz50_0.le
    rw [show zba (tot 5) wT2=wT3 from wE2] at hFz50_0
    refine zc 3 [(135,(vI 0)),(134,(vA [(vI 5),(.slice a24 (tot 5) (tot 5))])),(131,(.tuple #[(vA [(vI 5),(.slice a24 (tot 5) (tot 5))]),(vI 0)]))] (za (zo (some 18) (Instr.alloc 38 true (.tuple #[])) (vP w122.heap.size 0) ([(vI 0),(.slice none 0 0)]) 38 ?_))
    intro w123 hBw123 hEw123
    have hzw123:=hEw123.size;have hlw123:=hBw123.lt
    refine za (zv 38 w122.heap.size 0 38 (vA [(vI 5),(.slice a24 (tot 5) (tot 5))]) ([(vI 0),(.slice none 0 0)]) ([(vI 5),(.slice a24 (tot 5) (tot 5))]) hBw123 (by kernel_rfl) (by first | decide |(simp;done)|(simp;omega)) (by simp [Value.oneCell']) ?_)
    intro w124 hBw124 hCw124
    have hzw124:=hCw124.size
    rw [zm _ _ (by kernel_rfl)] at hBw124
    refine zc 1 [(6,(vI 0))] (zf (zb (ze (zd (za (zj (some 137) (Instr.loadAt 38 (vP w122.heap.size 0)) (vA [(vI 5),(.slice a24 (tot 5) (tot 5))]) (zw (vs:= [(vI 5),(.slice a24 (tot 5) (tot 5))]) (hBw124.all)) ?_))))))
    have hK125:=(((((((((hK122.ext hEw120)).chg hCw121 (fun hs=>by have h:_=_:=hs;omega))).ext hEw122)).ext hEw123)).chg hCw124 (fun hs=>by have h:_=_:=hs;omega))
    have hK126:=(((((((((hK123.ext hEw120)).chg hCw121 (fun hs=>by have h:_=_:=hs;omega))).ext hEw122)).ext hEw123)).chg hCw124 (fun hs=>by have h:_=_:=hs;omega))
    have hK127:=(((((((((hK124.ext hEw120)).chg hCw121 (fun hs=>by have h:_=_:=hs;omega))).ext hEw122)).ext hEw123)).chg hCw124 (fun hs=>by have h:_=_:=hs;omega))
    refine za (zl (some 138) (zd4 5 4 _ (((hFz50_0.ext hEw123)).chg hCw124 (fun k h1 h2 hs=>by have h:k=_:=hs;omega)) (by first | omega | decide) (by first | omega | decide) (by first | omega | decide) (za1 wO3) (zaQ (n:=5) wO3 rfl) (by first | omega | decide) hK125 hK126 hK127) ?_)
    rintro _ w125 ⟨rfl,hEw125⟩
    have hzw125:=hEw125.size
    rw [show zaT (wT3.getD (4/4) Un.zero) (4%4)=1 from wG3]
    refine zc 5 [(8,(vI 0)),(7,(vI 1)),(140,(vI 0)),(139,(vI 1)),(136,(.tuple #[(vI 1),(vI 0)]))] (zf (zb (ze (zd (zc 2 [(142,(vI 0)),(141,(vI 0))] (za (zt (some 143) .i64 (IntKind.i64.wrap (((0:Nat):Int)+((0:Nat):Int))) 0 (zA (by omega) (by omega) (by omega)) ?_)))))))
    refine zc 1 [(144,(vI 0))] (za (zt (some 145) .i64 (IntKind.i64.wrap (((0:Nat):Int)+((0:Nat):Int))) 0 (zA (by omega) (by omega) (by omega)) ?_))
    refine zc 3 [(148,(vI 0)),(147,vT),(146,vT)] (za (zai (some 149) (((0:Nat):Int)==((0:Nat):Int)) true (zas (by omega)) ?_))
    refine zc 3 [(152,(vI 1)),(151,vT),(150,vT)] (za (zai (some 153) (((1:Nat):Int)==((1:Nat):Int)) true (zas (by omega)) ?_))
    refine zc 3 [(156,(vP w122.heap.size 1)),(155,vT),(154,vT)] (za (zj (some 157) (Instr.loadAt 36 (vP w122.heap.size 1)) (.slice a24 (tot 5) (tot 5)) (zk ((hBw124.ext hEw125).cell rfl)) ?_))
    refine zc 1 [(158,(vI (tot 5)))] (za (zai (some 159) ((((tot 5):Nat):Int)==((3:Nat):Int)) true (zas (by omega)) ?_))
    refine zc 3 [(162,(vP w122.heap.size 1)),(161,vT),(160,vT)] (za (zj (some 163) (Instr.loadAt 36 (vP w122.heap.size 1)) (.slice a24 (tot 5) (tot 5)) (zk ((hBw124.ext hEw125).cell rfl)) ?_))
    obtain ⟨b14,o14,rfl⟩:=hFz50_0.addr (by omega) (by decide)
    refine za (zj (some 164) (Instr.indexAt 36 (.slice (pA b14 o14) (tot 5) (tot 5)) (vI 1)) (vP b14 (o14+1*280)) (zP (E:=77) (sz:=280) (by omega)) ?_)
    refine zc 1 [(165,(vP b14 (o14+1*280+274)))] ?_
    have hK128:=(((((hFz50_0.ext hEw123)).chg hCw124 (fun k h1 h2 hs=>by have h:k=_:=hs;omega))).ext hEw125)
    refine za (zj (some 166) (Instr.loadAt 3 (vP b14 (o14+1*280+274))) (.int .i64 ((wT3.getD 1 Un.zero).sl)) (zk (hK128.cell (j:=274) (i:=1) Un.zero (by omega) (zbk _))) ?_)
    refine za (zai (some 167) ((wT3.getD 1 Un.zero).sl==((0:Nat):Int)) true (zas (by omega)) ?_)
    refine zc 3 [(170,(vP w122.heap.size 1)),(169,vT),(168,vT)] (za (zj (some 171) (Instr.loadAt 36 (vP w122.heap.size 1)) (.slice (pA b14 o14) (tot 5) (tot 5)) (zk ((hBw124.ext hEw125).cell rfl)) ?_))
    refine za (zj (some 172) (Instr.indexAt 36 (.slice (pA b14 o14) (tot 5) (tot 5)) (vI 2)) (vP b14 (o14+2*280)) (zP (E:=77) (sz:=280) (by omega)) ?_)
    refine zc 1 [(173,(vP b14 (o14+2*280+274)))] (za (zj (some 174) (Instr.loadAt 3 (vP b14 (o14+2*280+274))) (.int .i64 ((wT3.getD 2 Un.zero).sl)) (zk (hK128.cell (j:=274) (i:=2) Un.zero (by omega) (zbk _))) ?_))
    refine za (zai (some 175) ((wT3.getD 2 Un.zero).sl==((1:Nat):Int)) true (zas (by omega)) ?_)
    refine zc 2 [(0,vT),(176,vT)] (zf (zb (zq (zr vT ?_))))
    have hX41:Ext w w125:=((Ext.own (((((((Ext.own (Ext.own ((((Ext.own (((((((Ext.own ((((Ext.own (((((Ext.own (Ext.own (((hEw1.trans hEw2).trans hEw3).trans hEw4) hCw5 (by omega)) hCw6 (by omega)).trans hEw7).trans hEw8).trans hEw9).trans hEw10) hCw11 (by omega)).trans hEw12).trans hEw13).trans hEw14) hCw15 (by omega)).trans hEw16).trans hEw17).trans hX33).trans hEw99).trans hEw100).trans hEw101) hCw102 (by omega)).trans hEw103).trans hEw104).trans hEw105) hCw106 (by omega)) hCw107 (by omega)).trans hEw108).trans hEw109).trans hEw110).trans hX40).trans hEw122).trans hEw123) hCw124 (by omega)).trans hEw125)
    exact ⟨rfl,hX41⟩
  ·refine zo (some 17) (Instr.alloc 38 true (.tuple #[])) (vP w110.heap.size 0) ([(vI 0),(.slice none 0 0)]) 38 ?_
   intro w126 hBw126 hEw126
   have hzw126:=hEw126.size;have hlw126:=hBw126.lt
   refine ⟨.inr hEw126, ?_⟩
   refine zz 1 263 (zl (some 125) (zck 4 _ (by first | omega | decide | exact UInt8.toNat_lt _)) ?_)
   rintro _ w127 ⟨rfl,hEw127⟩
   have hzw127:=hEw127.size
   have hX42:Ext w110 w127:=(hEw126.trans hEw127)
   refine ⟨.inr hX42, ?_⟩
   have hK129:=(((((((hK108.ext hEw109)).ext hEw110)).ext hEw126)).ext hEw127)
   have hK130:=(((((((((((((((((((((((((hK100.ext hEw100)).ext hEw101)).chg hCw102 (fun hs=>by have h:_=_:=hs;omega))).ext hEw103)).ext hEw104)).ext hEw105)).chg hCw106 (fun hs=>by have h:_=_:=hs;omega))).chg hCw107 (fun hs=>by have h:_=_:=hs;omega))).ext hEw108)).ext hEw109)).ext hEw110)).ext hEw126)).ext hEw127)
   have hK131:=(((((((((((((((((((((((((hK101.ext hEw100)).ext hEw101)).chg hCw102 (fun hs=>by have h:_=_:=hs;omega))).ext hEw103)).ext hEw104)).ext hEw105)).chg hCw106 (fun hs=>by have h:_=_:=hs;omega))).chg hCw107 (fun hs=>by have h:_=_:=hs;omega))).ext hEw108)).ext hEw109)).ext hEw110)).ext hEw126)).ext hEw127)
   have hK132:=(((((((((((((((((((((((((hK102.ext hEw100)).ext hEw101)).chg hCw102 (fun hs=>by have h:_=_:=hs;omega))).ext hEw103)).ext hEw104)).ext hEw105)).chg hCw106 (fun hs=>by have h:_=_:=hs;omega))).chg hCw107 (fun hs=>by have h:_=_:=hs;omega))).ext hEw108)).ext hEw109)).ext hEw110)).ext hEw126)).ext hEw127)
   refine zz 3 271 (zl (some 127) (zdk 5 4 (za5 4) (mkD 4) _ hK129 (by first | omega | decide) (by first | omega | decide) (by first | omega | decide) (za1 wO1) (zaQ (n:=5) wO1 rfl) (by first | omega | decide) hK130 hK131 hK132) ?_)
   rintro _ w128 ⟨a25,rfl,hFz53_0,hEw128⟩
   have hzw128:=hEw128.size
   have hlea25:=hFz53_0.le
   rw [show zdt 5 wT1 4 (za5 4) (mkD 4)=wT2 from wE1] at hFz53_0
   rw [show (zaT (wT1.getD (4/4) Un.zero) (4%4))=0 from wG1]
   have hX43:Ext w110 w128:=((hEw126.trans hEw127).trans hEw128)
   refine ⟨.inr hX43, ?_⟩
   refine zh (hw:=hX43) hT1231 [(4,123,(.tuple #[(vA [(vI 5),(.slice a25 (tot 5) (tot 5))]),(vI 0),(vI 0)])),(5,128,(vA [(vI 5),(.slice a25 (tot 5) (tot 5))])),(6,129,(vI 0)),(7,130,(vI 0))] 4 511 (zz 9 1023 (zv 38 w110.heap.size 0 38 (vA [(vI 5),(.slice a25 (tot 5) (tot 5))]) ([(vI 0),(.slice none 0 0)]) ([(vI 5),(.slice a25 (tot 5) (tot 5))]) (((hBw126.ext hEw127)).ext hEw128) (by kernel_rfl) (by first | decide |(simp;done)|(simp;omega)) (by simp [Value.oneCell']) ?_))
   intro w129 hBw129 hCw129
   have hzw129:=hCw129.size
   rw [zm _ _ (by kernel_rfl)] at hBw129
   have hX44:Ext w110 w129:=(Ext.own ((hEw126.trans hEw127).trans hEw128) hCw129 (by omega))
   refine ⟨.inr hX44, ?_⟩
   refine zh (hw:=hX44) hT1231 [(10,10,(vI 0)),(11,4,(vI 0))] 2 4095 (zJ (zb (ze (zd (za (zj (some 132) (Instr.loadAt 38 (vP w110.heap.size 0)) (vA [(vI 5),(.slice a25 (tot 5) (tot 5))]) (zw (vs:= [(vI 5),(.slice a25 (tot 5) (tot 5))]) (hBw129.all)) ?_))))))
   refine za (zl (some 133) (zd3 5 _ ((hFz53_0).chg hCw129 (fun k h1 h2 hs=>by have h:k=_:=hs;omega)) (by first | omega | decide) (by first | omega | decide) (by first | omega | decide) (za1 wO2) (zaQ (n:=5) wO2 rfl) (((hK130.ext hEw128)).chg hCw129 (fun hs=>by have h:_=_:=hs;omega)) (((hK131.ext hEw128)).chg hCw129 (fun hs=>by have h:_=_:=hs;omega)) (((hK132.ext hEw128)).chg hCw129 (fun hs=>by have h:_=_:=hs;omega))) ?_)
   rintro _ w130 ⟨a26,rfl,hFz54_0,hEw130⟩
   have hzw130:=hEw130.size
   have hlea26:=hFz54_0.le
   rw [show zba (tot 5) wT2=wT3 from wE2] at hFz54_0
   refine zc 3 [(135,(vI 0)),(134,(vA [(vI 5),(.slice a26 (tot 5) (tot 5))])),(131,(.tuple #[(vA [(vI 5),(.slice a26 (tot 5) (tot 5))]),(vI 0)]))] (za (zo (some 18) (Instr.alloc 38 true (.tuple #[])) (vP w130.heap.size 0) ([(vI 0),(.slice none 0 0)]) 38 ?_))
   intro w131 hBw131 hEw131
   have hzw131:=hEw131.size;have hlw131:=hBw131.lt
   refine za (zv 38 w130.heap.size 0 38 (vA [(vI 5),(.slice a26 (tot 5) (tot 5))]) ([(vI 0),(.slice none 0 0)]) ([(vI 5),(.slice a26 (tot 5) (tot 5))]) hBw131 (by kernel_rfl) (by first | decide |(simp;done)|(simp;omega)) (by simp [Value.oneCell']) ?_)
   intro w132 hBw132 hCw132
   have hzw132:=hCw132.size
   rw [zm _ _ (by kernel_rfl)] at hBw132
   refine zc 1 [(6,(vI 0))] (zf (zb (ze (zd (za (zj (some 137) (Instr.loadAt 38 (vP w130.heap.size 0)) (vA [(vI 5),(.slice a26 (tot 5) (tot 5))]) (zw (vs:= [(vI 5),(.slice a26 (tot 5) (tot 5))]) (hBw132.all)) ?_))))))
   have hK133:=(((((((((hK130.ext hEw128)).chg hCw129 (fun hs=>by have h:_=_:=hs;omega))).ext hEw130)).ext hEw131)).chg hCw132 (fun hs=>by have h:_=_:=hs;omega))
   have hK134:=(((((((((hK131.ext hEw128)).chg hCw129 (fun hs=>by have h:_=_:=hs;omega))).ext hEw130)).ext hEw131)).chg hCw132 (fun hs=>by have h:_=_:=hs;omega))
   have hK135:=(((((((((hK132.ext hEw128)).chg hCw129 (fun hs=>by have h:_=_:=hs;omega))).ext hEw130)).ext hEw131)).chg hCw132 (fun hs=>by have h:_=_:=hs;omega))
   refine za (zl (some 138) (zd4 5 4 _ (((hFz54_0.ext hEw131)).chg hCw132 (fun k h1 h2 hs=>by have h:k=_:=hs;omega)) (by first | omega | decide) (by first | omega | decide) (by first | omega | decide) (za1 wO3) (zaQ (n:=5) wO3 rfl) (by first | omega | decide) hK133 hK134 hK135) ?_)
   rintro _ w133 ⟨rfl,hEw133⟩
   have hzw133:=hEw133.size
   rw [show zaT (wT3.getD (4/4) Un.zero) (4%4)=1 from wG3]
   refine zc 5 [(8,(vI 0)),(7,(vI 1)),(140,(vI 0)),(139,(vI 1)),(136,(.tuple #[(vI 1),(vI 0)]))] (zf (zb (ze (zd (zc 2 [(142,(vI 0)),(141,(vI 0))] (za (zt (some 143) .i64 (IntKind.i64.wrap (((0:Nat):Int)+((0:Nat):Int))) 0 (zA (by omega) (by omega) (by omega)) ?_)))))))
   refine zc 1 [(144,(vI 0))] (za (zt (some 145) .i64 (IntKind.i64.wrap (((0:Nat):Int)+((0:Nat):Int))) 0 (zA (by omega) (by omega) (by omega)) ?_))
   refine zc 3 [(148,(vI 0)),(147,vT),(146,vT)] (za (zai (some 149) (((0:Nat):Int)==((0:Nat):Int)) true (zas (by omega)) ?_))
   refine zc 3 [(152,(vI 1)),(151,vT),(150,vT)] (za (zai (some 153) (((1:Nat):Int)==((1:Nat):Int)) true (zas (by omega)) ?_))
   refine zc 3 [(156,(vP w130.heap.size 1)),(155,vT),(154,vT)] (za (zj (some 157) (Instr.loadAt 36 (vP w130.heap.size 1)) (.slice a26 (tot 5) (tot 5)) (zk ((hBw132.ext hEw133).cell rfl)) ?_))
   refine zc 1 [(158,(vI (tot 5)))] (za (zai (some 159) ((((tot 5):Nat):Int)==((3:Nat):Int)) true (zas (by omega)) ?_))
   refine zc 3 [(162,(vP w130.heap.size 1)),(161,vT),(160,vT)] (za (zj (some 163) (Instr.loadAt 36 (vP w130.heap.size 1)) (.slice a26 (tot 5) (tot 5)) (zk ((hBw132.ext hEw133).cell rfl)) ?_))
   obtain ⟨b15,o15,rfl⟩:=hFz54_0.addr (by omega) (by decide)
   refine za (zj (some 164) (Instr.indexAt 36 (.slice (pA b15 o15) (tot 5) (tot 5)) (vI 1)) (vP b15 (o15+1*280)) (zP (E:=77) (sz:=280) (by omega)) ?_)
   refine zc 1 [(165,(vP b15 (o15+1*280+274)))] ?_
   have hK136:=(((((hFz54_0.ext hEw131)).chg hCw132 (fun k h1 h2 hs=>by have h:k=_:=hs;omega))).ext hEw133)
   refine za (zj (some 166) (Instr.loadAt 3 (vP b15 (o15+1*280+274))) (.int .i64 ((wT3.getD 1 Un.zero).sl)) (zk (hK136.cell (j:=274) (i:=1) Un.zero (by omega) (zbk _))) ?_)
   refine za (zai (some 167) ((wT3.getD 1 Un.zero).sl==((0:Nat):Int)) true (zas (by omega)) ?_)
   refine zc 3 [(170,(vP w130.heap.size 1)),(169,vT),(168,vT)] (za (zj (some 171) (Instr.loadAt 36 (vP w130.heap.size 1)) (.slice (pA b15 o15) (tot 5) (tot 5)) (zk ((hBw132.ext hEw133).cell rfl)) ?_))
   refine za (zj (some 172) (Instr.indexAt 36 (.slice (pA b15 o15) (tot 5) (tot 5)) (vI 2)) (vP b15 (o15+2*280)) (zP (E:=77) (sz:=280) (by omega)) ?_)
   refine zc 1 [(173,(vP b15 (o15+2*280+274)))] (za (zj (some 174) (Instr.loadAt 3 (vP b15 (o15+2*280+274))) (.int .i64 ((wT3.getD 2 Un.zero).sl)) (zk (hK136.cell (j:=274) (i:=2) Un.zero (by omega) (zbk _))) ?_))
   refine za (zai (some 175) ((wT3.getD 2 Un.zero).sl==((1:Nat):Int)) true (zas (by omega)) ?_)
   refine zc 2 [(0,vT),(176,vT)] (zf (zb (zq (zr vT ?_))))
   have hX45:Ext w w133:=((Ext.own (((((((Ext.own (Ext.own ((((Ext.own (((((((Ext.own ((((Ext.own (((((Ext.own (Ext.own (((hEw1.trans hEw2).trans hEw3).trans hEw4) hCw5 (by omega)) hCw6 (by omega)).trans hEw7).trans hEw8).trans hEw9).trans hEw10) hCw11 (by omega)).trans hEw12).trans hEw13).trans hEw14) hCw15 (by omega)).trans hEw16).trans hEw17).trans hX33).trans hEw99).trans hEw100).trans hEw101) hCw102 (by omega)).trans hEw103).trans hEw104).trans hEw105) hCw106 (by omega)) hCw107 (by omega)).trans hEw108).trans hEw109).trans hEw110).trans hX44).trans hEw130).trans hEw131) hCw132 (by omega)).trans hEw133)
   exact ⟨rfl,hX45⟩
end Go.Proofs.YtkmhgepdhilllaaGreatDoor
namespace Go.Proofs.YtkmhgepdhilllaaGreatDoor
open Go Go.RowKit Go.Cs
set_option maxRecDepth 100000
set_option maxHeartbeats 4000000 in
theorem zz5 (w:World) (hg0:Gl 0 [vI 45,vI 33] w) (hg1:Gl 1 (w8C za6) w) (hg2:Gl 3 (zar kA) w) (hg3:Gl 2 [.iface 227 (.agg #[.pointer (some ⟨4,160,none⟩)])] w):
  Calls Tryz.prog 7 #[] w (Ret fun r w'=>r=vT∧Ext w w'):=by
 refine zI (n:=128) (σ:= []) Tryz.func7 rfl ?_
 have hgl0:=hg0.lt
 have hgl1:=hg1.lt
 have hgl2:=hg2.lt
 have hgl3:=hg3.lt
 have ht65:tot 65=25:=by decide
 have hkd17:List.length kD=17:=rfl
 refine ze (zd (zc 1 [(0,vF)] (zf (zb (ze (zd (zc 1 [(1,(vI 65))] (zf (zb ?_)))))))))
 refine ze (zd (zc 1 [(12,(vI 65))] (za (zl (some 13) (zpN 65 _ (by first | omega | decide) (by first | omega | decide)) ?_))))
 rintro _ _ ⟨rfl,rfl⟩
 rw [show tot 65=25 from by kernel_rfl]
 refine za (zch (some 14) 29 3 1 8 25 25 .i64 .i64 (vI 0) (by omega) (by omega) (by omega) ?_)
 rw [zdA _ rfl]
 intro w1 hBw1 hEw1
 have hzw1:=hEw1.size;have hlw1:=hBw1.lt
 have hSw1:Es (nv .i64) w.heap.size (w.heap.size+1) w1 (pA w.heap.size 0) 25 25 (List.replicate 25 0):=Es.of_blk hBw1 (by rw [List.map_replicate];first | done | rfl) (by simp) (Nat.le_refl _) (by simp only [maxLen];omega) (Nat.le_refl _) (Nat.lt_succ_self _)
 refine zc 1 [(2,(.slice (pA w.heap.size 0) 25 25))] (zf (zb (ze (zd (zc 2 [(17,(vI 65)),(16,(vI 65))] (za (zch (some 18) 28 68 35 56 65 65 .i64 .i64 (vA (zM Rec.zero)) (by omega) (by omega) (by omega) ?_)))))))
 rw [zdJ (f:=zM) (x:=Rec.zero) rfl (zab _) (by decide)]
 intro w2 hBw2 hEw2
 have hzw2:=hEw2.size;have hlw2:=hBw2.lt
 have hmw2:Ms zM 35 w1.heap.size (w1.heap.size+1) w2 (pA w1.heap.size 0) 65 65 (List.replicate 65 Rec.zero):=Ms.of_pre (r:= []) (by rw [List.append_nil];exact hBw2) zab (by simp) (Nat.le_refl _) (by simp only [maxLen];omega) (Nat.le_refl _) (Nat.lt_succ_self _)
 refine zc 1 [(19,(.slice (pA w.heap.size 0) 25 25))] (za (zl (some 20) (zqQ 65 _ hmw2 (hSw1.ext hEw2) (kM0) (by first | omega | decide) (((hg0.ext hEw1)).ext hEw2) (((hg1.ext hEw1)).ext hEw2) (((hg2.ext hEw1)).ext hEw2)) ?_))
 rintro _ w3 ⟨a1,rfl,hFz2_0,hEw3⟩
 have hzw3:=hEw3.size
 have hma1:=hFz2_0.ms;have hlea1:=hma1.le
 refine zc 3 [(22,(vI 0)),(21,(vA [(vI 65),(.slice a1 (tot 65) (tot 65))])),(15,(.tuple #[(vA [(vI 65),(.slice a1 (tot 65) (tot 65))]),(vI 0)]))] (za (zo (some 3) (Instr.alloc 44 true (.tuple #[])) (vP w3.heap.size 0) ([(vI 0),(.slice none 0 0)]) 44 ?_))
 intro w4 hBw4 hEw4
 have hzw4:=hEw4.size;have hlw4:=hBw4.lt
 refine za (zv 44 w3.heap.size 0 44 (vA [(vI 65),(.slice a1 (tot 65) (tot 65))]) ([(vI 0),(.slice none 0 0)]) ([(vI 65),(.slice a1 (tot 65) (tot 65))]) hBw4 (by kernel_rfl) (by first | decide |(simp;done)|(simp;omega)) (by simp [Value.oneCell']) ?_)
 intro w5 hBw5 hCw5
 have hzw5:=hCw5.size
 rw [zm _ _ (by kernel_rfl)] at hBw5
 refine zc 1 [(4,(vI 0))] (zf (zb (ze (zd (za (zj (some 24) (Instr.loadAt 44 (vP w3.heap.size 0)) (vA [(vI 65),(.slice a1 (tot 65) (tot 65))]) (zw (vs:= [(vI 65),(.slice a1 (tot 65) (tot 65))]) (hBw5.all)) ?_))))))
 refine zc 1 [(25,(.slice (pA w.heap.size 0) 25 25))] ?_
 have hK1:=(((((((hSw1.ext hEw2)).ext hEw3)).ext hEw4)).chg hCw5 (fun k h1 h2 hs=>by have h:k=_:=hs;omega))
 have hI1:=(hK1).ints
 have hK2:=(((((((((hg0.ext hEw1)).ext hEw2)).ext hEw3)).ext hEw4)).chg hCw5 (fun hs=>by have h:_=_:=hs;omega))
 have hK3:=(((((((((hg1.ext hEw1)).ext hEw2)).ext hEw3)).ext hEw4)).chg hCw5 (fun hs=>by have h:_=_:=hs;omega))
 have hK4:=(((((((((hg2.ext hEw1)).ext hEw2)).ext hEw3)).ext hEw4)).chg hCw5 (fun hs=>by have h:_=_:=hs;omega))
 have hK5:=(((((((((hg3.ext hEw1)).ext hEw2)).ext hEw3)).ext hEw4)).chg hCw5 (fun hs=>by have h:_=_:=hs;omega))
 refine za (zl (some 26) (ztP 65 _ (((hma1.ext hEw4)).chg hCw5 (fun k h1 h2 hs=>by have h:k=_:=hs;omega)) hI1 (by first | omega | decide) (by first | omega | decide) (by first | omega | decide) (zfc kM0) (by first | omega | decide) (zq4.1 (by decide)) ((congrArg (zeX ((65:Nat):Int)) kOf).trans (zsi (n:=65) kO0 rfl)) hK2 hK3 hK4 hK5) ?_)
 rintro _ w6 ⟨a2,rfl,hFz3_0,hEw6⟩
 have hzw6:=hEw6.size
 have hlea2:=hFz3_0.le
 rw [show (ofT (tot 65) (zaj (List.replicate 65 Rec.zero) (List.replicate 25 0)) ((List.replicate 25 0).map fun (x:Nat)=>(x:Int)))=(zao kL0 (kC 0) kS0) from kOf.trans (by rw [zx1])] at hFz3_0
 refine zc 3 [(28,(vI 0)),(27,(vA [(vI 65),(.slice a2 (tot 65) (tot 65))])),(23,(.tuple #[(vA [(vI 65),(.slice a2 (tot 65) (tot 65))]),(vI 0)]))] (za (zo (some 5) (Instr.alloc 38 true (.tuple #[])) (vP w6.heap.size 0) ([(vI 0),(.slice none 0 0)]) 38 ?_))
 intro w7 hBw7 hEw7
 have hzw7:=hEw7.size;have hlw7:=hBw7.lt
 refine za (zv 38 w6.heap.size 0 38 (vA [(vI 65),(.slice a2 (tot 65) (tot 65))]) ([(vI 0),(.slice none 0 0)]) ([(vI 65),(.slice a2 (tot 65) (tot 65))]) hBw7 (by kernel_rfl) (by first | decide |(simp;done)|(simp;omega)) (by simp [Value.oneCell']) ?_)
 intro w8 hBw8 hCw8
 have hzw8:=hCw8.size
 rw [zm _ _ (by kernel_rfl)] at hBw8
 refine zc 1 [(6,(vI 0))] (zf (zb (ze (ze (zd (zc 2 [(30,(vI 0)),(29,(vI 0))] (za (zt (some 31) .i64 (IntKind.i64.wrap (((0:Nat):Int)+((0:Nat):Int))) 0 (zA (by omega) (by omega) (by omega)) ?_))))))))
 refine za (zai (some 32) (((0:Nat):Int) !=((0:Nat):Int)) false (zaA (by omega)) ?_)
 refine zf (zb (zn (zu (zb (ze (ze (zd (zc 1 [(7,(vI 0))] (zf ?_)))))))))
 refine zb (zy (zY (X:=Nat×List Rec×List Nat×Option Addr) (fun ⟨r,La,sa,au⟩=> [(7,(vI r))]) [0,4,8,9,10,11,33,34,35,36,37,38,39,40,41,42,43,44,45,46,47,48,49,50,51,52,53,54,55,56,57,58,59,60,61,62,63,64,65,66,67,68,69,70,71,72,73,74,75,76,77,78,79,80,81,82,83,84,85,86,87,88,89,90,91,92,93,94,95,96,97,98,99,100,101,102,103,104,105,106,107,108,109,110,111,112,113,114,115,116,117,118,119,120,121,122,123,124,125,126] (fun ⟨r,La,sa,au⟩ w9=>r≤3∧KI r 0 La sa∧(∃lo hi,Ms unC 280 lo hi w9 au (tot 65) (tot 65) (zao La (kC 0) sa)∧w.heap.size≤lo∧¬(lo≤w6.heap.size∧w6.heap.size<hi))∧Blk w9 w6.heap.size ([(vI 65),(.slice au (tot 65) (tot 65))]) 38∧Chg (fun k=>k=w6.heap.size) w8 w9) (fun ⟨r,La,sa,au⟩=>3-r) (0,kL0,kS0,a2) (by kernel_rfl) ⟨by decide,kI0,⟨w5.heap.size,w6.heap.size,(((hFz3_0.ext hEw7)).chg hCw8 (fun k h1 h2 hs=>by have h:k=_:=hs;omega)),by omega,by omega⟩,hBw8,Chg.refl _ _⟩ ?_))
 rintro ⟨r,La,sa,au⟩ dw9 w9 ⟨hr,hQ1,⟨lo1,hi1,hM1,hn1,hnx1⟩,hBT1,hEl1⟩
 have hzl1:=hEl1.size;have hlb1:=hBT1.lt;have hleM1:=hM1.le
 refine ze (ze (zd (zc 1 [(33,(vI r))] (za (zK (some 34) (decide (((r:Nat):Int)<((3:Nat):Int))) (fun hc34=> ?_) (fun hc34=> ?_))))))
 ·replace hc34:r<3:=by have:=zaf hc34;omega
  refine zf (zb (zC (zu (zb (ze (zy (ze (ze (zd ?_)))))))))
  refine zc 1 [(8,(vI 0))] (zf (zb (zy (zY (X:=Nat×List Rec×Option Addr) (fun ⟨m,Lb,av⟩=> [(8,(vI (8*m)))]) [0,4,9,37,38,39,40,41,42,43,44,45,46,47,48,49,50,51,52,53,54,55,56,57,58,59,60,61,62,63,64] (fun ⟨m,Lb,av⟩ w10=>m≤9∧KI r m Lb sa∧(∃lo hi,Ms unC 280 lo hi w10 av (tot 65) (tot 65) (zao Lb (kC m) sa)∧w.heap.size≤lo∧¬(lo≤w6.heap.size∧w6.heap.size<hi))∧Blk w10 w6.heap.size ([(vI 65),(.slice av (tot 65) (tot 65))]) 38∧Chg (fun k=>k=w6.heap.size) w9 w10) (fun ⟨m,Lb,av⟩=>9-m) (0,La,au) (by kernel_rfl) ⟨by decide,hQ1,⟨lo1,hi1,hM1,by omega,by omega⟩,hBT1,Chg.refl _ _⟩ ?_))))
  rintro ⟨m,Lb,av⟩ dw10 w10 ⟨hm,hQ2,⟨lo2,hi2,hM2,hn2,hnx2⟩,hBT2,hEl2⟩
  have hzl2:=hEl2.size;have hlb2:=hBT2.lt;have hleM2:=hM2.le
  refine ze (ze (zd (zc 2 [(38,(vI 65)),(37,(vI (8*m)))] (za (zK (some 39) (decide (((8*m:Nat):Int)<((65:Nat):Int))) (fun hc39=> ?_) (fun hc39=> ?_))))))
  ·replace hc39:8*m<65:=by have:=zaf hc39;omega
   have hm9:m<9:=by omega
   have htg:=hQ2.tgt hm9
   refine zf (zb (zC (zu (zb (ze (zy (ze (zd (zc 1 [(9,(vI 0))] ?_)))))))))
   refine zf (zb (ze (zT (Chg (fun k=>k=w6.heap.size) w10.drew) 18 [(44,32,0),(45,256,0),(46,256,0),(47,35184372088832,4),(48,70368744177664,8),(49,256,0),(50,128,0),(51,844424930131968,96),(52,1125899906842624,128),(53,2251799813685248,272),(54,4670725394792448,531),(43,9007199254740992,1024),(55,4398046511104,2048),(56,4398046511104,2048),(57,4398046511104,2048),(0,18014398509482016,8191),(10,36028797018963968,49151),(5,72057594037927936,131071)] (fun hT149=> ?_))))
   have hEw11:Ext w10 w10.drew:=Ext.drew w10
   generalize w10.drew=w11 at hEw11⊢
   have hzw11:=hEw11.size
   have hX1:Chg (fun k=>k=w6.heap.size) w11 w11:=(Chg.refl (fun k=>k=w6.heap.size) w11)
   refine zh (hw:=hX1) hT149 [(1,44,(vI (8*m))),(2,45,(vI (8*m)))] 2 6 (zg (hw:=hX1) hT149 3 14 (some 46) (vB ((8*m)%2^8)) (zaa .u8 (IntKind.u8.wrap ((8*m:Nat):Int)) (zb2 rfl rfl)) (zh (hw:=hX1) hT149 [(5,48,(vI (8*m))),(6,49,(vI r))] 2 110 (zg (hw:=hX1) hT149 7 238 (some 50) (vI (8*m+r)) (zaa .i64 (IntKind.i64.wrap (((8*m:Nat):Int)+((r:Nat):Int))) (zA (by omega) (by omega) (by omega))) (zg (hw:=hX1) hT149 8 494 (some 51) (vB ((8*m+r)%2^8)) (zaa .u8 (IntKind.u8.wrap ((8*m+r:Nat):Int)) (zb2 rfl rfl)) (za9 0 4 495 510 ?_ ?_)))))
   ·refine zj (some 43) (Instr.loadAt 38 (vP w6.heap.size 0)) (vA [(vI 65),(.slice av (tot 65) (tot 65))]) (zw (vs:= [(vI 65),(.slice av (tot 65) (tot 65))]) ((hBT2.ext hEw11).all)) (⟨.inr hX1, ?_⟩)
    refine zz 4 511 (zl (some 47) (zck ((8*m)%2^8) _ (by first | omega | decide | exact UInt8.toNat_lt _)) ?_)
    rintro _ w12 ⟨rfl,hEw12⟩
    have hzw12:=hEw12.size
    have hX2:Chg (fun k=>k=w6.heap.size) w11 w12:=((Chg.refl (fun k=>k=w6.heap.size) w11).trans hEw12.chg)
    refine ⟨.inr hX2, ?_⟩
    refine zz 9 1023 (zl (some 52) (zjB ((8*m+r)%2^8) _ (by omega)) ?_)
    rintro _ w13 ⟨rfl,hEw13⟩
    have hzw13:=hEw13.size
    have hX3:Chg (fun k=>k=w6.heap.size) w11 w13:=(((Chg.refl (fun k=>k=w6.heap.size) w11).trans hEw12.chg).trans hEw13.chg)
    refine ⟨.inr hX3, ?_⟩
    have hK6:=(((((hM2.ext hEw11)).ext hEw12)).ext hEw13)
    have hK7:=(((((((((((((((hK2.ext hEw6)).ext hEw7)).chg hCw8 (fun hs=>by have h:_=_:=hs;omega))).chg hEl1 (fun hs=>by have h:_=_:=hs;omega))).chg hEl2 (fun hs=>by have h:_=_:=hs;omega))).ext hEw11)).ext hEw12)).ext hEw13)
    have hK8:=(((((((((((((((hK3.ext hEw6)).ext hEw7)).chg hCw8 (fun hs=>by have h:_=_:=hs;omega))).chg hEl1 (fun hs=>by have h:_=_:=hs;omega))).chg hEl2 (fun hs=>by have h:_=_:=hs;omega))).ext hEw11)).ext hEw12)).ext hEw13)
    have hK9:=(((((((((((((((hK4.ext hEw6)).ext hEw7)).chg hCw8 (fun hs=>by have h:_=_:=hs;omega))).chg hEl1 (fun hs=>by have h:_=_:=hs;omega))).chg hEl2 (fun hs=>by have h:_=_:=hs;omega))).ext hEw11)).ext hEw12)).ext hEw13)
    refine zz 10 2047 (zl (some 53) (zdk 65 (8*m) (za5 ((8*m)%2^8)) (mkD ((8*m+r)%2^8)) _ hK6 (by omega) (by omega) (by omega) (za1 hQ2.ok) (zaQ hQ2.ok hQ2.len) (by omega) hK7 hK8 hK9) ?_)
    rintro _ w14 ⟨a3,rfl,hFz6_0,hEw14⟩
    have hzw14:=hEw14.size
    have hlea3:=hFz6_0.le
    rw [show zdt 65 (zao Lb (kC m) sa) (8*m) (za5 ((8*m)%2^8)) (mkD ((8*m+r)%2^8))=(zao (Lb.set (8*m) (zaH Lb (kC m) (8*m) (za5 ((8*m)%2^8)) (mkD ((8*m+r)%2^8)))) (kC (m+1)) sa) from hQ2.tree hm9] at hFz6_0
    rw [show zaT ((zao Lb (kC m) sa).getD ((8*m)/4) Un.zero) ((8*m)%4)=(r%2) from htg]
    have hX4:Chg (fun k=>k=w6.heap.size) w11 w14:=((((Chg.refl (fun k=>k=w6.heap.size) w11).trans hEw12.chg).trans hEw13.chg).trans hEw14.chg)
    refine ⟨.inr hX4, ?_⟩
    refine zh (hw:=hX4) hT149 [(11,42,(.tuple #[(vA [(vI 65),(.slice a3 (tot 65) (tot 65))]),(vI ((r%2))),(vI 0)])),(12,54,(vA [(vI 65),(.slice a3 (tot 65) (tot 65))])),(13,55,(vI ((r%2)))),(14,56,(vI 0))] 4 32767 ?_
    have hK10:=(((((((hBT2.ext hEw11)).ext hEw12)).ext hEw13)).ext hEw14)
    refine zz 15 65535 (zv 38 w6.heap.size 0 38 (vA [(vI 65),(.slice a3 (tot 65) (tot 65))]) ([(vI 65),(.slice av (tot 65) (tot 65))]) ([(vI 65),(.slice a3 (tot 65) (tot 65))]) hK10 (by kernel_rfl) (by first | decide |(simp;done)|(simp;omega)) (by simp [Value.oneCell']) ?_)
    have hK11:=(((((((hBT2.ext hEw11)).ext hEw12)).ext hEw13)).ext hEw14)
    intro w15 hBw15 hCw15
    have hzw15:=hCw15.size
    rw [zm _ _ (by kernel_rfl)] at hBw15
    have hX5:Chg (fun k=>k=w6.heap.size) w11 w15:=(Chg.then ((((Chg.refl (fun k=>k=w6.heap.size) w11).trans hEw12.chg).trans hEw13.chg).trans hEw14.chg) hCw15 (fun k hk hs=>by have h:k=_:=hs;first | exact hs | exact .inl h | exact .inr h |(exfalso;omega)))
    refine ⟨.inr hX5, ?_⟩
    refine zh (hw:=hX5) hT149 [(16,9,(vI ((r%2)))),(17,4,(vI 0))] 2 262143 (zJ (zb (ze (zd (zc 1 [(57,(vI 0))] (za (zai (some 58) (((0:Nat):Int) !=((0:Nat):Int)) false (zaA (by omega)) ?_)))))))
    refine zc 3 [(61,(vI r)),(60,(vI ((r%2)))),(59,vF)] (za (zt (some 62) .i64 (((r:Nat):Int).tmod ((2:Nat):Int)) (r%2) (zcF _ _) ?_))
    refine za (zai (some 63) (((((r%2)):Nat):Int) !=((r%2:Nat):Int)) false (zaA (by omega)) ?_)
    refine zc 1 [(64,vF)] (zf (zb (zn (zu (zp (zb (zd (zc 1 [(40,(vI (8*m)))] (za (zt (some 41) .i64 (IntKind.i64.wrap (((8*m:Nat):Int)+((8:Nat):Int))) (8*(m+1)) (zA (by omega) (by omega) (by omega)) ?_))))))))))
    refine zc 1 [(8,(vI (8*(m+1))))] (zf (zF (zR (m+1,(Lb.set (8*m) (zaH Lb (kC m) (8*m) (za5 ((8*m)%2^8)) (mkD ((8*m+r)%2^8)))),a3) ?_ ?_)))
    ·exact ⟨by omega,hQ2.step hm9,⟨w13.heap.size,w14.heap.size,((hFz6_0).chg hCw15 (fun k h1 h2 hs=>by have h:k=_:=hs;omega)),by omega,by omega⟩,hBw15,(Chg.then (((((Chg.then (Chg.refl (fun k=>k=w6.heap.size) w9) hEl2 (fun k hk hs=>by have h:k=_:=hs;first | exact hs | exact .inl h | exact .inr h |(exfalso;omega))).trans hEw11.chg).trans hEw12.chg).trans hEw13.chg).trans hEw14.chg) hCw15 (fun k hk hs=>by have h:k=_:=hs;first | exact hs | exact .inl h | exact .inr h |(exfalso;omega)))⟩
    ·first | omega |(dsimp only;omega)
   ·refine zl (some 47) (zck ((8*m)%2^8) _ (by first | omega | decide | exact UInt8.toNat_lt _)) ?_
    rintro _ w16 ⟨rfl,hEw16⟩
    have hzw16:=hEw16.size
    have hX6:Chg (fun k=>k=w6.heap.size) w11 w16:=((Chg.refl (fun k=>k=w6.heap.size) w11).trans hEw16.chg)
    refine ⟨.inr hX6, ?_⟩
    refine za9 0 9 511 1022 ?_ ?_
    ·refine zj (some 43) (Instr.loadAt 38 (vP w6.heap.size 0)) (vA [(vI 65),(.slice av (tot 65) (tot 65))]) (zw (vs:= [(vI 65),(.slice av (tot 65) (tot 65))]) ((((hBT2.ext hEw11)).ext hEw16).all)) (⟨.inr hX6, ?_⟩)
     refine zz 9 1023 (zl (some 52) (zjB ((8*m+r)%2^8) _ (by omega)) ?_)
     rintro _ w17 ⟨rfl,hEw17⟩
     have hzw17:=hEw17.size
     have hX7:Chg (fun k=>k=w6.heap.size) w11 w17:=(((Chg.refl (fun k=>k=w6.heap.size) w11).trans hEw16.chg).trans hEw17.chg)
     refine ⟨.inr hX7, ?_⟩
     have hK12:=(((((hM2.ext hEw11)).ext hEw16)).ext hEw17)
     have hK13:=(((((((((((((((hK2.ext hEw6)).ext hEw7)).chg hCw8 (fun hs=>by have h:_=_:=hs;omega))).chg hEl1 (fun hs=>by have h:_=_:=hs;omega))).chg hEl2 (fun hs=>by have h:_=_:=hs;omega))).ext hEw11)).ext hEw16)).ext hEw17)
     have hK14:=(((((((((((((((hK3.ext hEw6)).ext hEw7)).chg hCw8 (fun hs=>by have h:_=_:=hs;omega))).chg hEl1 (fun hs=>by have h:_=_:=hs;omega))).chg hEl2 (fun hs=>by have h:_=_:=hs;omega))).ext hEw11)).ext hEw16)).ext hEw17)
     have hK15:=(((((((((((((((hK4.ext hEw6)).ext hEw7)).chg hCw8 (fun hs=>by have h:_=_:=hs;omega))).chg hEl1 (fun hs=>by have h:_=_:=hs;omega))).chg hEl2 (fun hs=>by have h:_=_:=hs;omega))).ext hEw11)).ext hEw16)).ext hEw17)
     refine zz 10 2047 (zl (some 53) (zdk 65 (8*m) (za5 ((8*m)%2^8)) (mkD ((8*m+r)%2^8)) _ hK12 (by omega) (by omega) (by omega) (za1 hQ2.ok) (zaQ hQ2.ok hQ2.len) (by omega) hK13 hK14 hK15) ?_)
     rintro _ w18 ⟨a4,rfl,hFz9_0,hEw18⟩
     have hzw18:=hEw18.size
     have hlea4:=hFz9_0.le
     rw [show zdt 65 (zao Lb (kC m) sa) (8*m) (za5 ((8*m)%2^8)) (mkD ((8*m+r)%2^8))=(zao (Lb.set (8*m) (zaH Lb (kC m) (8*m) (za5 ((8*m)%2^8)) (mkD ((8*m+r)%2^8)))) (kC (m+1)) sa) from hQ2.tree hm9] at hFz9_0
     rw [show zaT ((zao Lb (kC m) sa).getD ((8*m)/4) Un.zero) ((8*m)%4)=(r%2) from htg]
     have hX8:Chg (fun k=>k=w6.heap.size) w11 w18:=((((Chg.refl (fun k=>k=w6.heap.size) w11).trans hEw16.chg).trans hEw17.chg).trans hEw18.chg)
     refine ⟨.inr hX8, ?_⟩
     refine zh (hw:=hX8) hT149 [(11,42,(.tuple #[(vA [(vI 65),(.slice a4 (tot 65) (tot 65))]),(vI ((r%2))),(vI 0)])),(12,54,(vA [(vI 65),(.slice a4 (tot 65) (tot 65))])),(13,55,(vI ((r%2)))),(14,56,(vI 0))] 4 32767 ?_
     have hK16:=(((((((hBT2.ext hEw11)).ext hEw16)).ext hEw17)).ext hEw18)
     refine zz 15 65535 (zv 38 w6.heap.size 0 38 (vA [(vI 65),(.slice a4 (tot 65) (tot 65))]) ([(vI 65),(.slice av (tot 65) (tot 65))]) ([(vI 65),(.slice a4 (tot 65) (tot 65))]) hK16 (by kernel_rfl) (by first | decide |(simp;done)|(simp;omega)) (by simp [Value.oneCell']) ?_)
     have hK17:=(((((((hBT2.ext hEw11)).ext hEw16)).ext hEw17)).ext hEw18)
     intro w19 hBw19 hCw19
     have hzw19:=hCw19.size
     rw [zm _ _ (by kernel_rfl)] at hBw19
     have hX9:Chg (fun k=>k=w6.heap.size) w11 w19:=(Chg.then ((((Chg.refl (fun k=>k=w6.heap.size) w11).trans hEw16.chg).trans hEw17.chg).trans hEw18.chg) hCw19 (fun k hk hs=>by have h:k=_:=hs;first | exact hs | exact .inl h | exact .inr h |(exfalso;omega)))
     refine ⟨.inr hX9, ?_⟩
     refine zh (hw:=hX9) hT149 [(16,9,(vI ((r%2)))),(17,4,(vI 0))] 2 262143 (zJ (zb (ze (zd (zc 1 [(57,(vI 0))] (za (zai (some 58) (((0:Nat):Int) !=((0:Nat):Int)) false (zaA (by omega)) ?_)))))))
     refine zc 3 [(61,(vI r)),(60,(vI ((r%2)))),(59,vF)] (za (zt (some 62) .i64 (((r:Nat):Int).tmod ((2:Nat):Int)) (r%2) (zcF _ _) ?_))
     refine za (zai (some 63) (((((r%2)):Nat):Int) !=((r%2:Nat):Int)) false (zaA (by omega)) ?_)
     refine zc 1 [(64,vF)] (zf (zb (zn (zu (zp (zb (zd (zc 1 [(40,(vI (8*m)))] (za (zt (some 41) .i64 (IntKind.i64.wrap (((8*m:Nat):Int)+((8:Nat):Int))) (8*(m+1)) (zA (by omega) (by omega) (by omega)) ?_))))))))))
     refine zc 1 [(8,(vI (8*(m+1))))] (zf (zF (zR (m+1,(Lb.set (8*m) (zaH Lb (kC m) (8*m) (za5 ((8*m)%2^8)) (mkD ((8*m+r)%2^8)))),a4) ?_ ?_)))
     ·exact ⟨by omega,hQ2.step hm9,⟨w17.heap.size,w18.heap.size,((hFz9_0).chg hCw19 (fun k h1 h2 hs=>by have h:k=_:=hs;omega)),by omega,by omega⟩,hBw19,(Chg.then (((((Chg.then (Chg.refl (fun k=>k=w6.heap.size) w9) hEl2 (fun k hk hs=>by have h:k=_:=hs;first | exact hs | exact .inl h | exact .inr h |(exfalso;omega))).trans hEw11.chg).trans hEw16.chg).trans hEw17.chg).trans hEw18.chg) hCw19 (fun k hk hs=>by have h:k=_:=hs;first | exact hs | exact .inl h | exact .inr h |(exfalso;omega)))⟩
     ·first | omega |(dsimp only;omega)
    ·refine zl (some 52) (zjB ((8*m+r)%2^8) _ (by omega)) ?_
     rintro _ w20 ⟨rfl,hEw20⟩
     have hzw20:=hEw20.size
     have hX10:Chg (fun k=>k=w6.heap.size) w11 w20:=(((Chg.refl (fun k=>k=w6.heap.size) w11).trans hEw16.chg).trans hEw20.chg)
     refine ⟨.inr hX10, ?_⟩
     have hK18:=(((((hBT2.ext hEw11)).ext hEw16)).ext hEw20)
     refine zz 0 1023 (zj (some 43) (Instr.loadAt 38 (vP w6.heap.size 0)) (vA [(vI 65),(.slice av (tot 65) (tot 65))]) (zw (vs:= [(vI 65),(.slice av (tot 65) (tot 65))]) (hK18.all)) ?_)
     refine ⟨.inr hX10, ?_⟩
     have hK19:=(((((hM2.ext hEw11)).ext hEw16)).ext hEw20)
     have hK20:=(((((((((((((((hK2.ext hEw6)).ext hEw7)).chg hCw8 (fun hs=>by have h:_=_:=hs;omega))).chg hEl1 (fun hs=>by have h:_=_:=hs;omega))).chg hEl2 (fun hs=>by have h:_=_:=hs;omega))).ext hEw11)).ext hEw16)).ext hEw20)
     have hK21:=(((((((((((((((hK3.ext hEw6)).ext hEw7)).chg hCw8 (fun hs=>by have h:_=_:=hs;omega))).chg hEl1 (fun hs=>by have h:_=_:=hs;omega))).chg hEl2 (fun hs=>by have h:_=_:=hs;omega))).ext hEw11)).ext hEw16)).ext hEw20)
     have hK22:=(((((((((((((((hK4.ext hEw6)).ext hEw7)).chg hCw8 (fun hs=>by have h:_=_:=hs;omega))).chg hEl1 (fun hs=>by have h:_=_:=hs;omega))).chg hEl2 (fun hs=>by have h:_=_:=hs;omega))).ext hEw11)).ext hEw16)).ext hEw20)
     refine zz 10 2047 (zl (some 53) (zdk 65 (8*m) (za5 ((8*m)%2^8)) (mkD ((8*m+r)%2^8)) _ hK19 (by omega) (by omega) (by omega) (za1 hQ2.ok) (zaQ hQ2.ok hQ2.len) (by omega) hK20 hK21 hK22) ?_)
     rintro _ w21 ⟨a5,rfl,hFz11_0,hEw21⟩
     have hzw21:=hEw21.size
     have hlea5:=hFz11_0.le
     rw [show zdt 65 (zao Lb (kC m) sa) (8*m) (za5 ((8*m)%2^8)) (mkD ((8*m+r)%2^8))=(zao (Lb.set (8*m) (zaH Lb (kC m) (8*m) (za5 ((8*m)%2^8)) (mkD ((8*m+r)%2^8)))) (kC (m+1)) sa) from hQ2.tree hm9] at hFz11_0
     rw [show zaT ((zao Lb (kC m) sa).getD ((8*m)/4) Un.zero) ((8*m)%4)=(r%2) from htg]
     have hX11:Chg (fun k=>k=w6.heap.size) w11 w21:=((((Chg.refl (fun k=>k=w6.heap.size) w11).trans hEw16.chg).trans hEw20.chg).trans hEw21.chg)
     refine ⟨.inr hX11, ?_⟩
     refine zh (hw:=hX11) hT149 [(11,42,(.tuple #[(vA [(vI 65),(.slice a5 (tot 65) (tot 65))]),(vI ((r%2))),(vI 0)])),(12,54,(vA [(vI 65),(.slice a5 (tot 65) (tot 65))])),(13,55,(vI ((r%2)))),(14,56,(vI 0))] 4 32767 (zz 15 65535 (zv 38 w6.heap.size 0 38 (vA [(vI 65),(.slice a5 (tot 65) (tot 65))]) ([(vI 65),(.slice av (tot 65) (tot 65))]) ([(vI 65),(.slice a5 (tot 65) (tot 65))]) (hK18.ext hEw21) (by kernel_rfl) (by first | decide |(simp;done)|(simp;omega)) (by simp [Value.oneCell']) ?_))
     intro w22 hBw22 hCw22
     have hzw22:=hCw22.size
     rw [zm _ _ (by kernel_rfl)] at hBw22
     have hX12:Chg (fun k=>k=w6.heap.size) w11 w22:=(Chg.then ((((Chg.refl (fun k=>k=w6.heap.size) w11).trans hEw16.chg).trans hEw20.chg).trans hEw21.chg) hCw22 (fun k hk hs=>by have h:k=_:=hs;first | exact hs | exact .inl h | exact .inr h |(exfalso;omega)))
     refine ⟨.inr hX12, ?_⟩
     refine zh (hw:=hX12) hT149 [(16,9,(vI ((r%2)))),(17,4,(vI 0))] 2 262143 (zJ (zb (ze (zd (zc 1 [(57,(vI 0))] (za (zai (some 58) (((0:Nat):Int) !=((0:Nat):Int)) false (zaA (by omega)) ?_)))))))
     refine zc 3 [(61,(vI r)),(60,(vI ((r%2)))),(59,vF)] (za (zt (some 62) .i64 (((r:Nat):Int).tmod ((2:Nat):Int)) (r%2) (zcF _ _) ?_))
     refine za (zai (some 63) (((((r%2)):Nat):Int) !=((r%2:Nat):Int)) false (zaA (by omega)) ?_)
     refine zc 1 [(64,vF)] (zf (zb (zn (zu (zp (zb (zd (zc 1 [(40,(vI (8*m)))] (za (zt (some 41) .i64 (IntKind.i64.wrap (((8*m:Nat):Int)+((8:Nat):Int))) (8*(m+1)) (zA (by omega) (by omega) (by omega)) ?_))))))))))
     refine zc 1 [(8,(vI (8*(m+1))))] (zf (zF (zR (m+1,(Lb.set (8*m) (zaH Lb (kC m) (8*m) (za5 ((8*m)%2^8)) (mkD ((8*m+r)%2^8)))),a5) ?_ ?_)))
     ·exact ⟨by omega,hQ2.step hm9,⟨w20.heap.size,w21.heap.size,((hFz11_0).chg hCw22 (fun k h1 h2 hs=>by have h:k=_:=hs;omega)),by omega,by omega⟩,hBw22,(Chg.then (((((Chg.then (Chg.refl (fun k=>k=w6.heap.size) w9) hEl2 (fun k hk hs=>by have h:k=_:=hs;first | exact hs | exact .inl h | exact .inr h |(exfalso;omega))).trans hEw11.chg).trans hEw16.chg).trans hEw20.chg).trans hEw21.chg) hCw22 (fun k hk hs=>by have h:k=_:=hs;first | exact hs | exact .inl h | exact .inr h |(exfalso;omega)))⟩
     ·first | omega |(dsimp only;omega)
  ·replace hc39:¬(8*m<65):=by have:=zae hc39;omega
   obtain rfl:m=9:=by omega
   refine zf (zb (zn (zW (zx (zx (zL (zb (ze (zd ?_)))))))))
   refine za (zj (some 66) (Instr.loadAt 38 (vP w6.heap.size 0)) (vA [(vI 65),(.slice av (tot 65) (tot 65))]) (zw (vs:= [(vI 65),(.slice av (tot 65) (tot 65))]) (hBT2.all)) ?_)
   have hK23:=(((((((((hK2.ext hEw6)).ext hEw7)).chg hCw8 (fun hs=>by have h:_=_:=hs;omega))).chg hEl1 (fun hs=>by have h:_=_:=hs;omega))).chg hEl2 (fun hs=>by have h:_=_:=hs;omega))
   have hK24:=(((((((((hK3.ext hEw6)).ext hEw7)).chg hCw8 (fun hs=>by have h:_=_:=hs;omega))).chg hEl1 (fun hs=>by have h:_=_:=hs;omega))).chg hEl2 (fun hs=>by have h:_=_:=hs;omega))
   have hK25:=(((((((((hK4.ext hEw6)).ext hEw7)).chg hCw8 (fun hs=>by have h:_=_:=hs;omega))).chg hEl1 (fun hs=>by have h:_=_:=hs;omega))).chg hEl2 (fun hs=>by have h:_=_:=hs;omega))
   refine za (zl (some 67) (zkt 65 _ hM2 (by first | omega | decide) (by first | omega | decide) (by first | omega | decide) (za1 hQ2.ok) (zaQ hQ2.ok hQ2.len) hK23 hK24 hK25) ?_)
   rintro _ w23 ⟨a6,rfl,hFz12_0,hEw23⟩
   have hzw23:=hEw23.size
   have hlea6:=hFz12_0.le
   rw [show zbv 65 (zao Lb (kC 9) sa) (tot 65)=kD from zyL hQ2] at hFz12_0
   rw [show zbv 65 (zao Lb (kC 9) sa) (tot 65)=kD from zyL hQ2]
   rw [show List.length (kD)=17 from rfl]
   refine zc 5 [(11,(vI 0)),(10,(.slice a6 17 17)),(69,(vI 0)),(68,(.slice a6 17 17)),(65,(.tuple #[(.slice a6 17 17),(vI 0)]))] (zf (zb (ze (ze (zd (zc 1 [(70,(vI 0))] (za (zai (some 71) (((0:Nat):Int) !=((0:Nat):Int)) false (zaA (by omega)) ?_))))))))
   refine zc 3 [(74,(vI 17)),(73,(.slice a6 17 17)),(72,vF)] (za (zai (some 75) (((17:Nat):Int) !=((17:Nat):Int)) false (zaA (by omega)) ?_))
   refine zc 3 [(78,(.slice a6 17 17)),(77,vF),(76,vF)] ?_
   obtain ⟨b1,o1,rfl⟩:=hFz12_0.addr (by omega) (by decide)
   refine za (zj (some 79) (Instr.indexAt 85 (.slice (pA b1 o1) 17 17) (vI 16)) (vP b1 (o1+16*2)) (zP (E:=89) (sz:=2) (by omega)) ?_)
   refine za (zj (some 80) (Instr.loadAt 89 (vP b1 (o1+16*2))) (vA [(vI ((kD.getD 16 (0,0)).1)),(vI ((kD.getD 16 (0,0)).2))]) (zw (vs:= [(vI ((kD.getD 16 (0,0)).1)),(vI ((kD.getD 16 (0,0)).2))]) (hFz12_0.at (0,0) (by omega))) ?_)
   refine zc 1 [(81,(vA [(vI 3),(vI 0)]))] (za (zj (some 82) (bo .neq 89 (.tmp 80) (.tmp 81) (vA [(vI ((kD.getD 16 (0,0)).1)),(vI ((kD.getD 16 (0,0)).2))]) (vA [(vI 3),(vI 0)])) vF (zak (r:=true) (T:=89) ((zdr (dd:=9998) (t:=89) [(vI ((kD.getD 16 (0,0)).1)),(vI ((kD.getD 16 (0,0)).2))] [(vI 3),(vI 0)]).trans (congrArg (fun b=>Result.ok b _) (show (zgp [(vI ((kD.getD 16 (0,0)).1)),(vI ((kD.getD 16 (0,0)).2))] [(vI 3),(vI 0)])=true from rfl)))) ?_))
   refine zc 1 [(83,vF)] (zf (zb (zn (zu (zb (ze (zd (za (zj (some 85) (Instr.loadAt 38 (vP w6.heap.size 0)) (vA [(vI 65),(.slice av (tot 65) (tot 65))]) (zw (vs:= [(vI 65),(.slice av (tot 65) (tot 65))]) ((hBT2.ext hEw23).all)) ?_)))))))))
   refine za (zl (some 86) (zd3 65 _ (hM2.ext hEw23) (by first | omega | decide) (by first | omega | decide) (by first | omega | decide) (za1 hQ2.ok) (zaQ hQ2.ok hQ2.len) (hK23.ext hEw23) (hK24.ext hEw23) (hK25.ext hEw23)) ?_)
   rintro _ w24 ⟨a7,rfl,hFz13_0,hEw24⟩
   have hzw24:=hEw24.size
   have hlea7:=hFz13_0.le
   rw [show zba (tot 65) (zao Lb (kC 9) sa)=(zao Lb (kC 0) (zdD 65 (kC 9) sa)) from hQ2.pub] at hFz13_0
   have hKd:=hQ2.done
   have hs24:((zao Lb (kC 0) (zdD 65 (kC 9) sa)).getD 24 Un.zero).sl=_:=kSl hKd.len (by decide)
   have hs1:((zao Lb (kC 0) (zdD 65 (kC 9) sa)).getD 1 Un.zero).sl=_:=kSl hKd.len (by decide)
   have hs0:((zao Lb (kC 0) (zdD 65 (kC 9) sa)).getD 0 Un.zero).sl=_:=kSl hKd.len (by decide)
   rw [hKd.s24] at hs24;rw [hKd.s1] at hs1;rw [hKd.s0] at hs0
   refine zc 3 [(88,(vI 0)),(87,(vA [(vI 65),(.slice a7 (tot 65) (tot 65))])),(84,(.tuple #[(vA [(vI 65),(.slice a7 (tot 65) (tot 65))]),(vI 0)]))] (za (zv 38 w6.heap.size 0 38 (vA [(vI 65),(.slice a7 (tot 65) (tot 65))]) ([(vI 65),(.slice av (tot 65) (tot 65))]) ([(vI 65),(.slice a7 (tot 65) (tot 65))]) (((hBT2.ext hEw23)).ext hEw24) (by kernel_rfl) (by first | decide |(simp;done)|(simp;omega)) (by simp [Value.oneCell']) ?_))
   intro w25 hBw25 hCw25
   have hzw25:=hCw25.size
   rw [zm _ _ (by kernel_rfl)] at hBw25
   refine zc 1 [(4,(vI 0))] (zf (zb (ze (zd (zc 1 [(89,(vI 0))] (za (zai (some 90) (((0:Nat):Int) !=((0:Nat):Int)) false (zaA (by omega)) ?_)))))))
   refine zc 2 [(92,(vP w6.heap.size 1)),(91,vF)] (za (zj (some 93) (Instr.loadAt 36 (vP w6.heap.size 1)) (.slice a7 (tot 65) (tot 65)) (zk (hBw25.cell rfl)) ?_))
   refine zc 1 [(94,(vI (tot 65)))] (za (zai (some 95) ((((tot 65):Nat):Int) !=((25:Nat):Int)) false (zaA (by omega)) ?_))
   refine zc 3 [(98,(vP w6.heap.size 1)),(97,vF),(96,vF)] (za (zj (some 99) (Instr.loadAt 36 (vP w6.heap.size 1)) (.slice a7 (tot 65) (tot 65)) (zk (hBw25.cell rfl)) ?_))
   obtain ⟨b2,o2,rfl⟩:=hFz13_0.addr (by omega) (by decide)
   refine za (zj (some 100) (Instr.indexAt 36 (.slice (pA b2 o2) (tot 65) (tot 65)) (vI 24)) (vP b2 (o2+24*280)) (zP (E:=77) (sz:=280) (by omega)) ?_)
   refine zc 1 [(101,(vP b2 (o2+24*280+274)))] (za (zj (some 102) (Instr.loadAt 3 (vP b2 (o2+24*280+274))) (.int .i64 (((zao Lb (kC 0) (zdD 65 (kC 9) sa)).getD 24 Un.zero).sl)) (zk (((hFz13_0).chg hCw25 (fun k h1 h2 hs=>by have h:k=_:=hs;omega)).cell (j:=274) (i:=24) Un.zero (by omega) (zbk _))) ?_))
   refine zc 1 [(103,(vI r))] (za (zt (some 104) .i64 (IntKind.i64.wrap (((r:Nat):Int)+((1:Nat):Int))) (r+1) (zA (by omega) (by omega) (by omega)) ?_))
   refine za (zt (some 105) .i64 (((r+1:Nat):Int).tmod ((2:Nat):Int)) ((r+1)%2) (zcF _ _) ?_)
   refine za (zai (some 106) (((zao Lb (kC 0) (zdD 65 (kC 9) sa)).getD 24 Un.zero).sl !=(((r+1)%2:Nat):Int)) false (zaA (by omega)) ?_)
   refine zc 3 [(109,(vP w6.heap.size 1)),(108,vF),(107,vF)] (za (zj (some 110) (Instr.loadAt 36 (vP w6.heap.size 1)) (.slice (pA b2 o2) (tot 65) (tot 65)) (zk (hBw25.cell rfl)) ?_))
   refine za (zj (some 111) (Instr.indexAt 36 (.slice (pA b2 o2) (tot 65) (tot 65)) (vI 1)) (vP b2 (o2+1*280)) (zP (E:=77) (sz:=280) (by omega)) ?_)
   refine zc 1 [(112,(vP b2 (o2+1*280+274)))] (za (zj (some 113) (Instr.loadAt 3 (vP b2 (o2+1*280+274))) (.int .i64 (((zao Lb (kC 0) (zdD 65 (kC 9) sa)).getD 1 Un.zero).sl)) (zk (((hFz13_0).chg hCw25 (fun k h1 h2 hs=>by have h:k=_:=hs;omega)).cell (j:=274) (i:=1) Un.zero (by omega) (zbk _))) ?_))
   refine za (zai (some 114) (((zao Lb (kC 0) (zdD 65 (kC 9) sa)).getD 1 Un.zero).sl !=((0:Nat):Int)) false (zaA (by omega)) ?_)
   refine zc 3 [(117,(vP w6.heap.size 1)),(116,vF),(115,vF)] (za (zj (some 118) (Instr.loadAt 36 (vP w6.heap.size 1)) (.slice (pA b2 o2) (tot 65) (tot 65)) (zk (hBw25.cell rfl)) ?_))
   refine za (zj (some 119) (Instr.indexAt 36 (.slice (pA b2 o2) (tot 65) (tot 65)) (vI 0)) (vP b2 (o2+0*280)) (zP (E:=77) (sz:=280) (by omega)) ?_)
   refine zc 1 [(120,(vP b2 (o2+0*280+274)))] (za (zj (some 121) (Instr.loadAt 3 (vP b2 (o2+0*280+274))) (.int .i64 (((zao Lb (kC 0) (zdD 65 (kC 9) sa)).getD 0 Un.zero).sl)) (zk (((hFz13_0).chg hCw25 (fun k h1 h2 hs=>by have h:k=_:=hs;omega)).cell (j:=274) (i:=0) Un.zero (by omega) (zbk _))) ?_))
   refine zc 1 [(122,(vI r))] (za (zt (some 123) .i64 (IntKind.i64.wrap (((r:Nat):Int)+((1:Nat):Int))) (r+1) (zA (by omega) (by omega) (by omega)) ?_))
   refine za (zt (some 124) .i64 (((r+1:Nat):Int).tmod ((2:Nat):Int)) ((r+1)%2) (zcF _ _) ?_)
   refine za (zai (some 125) (((zao Lb (kC 0) (zdD 65 (kC 9) sa)).getD 0 Un.zero).sl !=(((r+1)%2:Nat):Int)) false (zaA (by omega)) ?_)
   refine zc 1 [(126,vF)] (zf (zb (zn (zu (zp (zb (zd (zc 1 [(35,(vI r))] (za (zt (some 36) .i64 (IntKind.i64.wrap (((r:Nat):Int)+((1:Nat):Int))) (r+1) (zA (by omega) (by omega) (by omega)) ?_))))))))))
   refine zc 1 [(7,(vI (r+1)))] (zf (zF (zR (r+1,Lb,(zdD 65 (kC 9) sa),(pA b2 o2)) ?_ ?_)))
   ·exact ⟨by omega,hQ2.done,⟨w23.heap.size,w24.heap.size,((hFz13_0).chg hCw25 (fun k h1 h2 hs=>by have h:k=_:=hs;omega)),by omega,by omega⟩,hBw25,(Chg.then (((Chg.then (Chg.then (Chg.refl (fun k=>k=w6.heap.size) w8) hEl1 (fun k hk hs=>by have h:k=_:=hs;first | exact hs | exact .inl h | exact .inr h |(exfalso;omega))) hEl2 (fun k hk hs=>by have h:k=_:=hs;first | exact hs | exact .inl h | exact .inr h |(exfalso;omega))).trans hEw23.chg).trans hEw24.chg) hCw25 (fun k hk hs=>by have h:k=_:=hs;first | exact hs | exact .inl h | exact .inr h |(exfalso;omega)))⟩
   ·first | omega |(dsimp only;omega)
 ·replace hc34:¬(r<3):=by have:=zae hc34;omega
  refine zf (zb (zn (zW (zx (zx (zL (zb (ze (zd ?_)))))))))
  have hK26:=(((((((hK2.ext hEw6)).ext hEw7)).chg hCw8 (fun hs=>by have h:_=_:=hs;omega))).chg hEl1 (fun hs=>by have h:_=_:=hs;omega))
  have hK27:=(((((((hK3.ext hEw6)).ext hEw7)).chg hCw8 (fun hs=>by have h:_=_:=hs;omega))).chg hEl1 (fun hs=>by have h:_=_:=hs;omega))
  have hK28:=(((((((hK4.ext hEw6)).ext hEw7)).chg hCw8 (fun hs=>by have h:_=_:=hs;omega))).chg hEl1 (fun hs=>by have h:_=_:=hs;omega))
  have hK29:=(((((((hK5.ext hEw6)).ext hEw7)).chg hCw8 (fun hs=>by have h:_=_:=hs;omega))).chg hEl1 (fun hs=>by have h:_=_:=hs;omega))
  refine za (zl (some 127) (zos _ hK26 hK27 hK28 hK29) ?_)
  rintro _ w26 ⟨rfl,hEw26⟩
  have hzw26:=hEw26.size
  refine zc 1 [(0,vT)] (zf (zb (zq (zr vT ?_))))
  have hX13:Ext w w26:=((Ext.own (Ext.own (((Ext.own (((hEw1.trans hEw2).trans hEw3).trans hEw4) hCw5 (by omega)).trans hEw6).trans hEw7) hCw8 (by omega)) hEl1 (by omega)).trans hEw26)
  exact ⟨rfl,hX13⟩
end Go.Proofs.YtkmhgepdhilllaaGreatDoor
namespace Go.Cs
open Go Go.ChangeShapes Go.WideShapes Go.ChangeAt Go.RowKit
section
variable {H:Type} {enc:TypeId×Value→H} {P:Program} {W:World} {base:Nat} {sp:Nat→Bool} {held:Bool}
def Rd (enc:TypeId×Value→H) (P:Program) (W:World) (base:Nat) (sp:Nat→Bool) (held:Bool) (t:TypeId) (cs:List Value):Prop:=∃fuel r,DataW.trod enc P W base sp held fuel t cs=some r
theorem w8 (n:Int) (h:(Lit.int .u8 n).wf=true):0≤n∧n<2^IntKind.u8.bits:=by have:=bounds_u8 h;exact ⟨by omega,by show n<2^8;omega⟩
theorem w32 (n:Int) (h:(Lit.int .u32 n).wf=true):0≤n∧n<2^IntKind.u32.bits:=by have:=bounds_u32 h;exact ⟨by omega,by show n<2^32;omega⟩
theorem w64 (n:Int) (h:(Lit.int .u64 n).wf=true):0≤n∧n<2^IntKind.u64.bits:=by have:=bounds_u64 h;exact ⟨by omega,by show n<2^64;omega⟩
theorem w16 (n:Int) (h:(Lit.int .u16 n).wf=true):0≤n∧n<2^IntKind.u16.bits:=by
 simp [Lit.wf,IntKind.min,IntKind.max,IntKind.signed,IntKind.bits] at h
 exact ⟨by omega,by show n<2^16;omega⟩
end
end Go.Cs
namespace Go.Cs
open Go Go.ChangeShapes Go.WideShapes Go.ChangeAt Go.RowKit
section
variable {H:Type} {enc:TypeId×Value→H} {P:Program} {W:World} {base:Nat} {sp:Nat→Bool} {held:Bool}
theorem zfT {t e:TypeId} {k:IntKind} {fuel n:Nat} {cs:List Value} {p:List MemPlace} {ns:List Int} (h:DataW.trod enc P W base sp held fuel t cs=some (.agg (ns.map fun z=> .lit (.int k z)),p)) (hu:P.underlying t=some (.array n e)) (he:P.underlying e=some (.int k)) (ce:P.cellsOf e=1) (ct:P.cellsOf t=n):
  cs=ns.map fun z=> .int k z:=by
 obtain ⟨xs,m,rfl,hx,hl,hn,hi⟩:=DataW.trod_array hu h
 simp only [Prod.mk.injEq,DataW.agg.injEq] at hx
 have hlen:ns.length=n:=by rw [←hn,show xs.length=(xs.map fun x=>x.1).length from by simp,←hx.1,List.length_map]
 refine List.ext_getElem (by simp;omega) fun i h1 h2=> ?_
 have h3:i<xs.length:=by omega
 have h4:=hi i (by omega)
 rw [List.getElem?_eq_getElem h3,ce,Nat.mul_one] at h4
 obtain ⟨z,e1,e2,_⟩:=DataW.trod_int he h4
 have e3:cs[i]= .int k z:=by
  have:=congrArg (fun y=>y[0]?) e1
  simp [List.getElem?_take,List.getElem?_drop,h1] at this
  exact this
 have e4:=congrArg (fun y=>y[i]?) hx.1
 simp only [List.getElem?_map,List.getElem?_eq_getElem h3,e2,List.getElem?_eq_getElem (show i<ns.length by omega),Option.map_some,Option.some.injEq,DataW.lit.injEq,Lit.int.injEq,true_and] at e4
 rw [e3];simp [e4]
theorem zjA {name:String} {g:Nat} {cs:Array Value} {vs:List Value} (hg:P.globalNamed name=some g) (hv:W.var? P name=some cs) (hcs:cs.toList=vs):Gl g vs W:=by
 have hc:=fun i=>World.var?_cell hg hv i
 refine ⟨fun i v hi=> ?_, ?_⟩
 ·rw [Nat.zero_add,hc i,←hi,←hcs];simp
 ·simp only [World.var?,hg,Option.bind_some] at hv
  rcases Nat.lt_or_ge g W.heap.size with h | h
  ·exact h
  ·rw [Array.getElem?_eq_none h] at hv;simp at hv
end
end Go.Cs
