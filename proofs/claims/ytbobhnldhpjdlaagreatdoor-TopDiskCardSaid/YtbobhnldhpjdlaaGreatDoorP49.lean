/- Lemmas and walks: what each function does, by its own code. No condition beyond those of each statement. -/
import Derived.Test.YtbobhnldhpjdlaaGreatDoorP12
import Derived.Test.YtbobhnldhpjdlaaGreatDoorP13
import Derived.Test.YtbobhnldhpjdlaaGreatDoorP25
import Derived.Test.YtbobhnldhpjdlaaGreatDoorP28
import Derived.Test.YtbobhnldhpjdlaaGreatDoorP33
import Derived.Test.YtbobhnldhpjdlaaGreatDoorP34
import Derived.Test.YtbobhnldhpjdlaaGreatDoorP47
import Derived.Test.YtbobhnldhpjdlaaGreatDoorP48
set_option linter.all false
set_option linter.unusedVariables false
namespace Go.Proofs.YtbobhnldhpjdlaaGreatDoor
open Go Go.RowKit Go.Cs Go.Cz
set_option maxRecDepth 100000
set_option maxHeartbeats 4000000
def F8 (v:UInt8):List UInt8:=(List.range 32).map fun i=>v+UInt8.ofNat (3*i)
def yp (v:UInt8):Dig:=⟨F8 v,by simp [F8]⟩
theorem Jp {v:UInt8}:Zp Tryz.prog 60 [.int .u8 (v.toNat:Int)] [] [] Unit (fun _=>True) (fun _=>vA (ay (yp v))) (fun _=> []) (fun _=> []):=by
 refine ak fun G=> ?_
 (repeat' ((try refine aw ?_);(conv=>arg 4;whnf);first | refine az ?_ |(refine sN ?_;intro b)| exact ax | fail));(all_goals refine av ?_)
 rename_i rb
 refine fL b (bE (List.replicate 32 0)) rfl ?_
 refine dh [b] (X:=Nat) (fun i=> [(4,vI i)]) (fun i=>i≤32) (fun i=> [iB b (bE ((List.range 32).map fun j=>if j<i then v+UInt8.ofNat (3*j) else 0)) 26]) (fun i=>32-i) 0 (Nat.zero_le _) rfl (by
  ((repeat' (first | with_reducible exact ar _ | exact am _ | refine aE ?_ ?_ | fail))<;>(try with_reducible rfl))
  all_goals rfl) ?_
 intro i hi
 (conv=>arg 2;simp only [List.cons_append,List.nil_append])
 by_cases hlt:i<32
 ·(repeat' ((try refine aw ?_);(conv=>arg 4;whnf);first | refine az ?_ |(refine sN ?_;intro b)| exact ax | fail));(all_goals refine av ?_)
  have e:Value.int .u8 ((3*i:Nat):Int)=vb (UInt8.ofNat (3*i)):=by
   show Value.int .u8 ((3*i:Nat):Int)=Value.int .u8 (((UInt8.ofNat (3*i)).toNat:Nat):Int)
   rw [UInt8.toNat_ofNat',Nat.mod_eq_of_lt (by omega)]
  rw [e]
  (repeat' ((try refine aw ?_);(conv=>arg 4;whnf);first | refine az ?_ |(refine sN ?_;intro b)| exact ax | fail));(all_goals refine av ?_)
  refine jV (i+1) hlt ?_ (by omega)
  have e2:((List.range 32).map fun j=>if j<i then v+UInt8.ofNat (3*j) else 0).set i (v+UInt8.ofNat (3*i))=(List.range 32).map fun j=>if j<i+1 then v+UInt8.ofNat (3*j) else 0:=by
   refine List.ext_getElem (by simp) fun k h1 h2=> ?_
   simp only [List.getElem_set,List.getElem_map,List.getElem_range]
   by_cases hk:i=k
   ·subst hk;rw [if_pos rfl,if_pos (by omega)]
   ·rw [if_neg hk]
    by_cases hk2:k<i
    ·rw [if_pos hk2,if_pos (by omega)]
    ·rw [if_neg hk2,if_neg (by omega)]
  rw [←e2]
  ((repeat' (first | with_reducible exact ar _ | exact am _ | refine aE ?_ ?_ | fail))<;>(try with_reducible rfl))
 ·obtain rfl:i=32:=by omega
  have e2:((List.range 32).map fun j=>if j<32 then v+UInt8.ofNat (3*j) else 0)=(yp v).l:=by
   show _=F8 v
   unfold F8
   exact List.map_congr_left fun j hj=>if_pos (List.mem_range.1 hj)
  rw [e2]
  refine fL b (ay (yp v)) rfl ?_
  (repeat' ((try refine aw ?_);(conv=>arg 4;whnf);first | refine az ?_ |(refine sN ?_;intro b)| exact ax | fail));(all_goals refine av ?_)
end Go.Proofs.YtbobhnldhpjdlaaGreatDoor
namespace Go.Proofs.YtbobhnldhpjdlaaGreatDoor
open Go Go.RowKit Go.Cs Go.Cz
set_option maxRecDepth 100000
set_option maxHeartbeats 4000000
def Hk (x:UInt8×UInt8):List Value:= [vb x.1,vb x.2]
instance:CL Hk 2:=⟨fun x=>by simp [Hk],fun x u hu=>(by unfold Hk;infer_instance:On (Hk x)).on u hu⟩
instance {x:UInt8×UInt8}:Sb (Hk x) 0 [vb x.1] True:=⟨fun _=>⟨[], [vb x.2],rfl,rfl⟩⟩
instance {x:UInt8×UInt8}:Sb (Hk x) 1 [vb x.2] True:=⟨fun _=>⟨[vb x.1], [],rfl,rfl⟩⟩
section
variable {Bn:Nat} {pra sra:Option Addr} {prn prc srn src:Nat} {E M:UInt8} {PL:List (UInt8×UInt8)} {SL:List UInt8}
theorem LF (hB:Bn<256):Zp Tryz.prog 22 [vA (ap ⟨Bn,(pra,prn,prc),(sra,srn,src),E.toNat,M.toNat⟩)] [] [Sl Hk pra prn prc PL,Sl cB sra srn src SL] (SLvl×List Sv×List (List SRrv)×List Rec×List Nat) (fun x=>VOk x.1.N ⟨x.1.Enc,x.1.Mac⟩ x.1.Cell x.2.2.1 x.2.2.2.1 x.2.2.2.2) (fun x=>vA (an x.1)) (fun _=> []) (fun x=> [Sl cS x.1.Ref.L.1 x.1.Ref.L.2.1 x.1.Ref.L.2.2 x.2.1,iw x.2.1 x.2.2.1]):=by
 have hE:=E.toNat_lt
 have hM:=M.toNat_lt
 refine ak fun G=> ?_
 refine aS 0 ?_
 intro hpn hpc hpm hpa
 refine aS 1 ?_
 intro hsn hsc hsm hsa
 obtain ⟨N,hN⟩:∃N,N=1+Bn%20:=⟨_,rfl⟩
 have h1:1≤N:=by omega
 have h2:N≤20:=by omega
 have h5:=a8 N
 have hbm:bas N (hgt N+1)≤2*N+2*N*(hgt N+1):=vK N (hgt N+1)
 have hbm2:2*N*(hgt N+1)≤40*7:=Nat.mul_le_mul (by omega) (by omega)
 have hbg:=pY N (hgt N+1)
 obtain ⟨K,hK⟩:∃K,K=nv (yp M):=⟨_,rfl⟩
 have hkk:=L1 (m:=yp M)
 rw [←hK] at hkk
 (repeat' ((try refine aw ?_);(conv=>arg 4;whnf);first | refine aO ?_ |(refine sN ?_;intro b)|(refine aa ?_;intro g c')| refine af ?_ ?_ | fail));(all_goals refine av ?_)
 rename_i xbk rbk
 refine bG xbk ?_
 rw [←hN]
 (repeat' ((try refine aw ?_);(conv=>arg 4;whnf);first | refine aO ?_ |(refine sN ?_;intro b)|(refine aa ?_;intro g c')|((first | refine aA Jp ?_ | refine aA hkk ?_ | refine aA (Ie h1 (show N≤4096 by omega)) ?_);intro x hx;refine aH ?_)|(refine cw (MN (n:=bas N (hgt N+1)) (by omega)) ?_;intro x hx;refine bV ?_)| refine af ?_ ?_ | fail));(all_goals refine av ?_)
 obtain ⟨ref,S0⟩:=x
 revert b;intro vbk
 dsimp only
 refine sV [1,2,3,4] ?_
 (conv=>arg 4;whnf)
 refine xw 0 (X:=Sv×List Sv×List (List SRrv)×(Option Addr×Nat×List Dig)×(Option Addr×Nat×List Rec)) (fun x=> [(1,vP xbk 0),(2,vP rbk 0),(3,vP vbk 0)])
  (fun x=>TOk (bas N (hgt N+1)) x.2.2.1 (1+N)∧x.2.2.2.2.2.2.length=N∧(∀j,j<N→bS (x.2.2.2.2.2.2.getD j Rec.zero)=0)∧j5 K x.2.2.1 x.2.2.2.2.2.2 N)
  (fun x=> [iB vbk (an ⟨N,K.enc,K.mac,⟨x.1⟩,Cel.zero,(x.2.2.2.1.1,N,x.2.2.2.1.2.1),(x.2.2.2.2.1,N,x.2.2.2.2.2.1),(none,0,0)⟩) 85,iB rbk (an SLvl.zero) 85,iN bY 35 x.2.2.2.2.1 N x.2.2.2.2.2.1 138 x.2.2.2.2.2.2])
  (fun x=> [Sl cS x.1.1 x.1.2.1 x.1.2.2 x.2.1,iw x.2.1 x.2.2.1]) ?_ ?_
 ·intro KK1
  refine w6 [vbk] (X:=Nat×Sv×List Sv×List (List SRrv)×(Option Addr×Nat×List Dig)×(Option Addr×Nat×List Rec)) (fun x=> [(4,vI x.1)])
   (fun x=>x.1≤N∧TOk (bas N (hgt N+1)) x.2.2.2.1 (1+x.1)∧x.2.2.2.2.1.2.2.length=x.1∧x.2.2.2.2.2.2.2.length=x.1∧(∀j,j<x.1→bS (x.2.2.2.2.2.2.2.getD j Rec.zero)=0)∧j5 K x.2.2.2.1 x.2.2.2.2.2.2.2 x.1)
   (fun x=> [iB vbk (an ⟨N,K.enc,K.mac,⟨x.2.1⟩,Cel.zero,(x.2.2.2.2.1.1,x.1,x.2.2.2.2.1.2.1),(x.2.2.2.2.2.1,x.1,x.2.2.2.2.2.2.1),(none,0,0)⟩) 85,iN ay 32 x.2.2.2.2.1.1 x.1 x.2.2.2.2.1.2.1 52 x.2.2.2.2.1.2.2,iN bY 35 x.2.2.2.2.2.1 x.1 x.2.2.2.2.2.2.1 138 x.2.2.2.2.2.2.2])
   (fun x=> [Sl cS x.2.1.1 x.2.1.2.1 x.2.1.2.2 x.2.2.1,iw x.2.2.1 x.2.2.2.1]) (fun x=>N-x.1) (0,ref,S0,List.replicate (bas N (hgt N+1)) [SRrv.zero],(none,0, []),(none,0, []))
   ⟨Nat.zero_le _,TOk.zero _,rfl,rfl,fun j hj=>absurd hj (Nat.not_lt_zero _),fun j hj=>absurd hj (Nat.not_lt_zero _)⟩ rfl (by ((repeat' (first | with_reducible exact ar _ | exact am _ | refine aE ?_ ?_ | refine aX ?_ | refine qT rfl ?_))<;>(try with_reducible rfl))) bu ?_
  rintro ⟨i,⟨rfa,rfn,rfc⟩,S,T,⟨a1,c1,BLs⟩,⟨a2,c2,RL⟩⟩ ⟨hi,hT,hB,hR,hRc,hD⟩
  (conv=>arg 3;simp only [List.cons_append,List.nil_append])
  (conv=>arg 2;simp only [List.cons_append,List.nil_append])
  dsimp only at hi hT hB hR hRc hD⊢
  by_cases hlt:i<N
  ·by_cases hp:i<PL.length
   ·obtain ⟨pb,pof,rfl⟩:=hpa (by omega) (by decide)
    by_cases hz:(PL.getD i default).1.toNat%3=0
    ·(repeat' ((try refine aw ?_);(conv=>arg 4;whnf);first | refine aO ?_ |(refine sN ?_;intro b)|(refine aa ?_;intro g c')| refine af ?_ ?_ | fail));(all_goals refine av ?_)
     rename_i gqa cqa
     refine eU (i+1,(rfa,rfn,rfc),S,T,(some ⟨gqa,0,none⟩,cqa,BLs++ [Dig.zero]),(some ⟨g,0,none⟩,c',RL++ [Rec.zero])) ⟨hlt,hT.mono (by omega),by simp [hB],by simp [hR],lC hRc hR rfl,hD.skip hR rfl⟩ ?_ (by dsimp only;omega) bu
     dsimp only
     ((repeat' (first | with_reducible exact ar _ | exact am _ | refine aE ?_ ?_ | refine aX ?_))<;>(try with_reducible rfl))
    ·have hst:(PL.getD i default).1.toNat%3<3:=Nat.mod_lt _ (by decide)
     have ii1:Nu 256 (((PL.getD i default).1.toNat%3:Nat):Int) ((PL.getD i default).1.toNat%3):=⟨rfl,by omega⟩
     have ii2:Nu 4294967296 ((i%3:Nat):Int) (i%3):=⟨rfl,by omega⟩
     have ii3:Nu 18446744073709551616 ((i:Nat):Int) i:=⟨rfl,by omega⟩
     (repeat' ((try refine aw ?_);(conv=>arg 4;whnf);first | refine aO ?_ |(refine sN ?_;intro b)|(refine aa ?_;intro g c')|((first | refine aA Ev ?_ | refine aA (LY (e:=K.enc) (m:=K.mac) (i:=i) (by omega)) ?_);intro x hx;refine aH ?_)| refine af ?_ ?_ | fail));(all_goals refine av ?_)
     rename_i pbx rbx _ _
     revert b;intro dbx
     revert x;intro Dx
     obtain ⟨R1,hR1⟩:∃R1:Rec,R1=⟨(PL.getD i default).1.toNat%3,⟨i%3,i,by omega,by omega⟩,il K i ⟨i%3,i,by omega,by omega⟩ Dx,by omega⟩:=⟨_,rfl⟩
     refine fL rbx (bY R1) (by rw [hR1]) ?_
     have hr0:R1.st=(PL.getD i default).1.toNat%3:=by rw [hR1]
     have htg:R1.tag=il K i R1.non Dx:=by rw [hR1]
     have hr1:R1.st≠0:=by omega
     have hr2:R1.st≤2:=by omega
     have hck:bS R1=0:=by unfold bS;rw [if_neg (by omega),if_neg hr1]
     clear hR1
     have hDl:=Dx.h
     have hTl:=hT.len
     have hw4:=He (s:=(rfa,rfn,rfc)) (S:=S) (T:=T) (k:=2*i+(R1.st-1)) (v:=⟨true,Dx.l⟩) hT.ne (by omega) (fun j=>Nat.le_trans (hT.le j) (by omega))
     dsimp only at hw4
     refine eD (X:=Sv×List Sv) (fun x=> [(1,vP xbk 0),(2,vP rbk 0),(3,vP vbk 0),(4,vI i),(5,vP pbx 0),(6,vP rbx 0)]) (fun _=>True)
      (fun x=> [iB vbk (an ⟨N,K.enc,K.mac,⟨x.1⟩,Cel.zero,(a1,i,c1),(a2,i,c2),(none,0,0)⟩) 85,iB rbx (bY R1) 138,iB pbx (ay (gc (PL.getD i default).2)) 52,iN ay 32 a1 i c1 52 BLs,iN bY 35 a2 i c2 138 RL,iB rbk (an SLvl.zero) 85])
      (fun x=> [Sl cS x.1.1 x.1.2.1 x.1.2.2 x.2,iw x.2 (eP T (2*i+(R1.st-1)) ⟨true,Dx.l⟩ T.length)]) ?_ ?_
     ·intro KK2
      refine tD [iB vbk (an ⟨N,K.enc,K.mac,⟨(rfa,rfn,rfc)⟩,Cel.zero,(a1,i,c1),(a2,i,c2),(none,0,0)⟩) 85,iB rbx (bY R1) 138] [] cD (fun _ h=>by cases h) rfl ?_
      (repeat' ((try refine aw ?_);(conv=>arg 4;whnf);first | refine x8 ?_ | refine qJ ?_ | refine ng ?_ me | refine yH ?_ |(refine sN ?_;intro b)|(refine aa ?_;intro g c')|(refine aA (IM (b:=i) (s:=R1.st-1) (by omega) (by omega)) ?_;intro x hx;refine aH ?_)|(refine cw hw4 ?_;intro x hx;refine bV ?_)| refine af ?_ ?_ | fail));(all_goals refine av ?_)
      all_goals exact d9 x True.intro cD bu
     ·rintro ⟨⟨rga,rgn,rgc⟩,S2⟩ _
      dsimp only
      (conv=>arg 3;simp only [List.cons_append,List.nil_append])
      (repeat' ((try refine aw ?_);(conv=>arg 4;whnf);first | refine aO ?_ |(refine sN ?_;intro b)|(refine aa ?_;intro g c')| refine af ?_ ?_ | fail));(all_goals refine av ?_)
      rename_i gqa cqa
      refine eU (i+1,(rga,rgn,rgc),S2,eP T (2*i+(R1.st-1)) ⟨true,Dx.l⟩ T.length,(some ⟨gqa,0,none⟩,cqa,BLs++ [gc (PL.getD i default).2]),(some ⟨g,0,none⟩,c',RL++ [R1])) ⟨hlt,(hT.put (by dsimp only;omega)).mono (by omega),by simp [hB],by simp [hR],lC hRc hR hck,hD.put hR hRc hr1 hr2 htg (by omega)⟩ ?_ (by dsimp only;omega) bu
      dsimp only
      ((repeat' (first | with_reducible exact ar _ | exact am _ | refine aE ?_ ?_ | refine aX ?_))<;>(try with_reducible rfl))
   ·(repeat' ((try refine aw ?_);(conv=>arg 4;whnf);first | refine aO ?_ |(refine sN ?_;intro b)|(refine aa ?_;intro g c')| refine af ?_ ?_ | fail));(all_goals refine av ?_)
    rename_i gqa cqa
    refine eU (i+1,(rfa,rfn,rfc),S,T,(some ⟨gqa,0,none⟩,cqa,BLs++ [Dig.zero]),(some ⟨g,0,none⟩,c',RL++ [Rec.zero])) ⟨hlt,hT.mono (by omega),by simp [hB],by simp [hR],lC hRc hR rfl,hD.skip hR rfl⟩ ?_ (by dsimp only;omega) bu
    dsimp only
    ((repeat' (first | with_reducible exact ar _ | exact am _ | refine aE ?_ ?_ | refine aX ?_))<;>(try with_reducible rfl))
  ·obtain rfl:i=N:=by omega
   (repeat' ((try refine aw ?_);(conv=>arg 4;whnf);first | refine aO ?_ |(refine sN ?_;intro b)|(refine aa ?_;intro g c')| refine af ?_ ?_ | fail));(all_goals refine av ?_)
   exact d9 (⟨rfa,rfn,rfc⟩,S,T,(a1,c1,BLs),(a2,c2,RL)) ⟨hT,hR,hRc,hD⟩ cD bu
 ·rintro ⟨ref,S,T,⟨a1,c1,BLs⟩,⟨a2,c2,RL⟩⟩ ⟨hT,hR,hRc,hD⟩
  dsimp only at hT hR hRc hD⊢
  refine Ih [Sl cS ref.1 ref.2.1 ref.2.2 S,iw S T,Bk xbk (ap ⟨Bn,(pra,prn,prc),(sra,srn,src),E.toNat,M.toNat⟩),Sl cB sra srn src SL] (by simp) ?_
  (repeat' ((try refine aw ?_);(conv=>arg 4;whnf);first | refine aO ?_ |(refine sN ?_;intro b)|(refine aa ?_;intro g c')| refine af ?_ ?_ | fail));(all_goals refine av ?_)
  refine sV [1,2,3,8] ?_
  (conv=>arg 4;whnf)
  have htn:=Nat.le_trans (kP N (hgt N+1)) (Nat.mul_le_mul (show N≤20 by omega) (show hgt N+1≤7 by omega))
  have htt:tot N≤140:=htn
  have hte:tot N=num N (hgt N)+1:=eR h1 (by omega)
  refine xw 2 (X:=Option Addr×Nat×List Nat) (fun x=> [(1,vP xbk 0),(2,vP rbk 0),(3,vP vbk 0)]) (fun x=>(∃g,x.1=some ⟨g,0,none⟩)∧x.2.2.length=tot N∧∀j,x.2.2.getD j 0≤1)
   (fun x=> [iB vbk (an ⟨N,K.enc,K.mac,⟨ref⟩,Cel.zero,(a1,N,c1),(a2,N,c2),(x.1,tot N,x.2.1)⟩) 85,iB rbk (an SLvl.zero) 85,iN bY 35 a2 N c2 138 RL,iN cI 1 x.1 (tot N) x.2.1 3 x.2.2]) (fun _=> []) ?_ ?_
  ·intro KK3
   refine w6 [vbk] (X:=Nat×Option Addr×Nat×List Nat) (fun x=> [(8,vI x.1)]) (fun x=>x.1≤tot N∧(0<x.1→∃g,x.2.1=some ⟨g,0,none⟩)∧x.2.2.2.length=x.1∧∀j,x.2.2.2.getD j 0≤1)
    (fun x=> [iB vbk (an ⟨N,K.enc,K.mac,⟨ref⟩,Cel.zero,(a1,N,c1),(a2,N,c2),(x.2.1,x.1,x.2.2.1)⟩) 85,iN cI 1 x.2.1 x.1 x.2.2.1 3 x.2.2.2]) (fun _=> []) (fun x=>tot N-x.1) (0,none,0, []) ⟨Nat.zero_le _,fun h=>absurd h (Nat.lt_irrefl _),rfl,fun j=>by simp⟩ rfl (by ((repeat' (first | with_reducible exact ar _ | exact am _ | refine aE ?_ ?_ | refine aX ?_ | refine qT rfl ?_))<;>(try with_reducible rfl))) bu ?_
   rintro ⟨k,a3,c3,sl⟩ ⟨hk,hsg,hsl,hs1⟩
   (conv=>arg 3;simp only [List.cons_append,List.nil_append])
   (conv=>arg 2;simp only [List.cons_append,List.nil_append])
   dsimp only at hk hsg hsl hs1⊢
   by_cases hlt:k<tot N
   ·by_cases hp:k<SL.length
    ·obtain ⟨sb,so,rfl⟩:=hsa (by omega) (by decide)
     (repeat' ((try refine aw ?_);(conv=>arg 4;whnf);first | refine aO ?_ |(refine sN ?_;intro b)|(refine aa ?_;intro g c')|(refine aA (tT h1 (show N≤4096 by omega)) ?_;intro x hx;refine aH ?_)| refine af ?_ ?_ | fail));(all_goals refine av ?_)
     try rw [show (k.mul 0).add k=k by show k*0+k=k;omega]
     refine eU (k+1,some ⟨g,0,none⟩,c',sl++ [(SL.getD k default).toNat%2]) ⟨hlt,fun _=>⟨g,rfl⟩,by simp [hsl],fun j=> ?_⟩ ?_ (by dsimp only;omega) bu
     ·dsimp only
      rcases Nat.lt_trichotomy j sl.length with g9 | g9 | g9
      ·rw [gb g9];exact hs1 j
      ·rw [gg g9];omega
      ·rw [List.getD_eq_getElem?_getD,List.getElem?_eq_none (by simp;omega)];exact Nat.zero_le _
     ·dsimp only
      ((repeat' (first | with_reducible exact ar _ | exact am _ | refine aE ?_ ?_ | refine aX ?_))<;>(try with_reducible rfl))
    ·(repeat' ((try refine aw ?_);(conv=>arg 4;whnf);first | refine aO ?_ |(refine sN ?_;intro b)|(refine aa ?_;intro g c')|(refine aA (tT h1 (show N≤4096 by omega)) ?_;intro x hx;refine aH ?_)| refine af ?_ ?_ | fail));(all_goals refine av ?_)
     refine fL b (([0]:List Nat).flatMap cI) rfl ?_
     (repeat' ((try refine aw ?_);(conv=>arg 4;whnf);first | refine aO ?_ |(refine sN ?_;intro b)|(refine aa ?_;intro g c')| refine af ?_ ?_ | fail));(all_goals refine av ?_)
     refine eU (k+1,some ⟨g,0,none⟩,c',sl++ [0]) ⟨hlt,fun _=>⟨g,rfl⟩,by simp [hsl],fun j=> ?_⟩ ?_ (by dsimp only;omega) bu
     ·dsimp only
      rcases Nat.lt_trichotomy j sl.length with g9 | g9 | g9
      ·rw [gb g9];exact hs1 j
      ·rw [gg g9];omega
      ·rw [List.getD_eq_getElem?_getD,List.getElem?_eq_none (by simp;omega)];exact Nat.zero_le _
     ·dsimp only
      ((repeat' (first | with_reducible exact ar _ | exact am _ | refine aE ?_ ?_ | refine aX ?_))<;>(try with_reducible rfl))
   ·obtain rfl:k=tot N:=by omega
    (repeat' ((try refine aw ?_);(conv=>arg 4;whnf);first | refine aO ?_ |(refine sN ?_;intro b)|(refine aa ?_;intro g c')|(refine aA (tT h1 (show N≤4096 by omega)) ?_;intro x hx;refine aH ?_)| refine af ?_ ?_ | fail));(all_goals refine av ?_)
    exact d9 (a3,c3,sl) ⟨hsg (by omega),hsl,hs1⟩ cD bu
  ·rintro ⟨a3,c3,sl⟩ ⟨⟨g3,hg3⟩,hsl,hs1⟩
   dsimp only at hg3 hsl hs1⊢
   subst hg3
   (conv=>arg 3;simp only [List.cons_append,List.nil_append])
   refine L5 (K:=cI) (m:=1) (n:=tot N) (c:=c3) (e:=3) g3 ?_
   intro rs3 hc31 hc32
   have hU:Ub (sl.flatMap cI++rs3) (0+(tot N-1)*1) [vI (E.toNat%2)] ((sl.set (tot N-1) (E.toNat%2)).flatMap cI++rs3) True:=⟨fun _=>by
    obtain ⟨pre,old,post,e1,e2,e3,e4⟩:=j6 (K:=cI) (m:=1) (t:=sl) (i:=tot N-1) (E.toNat%2) (by omega)
    exact ⟨pre,old,post++rs3,by rw [e1];simp,by rw [e2];omega,e3,by rw [e4];simp [cI]⟩⟩
   (repeat' ((try refine aw ?_);(conv=>arg 4;whnf);first | refine aO ?_ |(refine sN ?_;intro b)|(refine aa ?_;intro g c')|(refine aA (ny h1 (show N≤4096 by omega)) ?_;intro x hx;refine aH ?_)| refine af ?_ ?_ | fail));(all_goals refine av ?_)
   obtain ⟨s2,hs2⟩:∃s2,s2=sl.set (tot N-1) (E.toNat%2):=⟨_,rfl⟩
   rw [←hs2]
   have hs2l:s2.length=tot N:=by rw [hs2,List.length_set,hsl]
   have hs21:∀j,s2.getD j 0≤1:=fun j=>by
    rw [hs2,List.getD_eq_getElem?_getD,List.getElem?_set]
    split
    ·split
     ·exact (by omega:E.toNat%2≤1)
     ·exact Nat.zero_le _
    ·rw [←List.getD_eq_getElem?_getD];exact hs1 j
   have hs2e:s2.getD (num N (hgt N)) 0=E.toNat%2:=by
    rw [hs2,show tot N-1=num N (hgt N) by omega,List.getD_eq_getElem?_getD,List.getElem?_set_self (by omega)];rfl
   refine kz cI s2 g3 (tot N) c3 ?_
   refine eE (m:=35) (e:=138) bY a2 N c2 ?_
   have hO:OkM RL s2:=⟨by omega,by omega,fun j hj=>hRc j (by omega),by rw [hs2l,hR],hs21⟩
   have hch:=eg h1 (show N≤4096 by omega)
   refine sV [1,2,3,10,11] ?_
   (conv=>arg 4;whnf)
   refine xw 4 (X:=Sv×List Sv×List (List SRrv)) (fun x=> [(1,vP xbk 0),(2,vP rbk 0),(3,vP vbk 0)]) (fun x=>TOk (bas N (hgt N+1)) x.2.2 1000∧j5 K x.2.2 RL N∧sP N x.2.2 RL s2 (fun _ _=>True))
    (fun x=> [iB vbk (an ⟨N,K.enc,K.mac,⟨x.1⟩,Cel.zero,(a1,N,c1),(a2,N,c2),(some ⟨g3,0,none⟩,tot N,c3)⟩) 85,iB rbk (an SLvl.zero) 85]) (fun x=> [Sl cS x.1.1 x.1.2.1 x.1.2.2 x.2.1,iw x.2.1 x.2.2]) ?_ ?_
   ·intro KK4
    refine w6 [vbk] (X:=Nat×Sv×List Sv×List (List SRrv)) (fun x=> [(11,vI x.1)]) (fun x=>x.1≤hgt N+1∧TOk (bas N (hgt N+1)) x.2.2.2 (1+N+num N x.1)∧j5 K x.2.2.2 RL N∧sP N x.2.2.2 RL s2 (fun a b=>a<x.1))
     (fun x=> [iB vbk (an ⟨N,K.enc,K.mac,⟨x.2.1⟩,Cel.zero,(a1,N,c1),(a2,N,c2),(some ⟨g3,0,none⟩,tot N,c3)⟩) 85]) (fun x=> [Sl cS x.2.1.1 x.2.1.2.1 x.2.1.2.2 x.2.2.1,iw x.2.2.1 x.2.2.2]) (fun x=>hgt N+1-x.1) (0,ref,S,T)
     ⟨Nat.zero_le _,hT.mono (by show _≤1+N+0;omega),hD,fun a b h=>absurd h (Nat.not_lt_zero _)⟩ rfl cD bu ?_
    rintro ⟨l,⟨rfa,rfn,rfc⟩,S2,T2⟩ ⟨hl,hT2,hD2,hN2⟩
    (conv=>arg 3;simp only [List.cons_append,List.nil_append])
    (conv=>arg 2;simp only [List.cons_append,List.nil_append])
    dsimp only at hl hT2 hD2 hN2⊢
    by_cases hlt:l≤hgt N
    ·have hcl:=cH N l
     (repeat' ((try refine aw ?_);(conv=>arg 4;whnf);first | refine aO ?_ |(refine sN ?_;intro b)|(refine aa ?_;intro g c')| refine af ?_ ?_ | fail));(all_goals refine av ?_)
     refine sV [1,2,3,10,11,12] ?_
     (conv=>arg 4;whnf)
     refine xw 6 (X:=Sv×List Sv×List (List SRrv)) (fun x=> [(1,vP xbk 0),(2,vP rbk 0),(3,vP vbk 0),(10,vI (hgt N)),(11,vI l)]) (fun x=>TOk (bas N (hgt N+1)) x.2.2 (1+N+num N (l+1))∧j5 K x.2.2 RL N∧sP N x.2.2 RL s2 (fun a b=>a<l+1))
      (fun x=> [iB vbk (an ⟨N,K.enc,K.mac,⟨x.1⟩,Cel.zero,(a1,N,c1),(a2,N,c2),(some ⟨g3,0,none⟩,tot N,c3)⟩) 85,iB rbk (an SLvl.zero) 85]) (fun x=> [Sl cS x.1.1 x.1.2.1 x.1.2.2 x.2.1,iw x.2.1 x.2.2]) ?_ ?_
     ·intro KK5
      refine w6 [vbk] (X:=Nat×Sv×List Sv×List (List SRrv)) (fun x=> [(12,vI x.1)]) (fun x=>x.1≤cnt N l∧TOk (bas N (hgt N+1)) x.2.2.2 (1+N+(num N l+x.1))∧j5 K x.2.2.2 RL N∧sP N x.2.2.2 RL s2 (fun a b=>a<l∨(a=l∧b<x.1)))
       (fun x=> [iB vbk (an ⟨N,K.enc,K.mac,⟨x.2.1⟩,Cel.zero,(a1,N,c1),(a2,N,c2),(some ⟨g3,0,none⟩,tot N,c3)⟩) 85]) (fun x=> [Sl cS x.2.1.1 x.2.1.2.1 x.2.1.2.2 x.2.2.1,iw x.2.2.1 x.2.2.2]) (fun x=>cnt N l-x.1) (0,(rfa,rfn,rfc),S2,T2)
       ⟨Nat.zero_le _,hT2,hD2,fun a b h=>hN2 a b (by rcases h with h | h;exact h;exact absurd h.2 (Nat.not_lt_zero _))⟩ rfl cD bu ?_
      rintro ⟨j,⟨rja,rjn,rjc⟩,S3,T3⟩ ⟨hj,hT3,hD3,hN3⟩
      (conv=>arg 3;simp only [List.cons_append,List.nil_append])
      (conv=>arg 2;simp only [List.cons_append,List.nil_append])
      dsimp only at hj hT3 hD3 hN3⊢
      by_cases hjt:j<cnt N l
      ·by_cases hdo:l=hgt N∨bK RL l j=false
       ·have hnl:(aM (aK RL s2 l j)).length≤256:=by rw [dN];split<;>decide
        have hNl:num N l+j<tot N:=d7 hlt hjt
        have hNd:=tr (a:=a2) (m:=N) (c:=c2) (b:=some ⟨g3,0,none⟩) (m2:=tot N) (c2:=c3) hO (l:=l) (j:=j) (by rw [hR];exact hlt) (by rw [hR];exact hjt)
        obtain ⟨Y,hY⟩:∃Y,Y=aK RL s2 l j:=⟨_,rfl⟩
        rw [←hY] at hNd hnl
        have hT3l:=hT3.len
        have hw4:=He (s:=(rja,rjn,rjc)) (S:=S3) (T:=T3) (k:=bas N l+2*j+s2.getD (num N l+j) default) (v:=⟨true,aM Y⟩) hT3.ne (by omega) (fun j=>Nat.le_trans (hT3.le j) (by omega))
        dsimp only at hw4
        by_cases hlh:l=hgt N
        ·(repeat' ((try refine aw ?_);(conv=>arg 4;whnf);first | refine aO ?_ |(refine sN ?_;intro b)|(refine aa ?_;intro g c')|((first | refine aA (iF h1 (show N≤4096 by omega) hlt) ?_ | refine aA hNd ?_);intro x hx;refine aH ?_)|(refine cw tz ?_;intro x hx;refine bV ?_)| refine af ?_ ?_ | fail));(all_goals refine av ?_)
         obtain ⟨yga,ygc⟩:=x
         dsimp only
         refine eD (X:=Sv×List Sv) (fun x=> [(1,vP xbk 0),(2,vP rbk 0),(3,vP vbk 0),(10,vI (hgt N)),(11,vI l),(12,vI j)]) (fun _=>True)
          (fun x=> [iB vbk (an ⟨N,K.enc,K.mac,⟨x.1⟩,Cel.zero,(a1,N,c1),(a2,N,c2),(some ⟨g3,0,none⟩,tot N,c3)⟩) 85,iB rbk (an SLvl.zero) 85]) (fun x=> [Sl cS x.1.1 x.1.2.1 x.1.2.2 x.2,iw x.2 (eP T3 (bas N l+2*j+s2.getD (num N l+j) default) ⟨true,aM Y⟩ T3.length)]) ?_ ?_
         ·intro KK6
          refine tD [iB vbk (an ⟨N,K.enc,K.mac,⟨(rja,rjn,rjc)⟩,Cel.zero,(a1,N,c1),(a2,N,c2),(some ⟨g3,0,none⟩,tot N,c3)⟩) 85] [Sl cI (some ⟨g3,0,none⟩) (tot N) c3 s2] cD bu rfl ?_
          (repeat' ((try refine aw ?_);(conv=>arg 4;whnf);first | refine x8 ?_ | refine qJ ?_ | refine ng ?_ me | refine yH ?_ |(refine sN ?_;intro b)|(refine aa ?_;intro g c')|(refine aA (nW h1 (show N≤4096 by omega) (show l≤hgt N+1 by omega) (show j≤4096 by omega)) ?_;intro x hx;refine aH ?_)| refine af ?_ ?_ | fail));(all_goals refine av ?_)
          all_goals (
           rw [show ((num N l+j).mul 0).add (num N l+j)=num N l+j by show (num N l+j)*0+(num N l+j)=num N l+j;omega]
           (repeat' ((try refine aw ?_);(conv=>arg 4;whnf);first | refine x8 ?_ | refine qJ ?_ | refine ng ?_ me | refine yH ?_ |(refine sN ?_;intro b)|(refine aa ?_;intro g c')|(refine aA (Bj h1 (show N≤4096 by omega) hlt (show j≤4096 by omega) (hs21 (num N l+j))) ?_;intro x hx;refine aH ?_)|(refine cw hw4 ?_;intro x hx;refine bV ?_)| refine af ?_ ?_ | fail));(all_goals refine av ?_)
           exact d9 x True.intro cD bu)
         ·rintro ⟨⟨rma,rmn,rmc⟩,S6⟩ _
          dsimp only
          (conv=>arg 3;simp only [List.cons_append,List.nil_append])
          (repeat' ((try refine aw ?_);(conv=>arg 4;whnf);first | refine aO ?_ |(refine sN ?_;intro b)|(refine aa ?_;intro g c')| refine af ?_ ?_ | fail));(all_goals refine av ?_)
          refine eU (j+1,(rma,rmn,rmc),S6,eP T3 (bas N l+2*j+s2.getD (num N l+j) default) ⟨true,aM Y⟩ T3.length) ⟨hjt,(hT3.put (by dsimp only;omega)).mono (by omega),hD3.node hRc (by have:=pY N l;omega) (by omega), ?_⟩ ?_ (by dsimp only;omega) bu
          ·dsimp only
           rw [hY]
           exact hN3.put hlt hjt hs21 (by omega) (fun a b hq=>by omega)
          ·dsimp only
           ((repeat' (first | with_reducible exact ar _ | exact am _ | refine aE ?_ ?_ | refine aX ?_))<;>(try with_reducible rfl))
        ·have hem:bK RL l j=false:=hdo.resolve_left hlh
         have hE:=tB (L:=RL) (a:=a2) (m:=N) (c:=c2) (l:=l) (j:=j) (by omega) (by omega)
         rw [hem] at hE
         (repeat' ((try refine aw ?_);(conv=>arg 4;whnf);first | refine aO ?_ |(refine sN ?_;intro b)|(refine aa ?_;intro g c')|((first | refine aA (iF h1 (show N≤4096 by omega) hlt) ?_ | refine aA hE ?_ | refine aA hNd ?_);intro x hx;refine aH ?_)|(refine cw tz ?_;intro x hx;refine bV ?_)| refine af ?_ ?_ | fail));(all_goals refine av ?_)
         obtain ⟨yga,ygc⟩:=x
         dsimp only
         refine eD (X:=Sv×List Sv) (fun x=> [(1,vP xbk 0),(2,vP rbk 0),(3,vP vbk 0),(10,vI (hgt N)),(11,vI l),(12,vI j)]) (fun _=>True)
          (fun x=> [iB vbk (an ⟨N,K.enc,K.mac,⟨x.1⟩,Cel.zero,(a1,N,c1),(a2,N,c2),(some ⟨g3,0,none⟩,tot N,c3)⟩) 85,iB rbk (an SLvl.zero) 85]) (fun x=> [Sl cS x.1.1 x.1.2.1 x.1.2.2 x.2,iw x.2 (eP T3 (bas N l+2*j+s2.getD (num N l+j) default) ⟨true,aM Y⟩ T3.length)]) ?_ ?_
         ·intro KK6
          refine tD [iB vbk (an ⟨N,K.enc,K.mac,⟨(rja,rjn,rjc)⟩,Cel.zero,(a1,N,c1),(a2,N,c2),(some ⟨g3,0,none⟩,tot N,c3)⟩) 85] [Sl cI (some ⟨g3,0,none⟩) (tot N) c3 s2] cD bu rfl ?_
          (repeat' ((try refine aw ?_);(conv=>arg 4;whnf);first | refine x8 ?_ | refine qJ ?_ | refine ng ?_ me | refine yH ?_ |(refine sN ?_;intro b)|(refine aa ?_;intro g c')|(refine aA (nW h1 (show N≤4096 by omega) (show l≤hgt N+1 by omega) (show j≤4096 by omega)) ?_;intro x hx;refine aH ?_)| refine af ?_ ?_ | fail));(all_goals refine av ?_)
          all_goals (
           rw [show ((num N l+j).mul 0).add (num N l+j)=num N l+j by show (num N l+j)*0+(num N l+j)=num N l+j;omega]
           (repeat' ((try refine aw ?_);(conv=>arg 4;whnf);first | refine x8 ?_ | refine qJ ?_ | refine ng ?_ me | refine yH ?_ |(refine sN ?_;intro b)|(refine aa ?_;intro g c')|(refine aA (Bj h1 (show N≤4096 by omega) hlt (show j≤4096 by omega) (hs21 (num N l+j))) ?_;intro x hx;refine aH ?_)|(refine cw hw4 ?_;intro x hx;refine bV ?_)| refine af ?_ ?_ | fail));(all_goals refine av ?_)
           exact d9 x True.intro cD bu)
         ·rintro ⟨⟨rma,rmn,rmc⟩,S6⟩ _
          dsimp only
          (conv=>arg 3;simp only [List.cons_append,List.nil_append])
          (repeat' ((try refine aw ?_);(conv=>arg 4;whnf);first | refine aO ?_ |(refine sN ?_;intro b)|(refine aa ?_;intro g c')| refine af ?_ ?_ | fail));(all_goals refine av ?_)
          refine eU (j+1,(rma,rmn,rmc),S6,eP T3 (bas N l+2*j+s2.getD (num N l+j) default) ⟨true,aM Y⟩ T3.length) ⟨hjt,(hT3.put (by dsimp only;omega)).mono (by omega),hD3.node hRc (by have:=pY N l;omega) (by omega), ?_⟩ ?_ (by dsimp only;omega) bu
          ·dsimp only
           rw [hY]
           exact hN3.put hlt hjt hs21 (by omega) (fun a b hq=>by omega)
          ·dsimp only
           ((repeat' (first | with_reducible exact ar _ | exact am _ | refine aE ?_ ?_ | refine aX ?_))<;>(try with_reducible rfl))
       ·have hne:¬l=hgt N:=fun e=>hdo (.inl e)
        have hem:bK RL l j=true:=by cases h:bK RL l j with | true=>rfl | false=>exact absurd (.inr h) hdo
        have hE:=tB (L:=RL) (a:=a2) (m:=N) (c:=c2) (l:=l) (j:=j) (by omega) (by omega)
        rw [hem] at hE
        (repeat' ((try refine aw ?_);(conv=>arg 4;whnf);first | refine aO ?_ |(refine sN ?_;intro b)|(refine aa ?_;intro g c')|((first | refine aA (iF h1 (show N≤4096 by omega) hlt) ?_ | refine aA hE ?_);intro x hx;refine aH ?_)| refine af ?_ ?_ | fail));(all_goals refine av ?_)
        refine eU (j+1,(rja,rjn,rjc),S3,T3) ⟨hjt,hT3.mono (by omega),hD3,fun a b h ha hb he=> ?_⟩ ?_ (by dsimp only;omega) bu
        ·dsimp only at h
         by_cases e:a=l∧b=j
         ·obtain ⟨rfl,rfl⟩:=e;exact absurd he hdo
         ·exact hN3 a b (by omega) ha hb he
        ·dsimp only
         ((repeat' (first | with_reducible exact ar _ | exact am _ | refine aE ?_ ?_ | refine aX ?_))<;>(try with_reducible rfl))
      ·obtain rfl:j=cnt N l:=by omega
       (repeat' ((try refine aw ?_);(conv=>arg 4;whnf);first | refine aO ?_ |(refine sN ?_;intro b)|(refine aa ?_;intro g c')|(refine aA (iF h1 (show N≤4096 by omega) hlt) ?_;intro x hx;refine aH ?_)| refine af ?_ ?_ | fail));(all_goals refine av ?_)
       exact d9 ((rja,rjn,rjc),S3,T3) ⟨hT3,hD3,fun a b h ha hb he=>hN3 a b (by
        rcases Nat.lt_succ_iff_lt_or_eq.1 h with g | rfl
        ·exact .inl g
        ·exact .inr ⟨rfl,hb⟩) ha hb he⟩ cD bu
     ·rintro ⟨⟨rka,rkn,rkc⟩,S4,T4⟩ ⟨hT4,hD4,hN4⟩
      dsimp only at hT4 hD4 hN4⊢
      (conv=>arg 3;simp only [List.cons_append,List.nil_append])
      (repeat' ((try refine aw ?_);(conv=>arg 4;whnf);first | refine aO ?_ |(refine sN ?_;intro b)|(refine aa ?_;intro g c')| refine af ?_ ?_ | fail));(all_goals refine av ?_)
      refine eU (l+1,(rka,rkn,rkc),S4,T4) ⟨by dsimp only;omega,hT4,hD4,hN4⟩ ?_ (by dsimp only;omega) bu
      dsimp only
      ((repeat' (first | with_reducible exact ar _ | exact am _ | refine aE ?_ ?_ | refine aX ?_))<;>(try with_reducible rfl))
    ·obtain rfl:l=hgt N+1:=by omega
     (repeat' ((try refine aw ?_);(conv=>arg 4;whnf);first | refine aO ?_ |(refine sN ?_;intro b)|(refine aa ?_;intro g c')| refine af ?_ ?_ | fail));(all_goals refine av ?_)
     exact d9 ((rfa,rfn,rfc),S2,T2) ⟨hT2.mono (by omega),hD2,fun a b _ ha hb he=>hN2 a b (by omega) ha hb he⟩ cD bu
   ·rintro ⟨⟨rla,rln,rlc⟩,S5,T5⟩ ⟨hT5,hD5,hN5⟩
    dsimp only at hT5 hD5 hN5⊢
    (conv=>arg 3;simp only [List.cons_append,List.nil_append])
    (repeat' ((try refine aw ?_);(conv=>arg 4;whnf);first | refine aO ?_ |(refine sN ?_;intro b)|(refine aa ?_;intro g c')| refine af ?_ ?_ | fail));(all_goals refine av ?_)
    have ii4:Nu 18446744073709551616 ((E.toNat:Nat):Int) E.toNat:=⟨rfl,by omega⟩
    have ii5:Nu 18446744073709551616 ((1000:Nat):Int) 1000:=⟨rfl,by decide⟩
    have hrt:=Jb (a:=a2) (m:=N) (c:=c2) (b:=some ⟨g3,0,none⟩) (m2:=tot N) (c2:=c3) hO
    obtain ⟨R,hRR⟩:∃R,R=cq RL s2:=⟨_,rfl⟩
    rw [←hRR] at hrt
    (first |(refine bh ?_;(conv=>arg 4;whnf);refine bc rfl ?_))
    (repeat' ((try refine aw ?_);(conv=>arg 4;whnf);first | refine aO ?_ |(refine sN ?_;intro b)|(refine aa ?_;intro g c')|(refine aA hrt ?_;intro x hx;refine aH ?_)| refine af ?_ ?_ | fail));(all_goals refine av ?_)
    exact aD (⟨N,K.enc,K.mac,⟨(rla,rln,rlc)⟩,⟨R,E.toNat,1000,by omega,by decide⟩,(a1,N,c1),(a2,N,c2),(some ⟨g3,0,none⟩,tot N,c3)⟩,S5,T5,RL,s2) ⟨h1,h2,hT5,hR,hO,hD5,hN5,hRR,hs2e.symm⟩ rfl (am _) bu
end
end Go.Proofs.YtbobhnldhpjdlaaGreatDoor
