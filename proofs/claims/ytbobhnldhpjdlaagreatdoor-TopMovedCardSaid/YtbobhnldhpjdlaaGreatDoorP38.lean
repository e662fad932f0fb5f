/- Lemmas and walks: what each function does, by its own code. No condition beyond those of each statement. -/
import Derived.Test.YtbobhnldhpjdlaaGreatDoorP29
import Derived.Test.YtbobhnldhpjdlaaGreatDoorP30
import Derived.Test.YtbobhnldhpjdlaaGreatDoorP36
set_option linter.all false
set_option linter.unusedVariables false
namespace Go.Proofs.YtbobhnldhpjdlaaGreatDoor
open Go Go.RowKit Go.Cs Go.Cz
set_option maxRecDepth 100000
set_option maxHeartbeats 4000000
section
variable {n tb to m c:Nat} {ts:List Un} {q:Value×Value} {xn:Non} {t:Dig}
theorem Fp (h:UOk n ts) {k:Nat} (hb:k<n):Zp Tryz.prog 250 [vA (a9 ⟨n,(some ⟨tb,to,none⟩,m,c)⟩),vI k,vA (cz xn),vA (aE t)] [] [Sl br (some ⟨tb,to,none⟩) m c ts,Gs q] Nat (fun _=>True) (fun z=> .tuple #[vA (a9 ⟨n,(some ⟨z,0,none⟩,ts.length,ts.length)⟩),vI (f5 (ts.getD (k/4) default) (k%4)),vI 0]) (fun z=> [iB z ((rA n ts k xn t).flatMap br) 264]) (fun _=> []):=by
 have h2:=h.h2
 have hln:=h.ln
 have htl:=cV h2
 have hb4:k/4<ts.length:=by
  rw [h.ln];have:=e7 (n:=n) (l:=0) (j:=k/4) (Nat.zero_le _) (by have:=gI n;unfold kc at*;omega);rw [show num n 0=0 from rfl] at this;omega
 have hw:k%4<4:=by omega
 have hG:=GoodT.of hln (oC h.nd)
 have hs:((ts.getD (k/4) default).nd.rs.l.getD (k%4) default).st≤2:=by
  have h0:=hG.pl 0 (k/4) (Nat.zero_le _) (by have:=gI n;unfold kc at*;omega)
  unfold eX at h0
  rw [show num n 0=0 from rfl,Nat.zero_add] at h0
  have h3:=bh.1 (gY h0.1 h0.2.1) (k%4) hw
  unfold cD at h3
  by_cases hg:2<((ts.getD (k/4) default).nd.rs.l.getD (k%4) default).st
  ·rw [if_pos (show 2<((ts.getD (k/4) Un.zero).nd.rs.get (k%4)).st from hg)] at h3;cases h3
  ·omega
 have htg:=lQ (ts.getD (k/4) default) (k%4)
 have i1:Nu 256 ((f5 (ts.getD (k/4) default) (k%4)+1:Nat):Int) (f5 (ts.getD (k/4) default) (k%4)+1):=⟨rfl,by omega⟩
 have h5:=bu n
 have hSl:=Slt.of hln (jY.2 h.sl)
 obtain ⟨T1,hT1⟩:∃T,T=ts.set (k/4) ((ts.getD (k/4) default).setR (k%4) (rW (ts.getD (k/4) default) (k%4) xn t)):=⟨_,rfl⟩
 obtain ⟨T2,hT2⟩:∃T,T=T1.set (k/4) ((T1.getD (k/4) default).setCh (k%4) true):=⟨_,rfl⟩
 obtain ⟨T3,hT3⟩:∃T,T=T2.set (k/4) ((T2.getD (k/4) default).setDt true):=⟨_,rfl⟩
 have hT:T3=set1 ts k xn t:=hT3.trans (Dh hb4 hT1 hT2)
 have l1:T1.length=ts.length:=by rw [hT1,List.length_set]
 have l2:T2.length=ts.length:=by rw [hT2,List.length_set,l1]
 have l3:T3.length=ts.length:=by rw [hT3,List.length_set,l2]
 have hG3:GoodT n T3:=hT▸hG.set1 hb
 have hS3:Slt n T3:=hT▸hSl.set1 hln hb
 have hU1:Ub (ts.flatMap br) (0+k/4*280+0+2+k%4*35) (cL ⟨f5 (ts.getD (k/4) default) (k%4)+1,xn,t,by omega⟩) (T1.flatMap br) True:=⟨fun _=>by
  rw [hT1]
  exact (inferInstance:Ub (ts.flatMap br) (0+k/4*280+0+2+k%4*35) (cL (rW (ts.getD (k/4) default) (k%4) xn t)) _ _).ub (by first | omega |(simp;omega))⟩
 have hU2:Ub (T1.flatMap br) (0+k/4*280+276+k%4*1) [.bool true] (T2.flatMap br) True:=⟨fun _=>by
  rw [hT2]
  exact (inferInstance:Ub (T1.flatMap br) (0+k/4*280+276+k%4*1) [.bool true] _ _).ub (by first | omega |(simp;omega))⟩
 have hU3:Ub (T2.flatMap br) (0+k/4*280+275) [.bool true] (T3.flatMap br) True:=⟨fun _=>by
  rw [hT3]
  exact (inferInstance:Ub (T2.flatMap br) (0+k/4*280+275) [.bool true] _ _).ub (by first | omega |(simp;omega))⟩
 clear hT1 hT2 hT3
 refine an fun G=> ?_
 refine bc 0 ?_
 intro hn hc hm ha
 subst hn
 (repeat' ((try refine au ?_);(conv=>arg 4;whnf);first | refine cp ?_ |(refine sN ?_;intro b)|(refine sC ?_ ?_<;>intro h)|(refine ar ?_ ?_<;>intro h<;>try contradiction)|(refine aa ?_;intro g c')|(refine dD (ue h hb) ?_;intro x hx;refine c9 ?_)|((first | refine ay (zg hw hs) ?_ | refine ay (y9 (n:=n) (tb:=tb) (to:=to) (m:=ts.length) (c:=c) (ts:=ts) (by omega)) ?_ | refine ay (vu htg) ?_);intro x hx;refine aN ?_)| refine ae ?_ | refine ai ?_ | exact aw |(refine ak rfl ?_;intro D lL)| refine ah ?_ ?_ | refine aj ?_ ?_ ?_ | fail));(all_goals refine av ?_)
 rename_i rl u0 lb rb hrb u1 u2
 revert b;intro xb
 obtain ⟨⟨a1,n1,c1⟩,a2,n2,c2⟩:=rl
 try dsimp only
 refine bc 0 ?_
 intro hn1 hc1 hm1 ha1
 rw [eg] at hn1
 subst hn1
 obtain ⟨b1,o1,rfl⟩:=ha1 (by omega) (by decide)
 refine bc 1 ?_
 intro hn2 hc2 hm2 ha2
 rw [c6] at hn2
 subst hn2
 obtain ⟨b2,o2,rfl⟩:=ha2 (by omega) (by decide)
 have hcl:=eg n (hgt n+1)
 have hnl:=c6 n (hgt n+1)
 refine dT ?_
 (conv=>arg 4;whnf)
 refine d5 rfl ?_
 (repeat' ((try refine au ?_);(conv=>arg 4;whnf);first | refine cp ?_ |(refine sN ?_;intro b)|(refine sC ?_ ?_<;>intro h)|(refine ar ?_ ?_<;>intro h<;>try contradiction)|(refine aa ?_;intro g c')| refine ae ?_ | refine ai ?_ | exact aw |(refine ak rfl ?_;intro D lL)| refine ah ?_ ?_ | refine aj ?_ ?_ ?_ | fail));(all_goals refine av ?_)
 rename_i sb yb vb
 revert b;intro ib
 refine c7 yb ?_
 have e0:eX n (eZ n k T3 (0-1)) (0-1) (idx k (0-1))=T3.getD (k/4) default:=by
  show T3.getD (num n 0+k/4) default=_
  rw [show num n 0=0 from rfl,Nat.zero_add]
 apply sq [vb,ib,sb,rb] (X:=Nat) (fun l=> []) (fun l=>l≤hgt n+1) (fun l=> [iB vb [vI l] 3,iB ib [vI (idx k l)] 3,iB sb (br (eX n (eZ n k T3 (l-1)) (l-1) (idx k (l-1)))) 264,iB rb ((eZ n k T3 (l-1)).flatMap br) 264]) (fun l=>hgt n+1-l) 0
 ·exact Nat.zero_le _
 ·rfl
 ·show Wk _ ([iB vb [vI 0] 3,iB ib [vI (k/4)] 3,iB sb (br (eX n (eZ n k T3 (0-1)) (0-1) (idx k (0-1)))) 264,iB rb (T3.flatMap br) 264]++_)
  rw [e0]
  ((repeat' (first | with_reducible exact am _ | exact af _ | refine aB ?_ ?_ | refine aD inferInstance ?_ | refine aI ?_))<;>(try with_reducible rfl))
  all_goals rfl
 ·intro K H l hl
  (conv=>arg 2;simp only [List.cons_append,List.nil_append])
  by_cases hl1:l<hgt n+1
  ·have hg2:(ed n (hgt n+1)).getD l default=num n l:=ff (by omega)
   have hg3:(ed n (hgt n+1)).getD ((l.mul 0).add l) default=num n l:=by
    rw [show (l.mul 0).add l=l from Nat.zero_add l];exact hg2
   have hix:=bC hb l
   have hpl:=eH (n:=n) (l:=l) (j:=idx k l) (by omega) hix
   obtain ⟨hGT,hST⟩:=rP (m:=l-1) hG3 hS3 hb (by omega)
   have hTl:(eZ n k T3 (l-1)).length=ts.length:=by rw [oV,l3]
   have hst:0<l→l7 n k (l-1) (eZ n k T3 (l-1))=eZ n k T3 (l+1-1):=fun h0=>zj h0
   have hst0:l=0→eZ n k T3 (l-1)=eZ n k T3 (l+1-1):=fun h0=>by subst h0;rfl
   have hyc:=(hGT.pl (l-1) (idx k (l-1)) (by omega) (bC hb _)).1
   have hys:=hST (l-1) (idx k (l-1)) (by omega) (bC hb _)
   generalize hTT:eZ n k T3 (l-1)=T at*
   generalize hyy:eX n T (l-1) (idx k (l-1))=y at*
   obtain ⟨T4,hT4⟩:∃A,A=T.set (num n l+idx k l) ((T.getD (num n l+idx k l) default).setE (y.nd.ix%4) (sA y)):=⟨_,rfl⟩
   obtain ⟨T5,hT5⟩:∃A,A=T4.set (num n l+idx k l) ((T4.getD (num n l+idx k l) default).setDt true):=⟨_,rfl⟩
   have l4:T4.length=ts.length:=by rw [hT4,List.length_set,hTl]
   have l5:T5.length=ts.length:=by rw [hT5,List.length_set,l4]
   have hst2:0<l→T5=eZ n k T3 (l+1-1):=fun h0=>by
    rw [←hst h0,hT5]
    exact GF h0 (by rw [hTl,hln];exact hpl) (by rw [hyy];exact hT4)
   have hV1:Ub (T.flatMap br) (0+(num n l+idx k l)*280+0+142+y.nd.ix%4*33) (dN (sA y)) (T4.flatMap br) True:=⟨fun _=>by
    rw [hT4]
    exact (inferInstance:Ub (T.flatMap br) (0+(num n l+idx k l)*280+0+142+y.nd.ix%4*33) (dN (sA y)) _ _).ub (by first | omega |(simp;omega))⟩
   have hV2:Ub (T4.flatMap br) (0+(num n l+idx k l)*280+275) [.bool true] (T5.flatMap br) True:=⟨fun _=>by
    rw [hT5]
    exact (inferInstance:Ub (T4.flatMap br) (0+(num n l+idx k l)*280+275) [.bool true] _ _).ub (by first | omega |(simp;omega))⟩
   have hE:=Ai (q:=q) hys hyc
   (repeat' ((try refine au ?_);(conv=>arg 4;whnf);first | refine cp ?_ |(refine sN ?_;intro b)|(refine sC ?_ ?_<;>intro h)|(refine ar ?_ ?_<;>intro h<;>try contradiction)|(refine aa ?_;intro g c')| refine ae ?_ | refine ai ?_ | exact aw |(refine ak rfl ?_;intro D lL)| refine ah ?_ ?_ | refine aj ?_ ?_ ?_ | fail));(all_goals refine av ?_)
   refine fy [sb,rb,D,lL] rfl ?_
   (repeat' ((try refine au ?_);(conv=>arg 4;whnf);first | refine cp ?_ |(refine sN ?_;intro b)|(refine sC ?_ ?_<;>intro h)|(refine ar ?_ ?_<;>intro h<;>try contradiction)|(refine aa ?_;intro g c')| refine ae ?_ | refine ai ?_ | exact aw |(refine ak rfl ?_;intro D lL)| refine ah ?_ ?_ | refine aj ?_ ?_ ?_ | fail));(all_goals refine av ?_)
   (conv=>arg 4;arg 5;ext C;whnf)
   refine bw ?_ (zy (by
    have h9:(ed n (hgt n+1)).getD ((l.mul 0).add l) default+idx k l≤9223372036854775807:=by rw [hg3];omega
    exact h9))
   rw [hg3]
   clear hg3 hg2
   (repeat' ((try refine au ?_);(conv=>arg 4;whnf);first | refine cp ?_ |(refine sN ?_;intro b)|(refine sC ?_ ?_<;>intro h)|(refine ar ?_ ?_<;>intro h<;>try contradiction)|(refine aa ?_;intro g c')| refine ae ?_ | refine ai ?_ | exact aw |(refine ak rfl ?_;intro D lL)| refine ah ?_ ?_ | refine aj ?_ ?_ ?_ | fail));(all_goals refine av ?_)
   ·refine dT ?_
    (conv=>arg 4;whnf)
    refine d5 rfl ?_
    (repeat' ((try refine au ?_);(conv=>arg 4;whnf);first | refine cp ?_ |(refine sN ?_;intro b)|(refine sC ?_ ?_<;>intro h)|(refine ar ?_ ?_<;>intro h<;>try contradiction)|(refine aa ?_;intro g c')|(refine ay hE ?_;intro x hx;refine aN ?_)| refine ae ?_ | refine ai ?_ | exact aw |(refine ak rfl ?_;intro D lL)| refine ah ?_ ?_ | refine aj ?_ ?_ ?_ | fail));(all_goals refine av ?_)
    refine z9 rfl ?_
    (repeat' ((try refine au ?_);(conv=>arg 4;whnf);first | refine ax ?_ |(refine sN ?_;intro b)|(refine sC ?_ ?_<;>intro h)|(refine ar ?_ ?_<;>intro h<;>try contradiction)|(refine aa ?_;intro g c')| refine ae ?_ | refine ai ?_ | exact aw |(refine ak rfl ?_;intro D lL)| refine ah ?_ ?_ | refine aj ?_ ?_ ?_ | fail));(all_goals refine av ?_)
    all_goals (
     have h0:0<l:=by omega
     refine bj (l+1) rfl (by omega) ?_ (by omega)
     show Wk _ ([iB vb [vI (l+1)] 3,iB ib [vI (idx k l/4)] 3,iB sb (br ((eZ n k T3 (l+1-1)).getD (num n l+idx k l) default)) 264,iB rb ((eZ n k T3 (l+1-1)).flatMap br) 264]++_)
     rw [←hst2 h0]
     ((repeat' (first | with_reducible exact am _ | exact af _ | refine aB ?_ ?_ | refine aD inferInstance ?_ | refine aI ?_))<;>(try with_reducible rfl)))
   ·refine z9 rfl ?_
    (repeat' ((try refine au ?_);(conv=>arg 4;whnf);first | refine ax ?_ |(refine sN ?_;intro b)|(refine sC ?_ ?_<;>intro h)|(refine ar ?_ ?_<;>intro h<;>try contradiction)|(refine aa ?_;intro g c')| refine ae ?_ | refine ai ?_ | exact aw |(refine ak rfl ?_;intro D lL)| refine ah ?_ ?_ | refine aj ?_ ?_ ?_ | fail));(all_goals refine av ?_)
    all_goals (
     have h0:l=0:=by omega
     refine bj (l+1) rfl (by omega) ?_ (by omega)
     show Wk _ ([iB vb [vI (l+1)] 3,iB ib [vI (idx k l/4)] 3,iB sb (br ((eZ n k T3 (l+1-1)).getD (num n l+idx k l) default)) 264,iB rb ((eZ n k T3 (l+1-1)).flatMap br) 264]++_)
     rw [←hst0 h0]
     ((repeat' (first | with_reducible exact am _ | exact af _ | refine aB ?_ ?_ | refine aD inferInstance ?_ | refine aI ?_))<;>(try with_reducible rfl)))
  ·obtain rfl:l=hgt n+1:=by omega
   (repeat' ((try refine au ?_);(conv=>arg 4;whnf);first | refine ax ?_ |(refine sN ?_;intro b)|(refine sC ?_ ?_<;>intro h)|(refine ar ?_ ?_<;>intro h<;>try contradiction)|(refine aa ?_;intro g c')| refine ae ?_ | refine ai ?_ | exact aw |(refine ak rfl ?_;intro D lL)| refine ah ?_ ?_ | refine aj ?_ ?_ ?_ | fail));(all_goals refine av ?_)
   exact H.go
 ·(repeat' ((try refine au ?_);(conv=>arg 4;whnf);first | refine ax ?_ |(refine sN ?_;intro b)|(refine sC ?_ ?_<;>intro h)|(refine ar ?_ ?_<;>intro h<;>try contradiction)|(refine aa ?_;intro g c')| refine ae ?_ | refine ai ?_ | exact aw |(refine ak rfl ?_;intro D lL)| refine ah ?_ ?_ | refine aj ?_ ?_ ?_ | fail));(all_goals refine av ?_)
  rw [show rA n ts k xn t=eZ n k T3 (hgt n+1-1) from by rw [hT];rfl]
  exact aG rb True.intro rfl eG cR
end
end Go.Proofs.YtbobhnldhpjdlaaGreatDoor
