/- Lemmas and walks: what each function does, by its own code. No condition beyond those of each statement. -/
import Derived.Test.YtbobhnldhpjdlaaGreatDoorP11
import Derived.Test.YtbobhnldhpjdlaaGreatDoorP15
import Derived.Test.YtbobhnldhpjdlaaGreatDoorP22
import Derived.Test.YtbobhnldhpjdlaaGreatDoorP26
import Derived.Test.YtbobhnldhpjdlaaGreatDoorP32
import Derived.Test.YtbobhnldhpjdlaaGreatDoorP33
set_option linter.all false
set_option linter.unusedVariables false
namespace Go.Proofs.YtbobhnldhpjdlaaGreatDoor
open Go Go.RowKit Go.Cs Go.Cz
set_option maxRecDepth 100000
set_option maxHeartbeats 4000000
section
variable {n tb to m c:Nat} {ts:List Un} {q:Value×Value} {xn:Non} {t:Dig}
theorem FK (h:UOk n ts) {k:Nat} (hb:k<n):Zp Tryz.prog 250 [vA (aV ⟨n,(some ⟨tb,to,none⟩,m,c)⟩),vI k,vA (br xn),vA (ay t)] [] [Sl a7 (some ⟨tb,to,none⟩) m c ts,Gs q] Nat (fun _=>True) (fun z=> .tuple #[vA (aV ⟨n,(some ⟨z,0,none⟩,ts.length,ts.length)⟩),vI (fM (ts.getD (k/4) default) (k%4)),vI 0]) (fun z=> [iB z ((qL n ts k xn t).flatMap a7) 264]) (fun _=> []):=by
 have h2:=h.h2
 have hln:=h.ln
 have htl:=b9 h2
 have hb4:k/4<ts.length:=by
  rw [h.ln];have:=d7 (n:=n) (l:=0) (j:=k/4) (Nat.zero_le _) (by have:=gm n;unfold jR at*;omega);rw [show num n 0=0 from rfl] at this;omega
 have hw:k%4<4:=by omega
 have hG:=GoodT.of hln (oc h.nd)
 have hs:((ts.getD (k/4) default).nd.rs.l.getD (k%4) default).st≤2:=by
  have h0:=hG.pl 0 (k/4) (Nat.zero_le _) (by have:=gm n;unfold jR at*;omega)
  unfold d6 at h0
  rw [show num n 0=0 from rfl,Nat.zero_add] at h0
  have h3:=aZ.1 (gA h0.1 h0.2.1) (k%4) hw
  unfold bS at h3
  by_cases hg:2<((ts.getD (k/4) default).nd.rs.l.getD (k%4) default).st
  ·rw [if_pos (show 2<((ts.getD (k/4) Un.zero).nd.rs.get (k%4)).st from hg)] at h3;cases h3
  ·omega
 have htg:=lj (ts.getD (k/4) default) (k%4)
 have i1:Nu 256 ((fM (ts.getD (k/4) default) (k%4)+1:Nat):Int) (fM (ts.getD (k/4) default) (k%4)+1):=⟨rfl,by omega⟩
 have h5:=a8 n
 have hSl:=Slt.of hln (jw.2 h.sl)
 obtain ⟨T1,hT1⟩:∃T,T=ts.set (k/4) ((ts.getD (k/4) default).setR (k%4) (rm (ts.getD (k/4) default) (k%4) xn t)):=⟨_,rfl⟩
 obtain ⟨T2,hT2⟩:∃T,T=T1.set (k/4) ((T1.getD (k/4) default).setCh (k%4) true):=⟨_,rfl⟩
 obtain ⟨T3,hT3⟩:∃T,T=T2.set (k/4) ((T2.getD (k/4) default).setDt true):=⟨_,rfl⟩
 have hT:T3=set1 ts k xn t:=hT3.trans (C0 hb4 hT1 hT2)
 have l1:T1.length=ts.length:=by rw [hT1,List.length_set]
 have l2:T2.length=ts.length:=by rw [hT2,List.length_set,l1]
 have l3:T3.length=ts.length:=by rw [hT3,List.length_set,l2]
 have hG3:GoodT n T3:=hT▸hG.set1 hb
 have hS3:Slt n T3:=hT▸hSl.set1 hln hb
 have hU1:Ub (ts.flatMap a7) (0+k/4*280+0+2+k%4*35) (bY ⟨fM (ts.getD (k/4) default) (k%4)+1,xn,t,by omega⟩) (T1.flatMap a7) True:=⟨fun _=>by
  rw [hT1]
  exact (inferInstance:Ub (ts.flatMap a7) (0+k/4*280+0+2+k%4*35) (bY (rm (ts.getD (k/4) default) (k%4) xn t)) _ _).ub (by first | omega |(simp;omega))⟩
 have hU2:Ub (T1.flatMap a7) (0+k/4*280+276+k%4*1) [.bool true] (T2.flatMap a7) True:=⟨fun _=>by
  rw [hT2]
  exact (inferInstance:Ub (T1.flatMap a7) (0+k/4*280+276+k%4*1) [.bool true] _ _).ub (by first | omega |(simp;omega))⟩
 have hU3:Ub (T2.flatMap a7) (0+k/4*280+275) [.bool true] (T3.flatMap a7) True:=⟨fun _=>by
  rw [hT3]
  exact (inferInstance:Ub (T2.flatMap a7) (0+k/4*280+275) [.bool true] _ _).ub (by first | omega |(simp;omega))⟩
 clear hT1 hT2 hT3
 refine ak fun G=> ?_
 refine aS 0 ?_
 intro hn hc hm ha
 subst hn
 (repeat' ((try refine aw ?_);(conv=>arg 4;whnf);first | refine aO ?_ |(refine sN ?_;intro b)|(refine sC ?_ ?_<;>intro h)|(refine au ?_ ?_<;>intro h<;>try contradiction)|(refine aa ?_;intro g c')|(refine cw (ug h hb) ?_;intro x hx;refine bV ?_)|((first | refine aA (y7 hw hs) ?_ | refine aA (AB (n:=n) (tb:=tb) (to:=to) (m:=ts.length) (c:=c) (ts:=ts) (by omega)) ?_ | refine aA (vN htg) ?_);intro x hx;refine aH ?_)| refine ae ?_ | refine ai ?_ | exact ax |(refine aj rfl ?_;intro D lL)| refine af ?_ ?_ | refine ah ?_ ?_ ?_ | fail));(all_goals refine av ?_)
 rename_i rl u0 lb rb hrb u1 u2
 revert b;intro xb
 obtain ⟨⟨a1,n1,c1⟩,a2,n2,c2⟩:=rl
 try dsimp only
 refine aS 0 ?_
 intro hn1 hc1 hm1 ha1
 rw [dA] at hn1
 subst hn1
 obtain ⟨b1,o1,rfl⟩:=ha1 (by omega) (by decide)
 refine aS 1 ?_
 intro hn2 hc2 hm2 ha2
 rw [cj] at hn2
 subst hn2
 obtain ⟨b2,o2,rfl⟩:=ha2 (by omega) (by decide)
 have hcl:=dA n (hgt n+1)
 have hnl:=cj n (hgt n+1)
 refine bh ?_
 (conv=>arg 4;whnf)
 refine bc rfl ?_
 (repeat' ((try refine aw ?_);(conv=>arg 4;whnf);first | refine aO ?_ |(refine sN ?_;intro b)|(refine sC ?_ ?_<;>intro h)|(refine au ?_ ?_<;>intro h<;>try contradiction)|(refine aa ?_;intro g c')| refine ae ?_ | refine ai ?_ | exact ax |(refine aj rfl ?_;intro D lL)| refine af ?_ ?_ | refine ah ?_ ?_ ?_ | fail));(all_goals refine av ?_)
 rename_i sb yb vb
 revert b;intro ib
 refine bG yb ?_
 have e0:d6 n (d8 n k T3 (0-1)) (0-1) (idx k (0-1))=T3.getD (k/4) default:=by
  show T3.getD (num n 0+k/4) default=_
  rw [show num n 0=0 from rfl,Nat.zero_add]
 apply q4 [vb,ib,sb,rb] (X:=Nat) (fun l=> []) (fun l=>l≤hgt n+1) (fun l=> [iB vb [vI l] 3,iB ib [vI (idx k l)] 3,iB sb (a7 (d6 n (d8 n k T3 (l-1)) (l-1) (idx k (l-1)))) 264,iB rb ((d8 n k T3 (l-1)).flatMap a7) 264]) (fun l=>hgt n+1-l) 0
 ·exact Nat.zero_le _
 ·rfl
 ·show Wk _ ([iB vb [vI 0] 3,iB ib [vI (k/4)] 3,iB sb (a7 (d6 n (d8 n k T3 (0-1)) (0-1) (idx k (0-1)))) 264,iB rb (T3.flatMap a7) 264]++_)
  rw [e0]
  ((repeat' (first | with_reducible exact ar _ | exact am _ | refine aE ?_ ?_ | refine aG inferInstance ?_ | refine aX ?_))<;>(try with_reducible rfl))
  all_goals rfl
 ·intro K H l hl
  (conv=>arg 2;simp only [List.cons_append,List.nil_append])
  by_cases hl1:l<hgt n+1
  ·have hg2:(dC n (hgt n+1)).getD l default=num n l:=er (by omega)
   have hg3:(dC n (hgt n+1)).getD ((l.mul 0).add l) default=num n l:=by
    rw [show (l.mul 0).add l=l from Nat.zero_add l];exact hg2
   have hix:=bm hb l
   have hpl:=dV (n:=n) (l:=l) (j:=idx k l) (by omega) hix
   obtain ⟨hGT,hST⟩:=rI (m:=l-1) hG3 hS3 hb (by omega)
   have hTl:(d8 n k T3 (l-1)).length=ts.length:=by rw [oQ,l3]
   have hst:0<l→lV n k (l-1) (d8 n k T3 (l-1))=d8 n k T3 (l+1-1):=fun h0=>zF h0
   have hst0:l=0→d8 n k T3 (l-1)=d8 n k T3 (l+1-1):=fun h0=>by subst h0;rfl
   have hyc:=(hGT.pl (l-1) (idx k (l-1)) (by omega) (bm hb _)).1
   have hys:=hST (l-1) (idx k (l-1)) (by omega) (bm hb _)
   generalize hTT:d8 n k T3 (l-1)=T at*
   generalize hyy:d6 n T (l-1) (idx k (l-1))=y at*
   obtain ⟨T4,hT4⟩:∃A,A=T.set (num n l+idx k l) ((T.getD (num n l+idx k l) default).setE (y.nd.ix%4) (rX y)):=⟨_,rfl⟩
   obtain ⟨T5,hT5⟩:∃A,A=T4.set (num n l+idx k l) ((T4.getD (num n l+idx k l) default).setDt true):=⟨_,rfl⟩
   have l4:T4.length=ts.length:=by rw [hT4,List.length_set,hTl]
   have l5:T5.length=ts.length:=by rw [hT5,List.length_set,l4]
   have hst2:0<l→T5=d8 n k T3 (l+1-1):=fun h0=>by
    rw [←hst h0,hT5]
    exact GG h0 (by rw [hTl,hln];exact hpl) (by rw [hyy];exact hT4)
   have hV1:Ub (T.flatMap a7) (0+(num n l+idx k l)*280+0+142+y.nd.ix%4*33) (c6 (rX y)) (T4.flatMap a7) True:=⟨fun _=>by
    rw [hT4]
    exact (inferInstance:Ub (T.flatMap a7) (0+(num n l+idx k l)*280+0+142+y.nd.ix%4*33) (c6 (rX y)) _ _).ub (by first | omega |(simp;omega))⟩
   have hV2:Ub (T4.flatMap a7) (0+(num n l+idx k l)*280+275) [.bool true] (T5.flatMap a7) True:=⟨fun _=>by
    rw [hT5]
    exact (inferInstance:Ub (T4.flatMap a7) (0+(num n l+idx k l)*280+275) [.bool true] _ _).ub (by first | omega |(simp;omega))⟩
   have hE:=zf (q:=q) hys hyc
   (repeat' ((try refine aw ?_);(conv=>arg 4;whnf);first | refine aO ?_ |(refine sN ?_;intro b)|(refine sC ?_ ?_<;>intro h)|(refine au ?_ ?_<;>intro h<;>try contradiction)|(refine aa ?_;intro g c')| refine ae ?_ | refine ai ?_ | exact ax |(refine aj rfl ?_;intro D lL)| refine af ?_ ?_ | refine ah ?_ ?_ ?_ | fail));(all_goals refine av ?_)
   refine dH [sb,rb,D,lL] rfl ?_
   (repeat' ((try refine aw ?_);(conv=>arg 4;whnf);first | refine aO ?_ |(refine sN ?_;intro b)|(refine sC ?_ ?_<;>intro h)|(refine au ?_ ?_<;>intro h<;>try contradiction)|(refine aa ?_;intro g c')| refine ae ?_ | refine ai ?_ | exact ax |(refine aj rfl ?_;intro D lL)| refine af ?_ ?_ | refine ah ?_ ?_ ?_ | fail));(all_goals refine av ?_)
   (conv=>arg 4;arg 5;ext C;whnf)
   refine cR ?_ (BS (by
    have h9:(dC n (hgt n+1)).getD ((l.mul 0).add l) default+idx k l≤9223372036854775807:=by rw [hg3];omega
    exact h9))
   rw [hg3]
   clear hg3 hg2
   (repeat' ((try refine aw ?_);(conv=>arg 4;whnf);first | refine aO ?_ |(refine sN ?_;intro b)|(refine sC ?_ ?_<;>intro h)|(refine au ?_ ?_<;>intro h<;>try contradiction)|(refine aa ?_;intro g c')| refine ae ?_ | refine ai ?_ | exact ax |(refine aj rfl ?_;intro D lL)| refine af ?_ ?_ | refine ah ?_ ?_ ?_ | fail));(all_goals refine av ?_)
   ·refine bh ?_
    (conv=>arg 4;whnf)
    refine bc rfl ?_
    (repeat' ((try refine aw ?_);(conv=>arg 4;whnf);first | refine aO ?_ |(refine sN ?_;intro b)|(refine sC ?_ ?_<;>intro h)|(refine au ?_ ?_<;>intro h<;>try contradiction)|(refine aa ?_;intro g c')|(refine aA hE ?_;intro x hx;refine aH ?_)| refine ae ?_ | refine ai ?_ | exact ax |(refine aj rfl ?_;intro D lL)| refine af ?_ ?_ | refine ah ?_ ?_ ?_ | fail));(all_goals refine av ?_)
    refine uy rfl ?_
    (repeat' ((try refine aw ?_);(conv=>arg 4;whnf);first | refine az ?_ |(refine sN ?_;intro b)|(refine sC ?_ ?_<;>intro h)|(refine au ?_ ?_<;>intro h<;>try contradiction)|(refine aa ?_;intro g c')| refine ae ?_ | refine ai ?_ | exact ax |(refine aj rfl ?_;intro D lL)| refine af ?_ ?_ | refine ah ?_ ?_ ?_ | fail));(all_goals refine av ?_)
    all_goals (
     have h0:0<l:=by omega
     refine a5 (l+1) rfl (by omega) ?_ (by omega)
     show Wk _ ([iB vb [vI (l+1)] 3,iB ib [vI (idx k l/4)] 3,iB sb (a7 ((d8 n k T3 (l+1-1)).getD (num n l+idx k l) default)) 264,iB rb ((d8 n k T3 (l+1-1)).flatMap a7) 264]++_)
     rw [←hst2 h0]
     ((repeat' (first | with_reducible exact ar _ | exact am _ | refine aE ?_ ?_ | refine aG inferInstance ?_ | refine aX ?_))<;>(try with_reducible rfl)))
   ·refine uy rfl ?_
    (repeat' ((try refine aw ?_);(conv=>arg 4;whnf);first | refine az ?_ |(refine sN ?_;intro b)|(refine sC ?_ ?_<;>intro h)|(refine au ?_ ?_<;>intro h<;>try contradiction)|(refine aa ?_;intro g c')| refine ae ?_ | refine ai ?_ | exact ax |(refine aj rfl ?_;intro D lL)| refine af ?_ ?_ | refine ah ?_ ?_ ?_ | fail));(all_goals refine av ?_)
    all_goals (
     have h0:l=0:=by omega
     refine a5 (l+1) rfl (by omega) ?_ (by omega)
     show Wk _ ([iB vb [vI (l+1)] 3,iB ib [vI (idx k l/4)] 3,iB sb (a7 ((d8 n k T3 (l+1-1)).getD (num n l+idx k l) default)) 264,iB rb ((d8 n k T3 (l+1-1)).flatMap a7) 264]++_)
     rw [←hst0 h0]
     ((repeat' (first | with_reducible exact ar _ | exact am _ | refine aE ?_ ?_ | refine aG inferInstance ?_ | refine aX ?_))<;>(try with_reducible rfl)))
  ·obtain rfl:l=hgt n+1:=by omega
   (repeat' ((try refine aw ?_);(conv=>arg 4;whnf);first | refine az ?_ |(refine sN ?_;intro b)|(refine sC ?_ ?_<;>intro h)|(refine au ?_ ?_<;>intro h<;>try contradiction)|(refine aa ?_;intro g c')| refine ae ?_ | refine ai ?_ | exact ax |(refine aj rfl ?_;intro D lL)| refine af ?_ ?_ | refine ah ?_ ?_ ?_ | fail));(all_goals refine av ?_)
   exact H.go
 ·(repeat' ((try refine aw ?_);(conv=>arg 4;whnf);first | refine az ?_ |(refine sN ?_;intro b)|(refine sC ?_ ?_<;>intro h)|(refine au ?_ ?_<;>intro h<;>try contradiction)|(refine aa ?_;intro g c')| refine ae ?_ | refine ai ?_ | exact ax |(refine aj rfl ?_;intro D lL)| refine af ?_ ?_ | refine ah ?_ ?_ ?_ | fail));(all_goals refine av ?_)
  rw [show qL n ts k xn t=d8 n k T3 (hgt n+1-1) from by rw [hT];rfl]
  exact aD rb True.intro rfl cD bu
end
end Go.Proofs.YtbobhnldhpjdlaaGreatDoor
namespace Go.Proofs.YtbobhnldhpjdlaaGreatDoor
open Go Go.RowKit Go.Cs Go.Cz
set_option maxRecDepth 100000
set_option maxHeartbeats 4000000
section
variable {n tb to m c:Nat} {ts:List Un} {q:Value×Value}
theorem tf (h:UOk n ts) {k:Nat} (hb:k<n):Zp Tryz.prog 86 [vA (aV ⟨n,(some ⟨tb,to,none⟩,m,c)⟩),vI k] [] [Sl a7 (some ⟨tb,to,none⟩) m c ts,Gs q] Unit (fun _=>True) (fun x=> .tuple #[vA (bY ((ts.getD (k/4) default).nd.rs.l.getD (k%4) default)),vI 0]) (fun _=> []) (fun x=> []):=by
 have hb4:k/4<ts.length:=by
  rw [h.ln];have:=d7 (n:=n) (l:=0) (j:=k/4) (Nat.zero_le _) (by have:=gm n;unfold jR at*;omega);rw [show num n 0=0 from rfl] at this;omega
 have hw:k%4<4:=by omega
 have h2:=h.h2
 refine ak fun G=> ?_
 refine aS 0 ?_
 intro hn hc hm ha
 subst hn
 (repeat' ((try refine aw ?_);(conv=>arg 4;whnf);first | refine az ?_ |(refine sN ?_;intro b)|(refine sC ?_ ?_<;>intro h)|(refine au ?_ ?_<;>intro h<;>try contradiction)|(refine aa ?_;intro g c')|(refine aA (ug h hb) ?_;intro x hx;refine aH ?_)| refine ae ?_ | refine ai ?_ | exact ax |(refine aj rfl ?_;intro D lL)| refine af ?_ ?_ | refine ah ?_ ?_ ?_ | fail));(all_goals refine av ?_)
theorem GZ (h:UOk n ts):Zp Tryz.prog 211 [vA (aV ⟨n,(some ⟨tb,to,none⟩,m,c)⟩)] [] [Sl a7 (some ⟨tb,to,none⟩) m c ts,Gs q] Unit (fun _=>True) (fun x=> .tuple #[vA (ay (bI (aM (ts.getD (ts.length-1) default).nd))),vI 0]) (fun _=> []) (fun x=> []):=by
 have h1:=h.h1
 have h2:=h.h2
 have htl:=b9 h2
 have hln:=h.ln
 have hch:=eg h1 h2
 have hnd:=(cA (fR (h.nd (hgt n) 0 (Nat.le_refl _) (by omega))).1.2.2).1
 have hlast:num n (hgt n)+0=ts.length-1:=by rw [hln,tot,show num n (hgt n+1)=num n (hgt n)+cnt n (hgt n) from rfl,hch];omega
 have hpos:0<ts.length:=by have:=d7 (n:=n) (l:=hgt n) (j:=0) (Nat.le_refl _) (by omega);omega
 unfold d6 at hnd
 rw [hlast] at hnd
 change bA (ts.getD (ts.length-1) default).nd=0 at hnd
 refine ak fun G=> ?_
 refine aS 0 ?_
 intro hn hc hm ha
 subst hn
 (repeat' ((try refine aw ?_);(conv=>arg 4;whnf);first | refine az ?_ |(refine sN ?_;intro b)|(refine sC ?_ ?_<;>intro h)|(refine au ?_ ?_<;>intro h<;>try contradiction)|(refine aa ?_;intro g c')|((first | refine aA (sE h) ?_ | refine aA (jB (q:=q) hnd) ?_);intro x hx;refine aH ?_)| refine ae ?_ | refine ai ?_ | exact ax |(refine aj rfl ?_;intro D lL)| refine af ?_ ?_ | refine ah ?_ ?_ ?_ | fail));(all_goals refine av ?_)
theorem G7 (h:UOk n ts):Zp Tryz.prog 125 [vA (aV ⟨n,(some ⟨tb,to,none⟩,m,c)⟩)] [] [Sl a7 (some ⟨tb,to,none⟩) m c ts,Gs q] Nat (fun _=>True) (fun x=> .tuple #[vA (aV ⟨n,(some ⟨x,0,none⟩,ts.length,ts.length)⟩),vI 0]) (fun x=> [iB x ((AD ts.length ts).flatMap a7) 264]) (fun x=> []):=by
 have h2:=h.h2
 have htl:=b9 h2
 have hln:=h.ln
 refine ak fun G=> ?_
 refine aS 0 ?_
 intro hn hc hm ha
 subst hn
 (repeat' ((try refine aw ?_);(conv=>arg 4;whnf);first | refine az ?_ |(refine sN ?_;intro b)|(refine sC ?_ ?_<;>intro h)|(refine au ?_ ?_<;>intro h<;>try contradiction)|(refine aa ?_;intro g c')|((first | refine aA (sE h) ?_ | refine aA (AB (n:=n) (tb:=tb) (to:=to) (m:=ts.length) (c:=c) (ts:=ts) (by omega)) ?_);intro x hx;refine aH ?_)| refine ae ?_ | refine ai ?_ | exact ax |(refine aj rfl ?_;intro D lL)| refine af ?_ ?_ | refine ah ?_ ?_ ?_ | fail));(all_goals refine av ?_)
 obtain ⟨rb,rfl⟩:∃r,r=x:=⟨x,rfl⟩
 have hu0:eo ts.length (lA ts.length ts) (fun i=>ts.getD i Un.zero) 0=ts:=yI Un.zero rfl
 have e0:ts.flatMap a7=(eo ts.length (lA ts.length ts) (fun i=>ts.getD i Un.zero) 0).flatMap a7:=by rw [hu0]
 refine dh [rb] (X:=Nat) (fun k=> [(20,vI k)]) (fun k=>k≤ts.length) (fun k=> [iB rb ((eo ts.length (lA ts.length ts) (fun i=>ts.getD i Un.zero) k).flatMap a7) 264]) (fun k=>ts.length-k) 0 (Nat.zero_le _) rfl (by rw [hu0];((repeat' (first | with_reducible exact ar _ | exact am _ | refine aE ?_ ?_ | refine aG inferInstance ?_ | refine aX ?_))<;>(try with_reducible rfl))) ?_
 intro k hk
 (conv=>arg 2;simp only [List.cons_append,List.nil_append])
 by_cases hlt:k<ts.length
 ·have hy:(eo ts.length (lA ts.length ts) (fun i=>ts.getD i Un.zero) k).getD k default=ts.getD k default:=y8 _ hlt (Nat.le_refl _)
  have hUl:(eo ts.length (lA ts.length ts) (fun i=>ts.getD i Un.zero) k).length=ts.length:=rS
  have hset:=qZ (f:=lA ts.length ts) (g:=fun i=>ts.getD i Un.zero) hlt
  have hs:(ts.getD k default).sl=0∨(ts.getD k default).sl=1:=h.sl k hlt
  have hpe:lA ts.length ts k=⟨(ts.getD k default).nd,if k=ts.length-1 then 1-(ts.getD k default).sl else kB (ts.getD k default),false,List.replicate 4 false,rfl⟩:=rfl
  rw [hpe,←hy] at hset
  rw [←hy] at hs
  generalize hU:eo ts.length (lA ts.length ts) (fun i=>ts.getD i Un.zero) k=U at*
  by_cases hlast:k=ts.length-1
  ·rw [if_pos hlast] at hset
   rcases hs with hs0 | hs0
   ·have hS:Sb (a7 (U.getD k default)) 274 [.int .i64 ((0:Nat):Int)] True:=⟨fun _=>by have:=(inferInstance:Sb (a7 (U.getD k default)) 274 [.int .i64 (U.getD k default).sl] True).sb True.intro;rwa [hs0] at this⟩
    (repeat' ((try refine aw ?_);(conv=>arg 4;whnf);first | refine az ?_ |(refine sN ?_;intro b)|(refine sC ?_ ?_<;>intro h)|(refine au ?_ ?_<;>intro h<;>try contradiction)|(refine aa ?_;intro g c')|(refine aA (pW (.inl hs0)) ?_;intro x hx;refine aH ?_)| refine ae ?_ | refine ai ?_ | exact ax |(refine aj rfl ?_;intro D lL)| refine af ?_ ?_ | refine ah ?_ ?_ ?_ | fail));(all_goals refine av ?_)
    refine a5 (k+1) rfl hlt ?_ (by omega)
    rw [←hset,hs0]
    ((repeat' (first | with_reducible exact ar _ | exact am _ | refine aE ?_ ?_ | refine aG inferInstance ?_ | refine aX ?_))<;>(try with_reducible rfl))
    all_goals rfl
   ·have hS:Sb (a7 (U.getD k default)) 274 [.int .i64 ((1:Nat):Int)] True:=⟨fun _=>by have:=(inferInstance:Sb (a7 (U.getD k default)) 274 [.int .i64 (U.getD k default).sl] True).sb True.intro;rwa [hs0] at this⟩
    (repeat' ((try refine aw ?_);(conv=>arg 4;whnf);first | refine az ?_ |(refine sN ?_;intro b)|(refine sC ?_ ?_<;>intro h)|(refine au ?_ ?_<;>intro h<;>try contradiction)|(refine aa ?_;intro g c')|(refine aA (pW (.inr hs0)) ?_;intro x hx;refine aH ?_)| refine ae ?_ | refine ai ?_ | exact ax |(refine aj rfl ?_;intro D lL)| refine af ?_ ?_ | refine ah ?_ ?_ ?_ | fail));(all_goals refine av ?_)
    refine a5 (k+1) rfl hlt ?_ (by omega)
    rw [←hset,hs0]
    ((repeat' (first | with_reducible exact ar _ | exact am _ | refine aE ?_ ?_ | refine aG inferInstance ?_ | refine aX ?_))<;>(try with_reducible rfl))
    all_goals rfl
  ·rw [if_neg hlast] at hset
   (repeat' ((try refine aw ?_);(conv=>arg 4;whnf);first | refine az ?_ |(refine sN ?_;intro b)|(refine sC ?_ ?_<;>intro h)|(refine au ?_ ?_<;>intro h<;>try contradiction)|(refine aa ?_;intro g c')|(refine aA (pW hs) ?_;intro x hx;refine aH ?_)| refine ae ?_ | refine ai ?_ | exact ax |(refine aj rfl ?_;intro D lL)| refine af ?_ ?_ | refine ah ?_ ?_ ?_ | fail));(all_goals refine av ?_)
   refine a5 (k+1) rfl hlt ?_ (by omega)
   rw [←hset]
   ((repeat' (first | with_reducible exact ar _ | exact am _ | refine aE ?_ ?_ | refine aG inferInstance ?_ | refine aX ?_))<;>(try with_reducible rfl))
   all_goals rfl
 ·obtain rfl:k=ts.length:=by omega
  (repeat' ((try refine aw ?_);(conv=>arg 4;whnf);first | refine az ?_ |(refine sN ?_;intro b)|(refine sC ?_ ?_<;>intro h)|(refine au ?_ ?_<;>intro h<;>try contradiction)|(refine aa ?_;intro g c')| refine ae ?_ | refine ai ?_ | exact ax |(refine aj rfl ?_;intro D lL)| refine af ?_ ?_ | refine ah ?_ ?_ ?_ | fail));(all_goals refine av ?_)
  rw [n6]
  refine aD rb True.intro rfl ?_ bu
  show Wk _ [iB rb (((List.range ts.length).map (lA ts.length ts)).flatMap a7) 264]
  ((repeat' (first | with_reducible exact ar _ | exact am _ | refine aE ?_ ?_ | refine aG inferInstance ?_ | refine aX ?_))<;>(try with_reducible rfl))
end
end Go.Proofs.YtbobhnldhpjdlaaGreatDoor
namespace Go.Proofs.YtbobhnldhpjdlaaGreatDoor
open Go Go.RowKit Go.Cs Go.Cz
set_option maxRecDepth 100000
set_option maxHeartbeats 4000000
section
variable {n tb to m c:Nat} {ts:List Un} {q:Value×Value}
theorem UOk.st2 (h:UOk n ts) {b:Nat} (hb:b<n):((ts.getD (b/4) default).nd.rs.l.getD (b%4) default).st≤2:=by
 have hG:=GoodT.of h.ln (oc h.nd)
 have hw:b%4<4:=by omega
 have h0:=hG.pl 0 (b/4) (Nat.zero_le _) (by have:=gm n;unfold jR at*;omega)
 unfold d6 at h0
 rw [show num n 0=0 from rfl,Nat.zero_add] at h0
 have h3:=aZ.1 (gA h0.1 h0.2.1) (b%4) hw
 unfold bS at h3
 by_cases hg:2<((ts.getD (b/4) default).nd.rs.l.getD (b%4) default).st
 ·rw [if_pos (show 2<((ts.getD (b/4) Un.zero).nd.rs.get (b%4)).st from hg)] at h3;cases h3
 ·omega
theorem Bz {n k:Nat} {x:Non} {t:Dig} (ts:List Un):(qL n ts k x t).length=ts.length:=by
 unfold qL set1
 rw [oQ];simp
theorem Gt (hU:UOk n ts) {bi:Nat} (hb:bi<n) {k:Key} {xn:Non} {yd:Dig}:Zp Tryz.prog 185 [vA (aV ⟨n,(some ⟨tb,to,none⟩,m,c)⟩),vA (bC k),vI bi,vA (br xn),vA (ay yd)] [] [Sl a7 (some ⟨tb,to,none⟩) m c ts,Gs q] (Nat×Nat) (fun _=>True) (fun z=> .tuple #[vA (aV ⟨n,(some ⟨z.1,0,none⟩,ts.length,ts.length)⟩),vA (cx ⟨2*bi+fM (ts.getD (bi/4) default) (bi%4),(some ⟨z.2,0,none⟩,32,32)⟩),vI 0]) (fun _=> []) (fun z=> [Sl a7 (some ⟨z.1,0,none⟩) ts.length ts.length (qL n ts bi xn (il k bi xn (cJ k xn yd))),Sl cB (some ⟨z.2,0,none⟩) 32 32 (cJ k xn yd).l]):=by
 have h1:=hU.h1
 have h2:=hU.h2
 have htg:=lj (ts.getD (bi/4) default) (bi%4)
 have hs:=hU.st2 hb
 refine ak fun G=> ?_
 refine aS 0 ?_
 intro hn hc hm ha
 subst hn
 (repeat' ((try refine aw ?_);(conv=>arg 4;whnf);first | refine az ?_ |(refine sN ?_;intro b)|(refine sC ?_ ?_<;>intro h)|(refine au ?_ ?_<;>intro h<;>try contradiction)|(refine aa ?_;intro g c')|((first | refine aA (G6 hU hb hs) ?_ | refine aA (Gi (q:=q) (i:=bi) (by omega)) ?_ | refine aA (FK hU hb) ?_ | refine aA (j9 h1 h2 hb htg) ?_);intro x hx;refine aH ?_)| refine ae ?_ | refine ai ?_ | exact ax |(refine aj rfl ?_;intro D lL)| refine af ?_ ?_ | refine ah ?_ ?_ ?_ | fail));(all_goals refine av ?_)
 rename_i db _ zb _
 refine eK (K:=cB) (l:=(cJ k xn yd).l) db 32 32 ?_
 refine eK (K:=a7) zb ts.length ts.length ?_ (hn:=⟨(Bz _).symm,Nat.le_refl _,by have:=b9 h2;have:=hU.ln;omega⟩)
 exact aD (zb,db) True.intro rfl (am _) bu
theorem Ib {y:Nod} {l j t:Nat} (h1:1≤n) (h2:n≤4096) (hc:bA y=0) (hlv:y.lv=l) (hix:y.ix=j) (hl:l≤hgt n) (hj:j<cnt n l) (ht:t≤1):Zp Tryz.prog 133 [vI n,vA (aU y),vI t] [] [Gs q] Nat (fun _=>True) (fun b=>vA (cx ⟨bas n l+2*j+t,(some ⟨b,0,none⟩,dx y,dx y)⟩)) (fun _=> []) (fun b=> [Sl cB (some ⟨b,0,none⟩) (dx y) (dx y) (aM y)]):=by
 subst hlv hix
 have h5:=a8 n
 have hcn:=cH n y.lv
 have hnd:=ue (n:=n) (l:=y.lv) (j:=y.ix) (t:=t) h1 h2 hl hj ht
 refine ak fun G=> ?_
 (repeat' ((try refine aw ?_);(conv=>arg 4;whnf);first | refine az ?_ |(refine sN ?_;intro b)|(refine sC ?_ ?_<;>intro h)|(refine au ?_ ?_<;>intro h<;>try contradiction)|(refine aa ?_;intro g c')|((first | refine aA hnd ?_ | refine aA (oE (q:=q) hc) ?_);intro x hx;refine aH ?_)| refine ae ?_ | refine ai ?_ | exact ax |(refine aj rfl ?_;intro D lL)| refine af ?_ ?_ | refine ah ?_ ?_ ?_ | fail));(all_goals refine av ?_)
 refine eK (K:=cB) (l:=aM y) x (dx y) (dx y) ?_ (hn:=⟨(dN _).symm,Nat.le_refl _,by unfold dx;split<;>omega⟩)
 exact aD x True.intro rfl (am _) bu
end
end Go.Proofs.YtbobhnldhpjdlaaGreatDoor
namespace Go.Proofs.YtbobhnldhpjdlaaGreatDoor
open Go Go.RowKit Go.Cs Go.Cz
set_option maxRecDepth 100000
set_option maxHeartbeats 4000000
def Wm:List SWri→List (Nat×List UInt8)→Pt
 | [], []=>fun _=>True
 | v::vs,x::xs=>fun w=>v.Sector=x.1∧Sl cB v.Bytes.1 v.Bytes.2.1 v.Bytes.2.2 x.2 w∧Wm vs xs w
 | _,_=>fun _=>False
theorem Wm.app {w:World} {v:SWri} {y:Nat×List UInt8} (h1:v.Sector=y.1) (h2:Sl cB v.Bytes.1 v.Bytes.2.1 v.Bytes.2.2 y.2 w):∀{vs:List SWri} {xs:List (Nat×List UInt8)},Wm vs xs w→Wm (vs++ [v]) (xs++ [y]) w
 | [], [],h=>⟨h1,h2,trivial⟩
 | a::vs,c::xs,h=>⟨h.1,h.2.1,Wm.app h1 h2 h.2.2⟩
 | [],_::_,h=>h.elim
 | _::_, [],h=>h.elim
theorem Wm.len {w:World}:∀{vs:List SWri} {xs:List (Nat×List UInt8)},Wm vs xs w→vs.length=xs.length
 | [], [],h=>rfl
 | a::vs,c::xs,h=>congrArg Nat.succ (Wm.len h.2.2)
 | [],_::_,h=>h.elim
 | _::_, [],h=>h.elim
theorem Wm.get {w:World}:∀{vs:List SWri} {xs:List (Nat×List UInt8)} {i:Nat},Wm vs xs w→i<xs.length→(vs.getD i default).Sector=(xs.getD i default).1∧Sl cB (vs.getD i default).Bytes.1 (vs.getD i default).Bytes.2.1 (vs.getD i default).Bytes.2.2 (xs.getD i default).2 w
 | a::vs,c::xs,0,h,_=>⟨h.1,h.2.1⟩
 | a::vs,c::xs,i+1,h,hi=>Wm.get (i:=i) h.2.2 (by simpa using hi)
 | [], [],i,h,hi=>by simp at hi
 | [],_::_,_,h,_=>h.elim
 | _::_, [],_,h,_=>h.elim
section
variable {n tb to m c:Nat} {ts:List Un} {q:Value×Value}
theorem Jl {v:SUtr}:Zp Tryz.prog 214 [vA (aV v)] [] [] Nat (fun _=>True) (fun b=> .func (.func 272) #[] #[vP b 0]) (fun _=> []) (fun b=> [Bk b (aV v)]):=by
 refine ak fun G=> ?_
 (repeat' ((try refine aw ?_);(conv=>arg 4;whnf);first | refine az ?_ |(refine sN ?_;intro b)|(refine sC ?_ ?_<;>intro h)|(refine au ?_ ?_<;>intro h<;>try contradiction)|(refine aa ?_;intro g c')| refine ae ?_ | refine ai ?_ | exact ax |(refine aj rfl ?_;intro D lL)| refine af ?_ ?_ | refine ah ?_ ?_ ?_ | fail));(all_goals refine av ?_)
 revert b;intro tx
 refine bG tx ?_
 exact aD tx True.intro rfl (am _) bu
theorem UOk.at (h:UOk n ts) {k:Nat} (hk:k<ts.length):∃l j,l≤hgt n∧j<cnt n l∧num n l+j=k∧bA (ts.getD k default).nd=0∧(ts.getD k default).nd.lv=l∧(ts.getD k default).nd.ix=j:=by
 have h0:=hk
 rw [h.ln] at h0
 obtain ⟨a,b,c⟩:=rT h0
 have e:num n (B7 n k)+(k-num n (B7 n k))=k:=by omega
 have h1:=(fR (h.nd _ _ a c)).1
 unfold d6 at h1
 rw [e] at h1
 exact ⟨_,_,a,c,e,(cA h1.2.2).1,h1.1,h1.2.1⟩
theorem iq {k:Nat} (h:iX n ts k=true):di n ts (k+1)=di n ts k++ [mN n ts k]:=if_pos h
theorem wQ {k:Nat} (h:¬iX n ts k=true):di n ts (k+1)=di n ts k:=if_neg h
theorem Jw {bx:Nat} (h:UOk n ts):Zp Tryz.prog 213 [.func (.func 272) #[] #[vP bx 0]] [] [Bk bx (aV ⟨n,(some ⟨tb,to,none⟩,m,c)⟩),Sl a7 (some ⟨tb,to,none⟩) m c ts,Gs q] (List SWri×Nat×Nat×Nat) (fun x=>x.2.2.2≤9223372036854775807∧x.1.length≤x.2.2.2∧0<x.1.length∧x.1.length=(di n ts ts.length).length) (fun x=> .slice (some ⟨x.2.1,x.2.2.1,none⟩) x.1.length x.2.2.2) (fun _=> []) (fun x=> [Sl cx (some ⟨x.2.1,x.2.2.1,none⟩) x.1.length x.2.2.2 x.1,Wm x.1 (di n ts ts.length)]):=by
 have h1:=h.h1
 have h2:=h.h2
 have htl:=b9 h2
 have hln:=h.ln
 refine ak fun G=> ?_
 refine aS 1 ?_
 intro hn hc hm ha
 subst hn
 have hpos:0<ts.length:=by have:=d7 (n:=n) (l:=hgt n) (j:=0) (Nat.le_refl _) (dk h1 _);omega
 have hlast:ts.length-1=tot n-1:=by omega
 (repeat' ((try refine aw ?_);(conv=>arg 4;whnf);first | refine az ?_ |(refine sN ?_;intro b)|(refine sC ?_ ?_<;>intro h)|(refine au ?_ ?_<;>intro h<;>try contradiction)|(refine aa ?_;intro g c')| refine ae ?_ | refine ai ?_ | exact ax |(refine aj rfl ?_;intro D lL)| refine af ?_ ?_ | refine ah ?_ ?_ ?_ | fail));(all_goals refine av ?_)
 revert b;intro xb
 refine aR (Wm [] (di n ts 0)) (fun w _ _=>trivial) ?_
 refine w6 [xb] (X:=Nat×List SWri×Option Addr×Nat) (fun x=> [(13,vI x.1)]) (fun x=>x.1≤ts.length∧x.2.1.length≤x.1) (fun x=> [iB xb [.slice x.2.2.1 x.2.1.length x.2.2.2] 248,iN cx 2 x.2.2.1 x.2.1.length x.2.2.2 266 x.2.1]) (fun x=> [Wm x.2.1 (di n ts x.1)]) (fun x=>ts.length-x.1) (0, [],none,0) ⟨Nat.zero_le _,Nat.le_refl _⟩ rfl (by
  ((repeat' (first | with_reducible exact ar _ | exact am _ | refine aE ?_ ?_ | refine aG inferInstance ?_ | refine aX ?_ | refine qT rfl ?_))<;>(try with_reducible rfl))
  all_goals rfl) bu ?_
 rintro ⟨k,vs,a,c0⟩ ⟨hk,hvl⟩
 (conv=>arg 2;simp only [List.cons_append,List.nil_append])
 (conv=>arg 3;simp only [List.cons_append,List.nil_append])
 dsimp only at hk hvl⊢
 by_cases hlt:k<ts.length
 ·obtain ⟨l,j,hl,hj,hp,hck,hlv,hix⟩:=h.at hlt
  obtain ⟨s,hs1,hs⟩:∃s:Nat,s≤1∧(ts.getD k default).sl=(s:Int):=by
   rcases h.sl k hlt with e | e
   ·exact ⟨0,by omega,e⟩
   ·exact ⟨1,by omega,e⟩
  have hS:Sb (a7 (ts.getD k default)) 274 [.int .i64 ((s:Nat):Int)] True:=⟨fun _=>by have:=(inferInstance:Sb (a7 (ts.getD k default)) 274 [.int .i64 (ts.getD k default).sl] True).sb True.intro;rwa [hs] at this⟩
  have hnd:=Ib (q:=q) (y:=(ts.getD k default).nd) (t:=1-s) h1 h2 hck hlv hix hl hj (by omega)
  have hkey:bas n l+2*j+(1-s)=ee n k (1-(ts.getD k default).sl).toNat:=by rw [iP,hp,hs];congr 1;omega
  have hkk:mN n ts k=(ee n k (1-(ts.getD k default).sl).toNat,aM (ts.getD k default).nd):=rfl
  cases hdt:(ts.getD k default).dt with
  | true=>
   have hD:Sb (a7 (ts.getD k default)) 275 [.bool true] True:=⟨fun _=>by have:=(inferInstance:Sb (a7 (ts.getD k default)) 275 [.bool (ts.getD k default).dt] True).sb True.intro;rwa [hdt] at this⟩
   have hw:iX n ts k=true:=by unfold iX;rw [show (ts.getD k Un.zero).dt=true from hdt];rfl
   by_cases hla:k=ts.length-1
   ·(repeat' ((try refine aw ?_);(conv=>arg 4;whnf);first | refine az ?_ |(refine sN ?_;intro b)|(refine sC ?_ ?_<;>intro h)|(refine au ?_ ?_<;>intro h<;>try contradiction)|(refine aa ?_;intro g c')|(refine cw hnd ?_;intro x hx;refine bV ?_)| refine ae ?_ | refine ai ?_ | exact ax |(refine aj rfl ?_;intro D lL)| refine af ?_ ?_ | refine ah ?_ ?_ ?_ | fail));(all_goals refine av ?_)
    refine aR (Wm (vs++ [⟨bas n l+2*j+(1-s),(some ⟨x,0,none⟩,dx (ts.getD k default).nd,dx (ts.getD k default).nd)⟩]) (di n ts (k+1))) (fun w _ hf=>by
     rw [iq hw]
     exact Wm.app hkey (hf _ (.head _)) (hf _ (.tail _ (.head _)))) ?_
    refine eU (k+1,vs++ [⟨bas n l+2*j+(1-s),(some ⟨x,0,none⟩,dx (ts.getD k default).nd,dx (ts.getD k default).nd)⟩],some ⟨g,0,none⟩,c') ⟨by omega,by simp;omega⟩ (by
     dsimp only
     rw [List.length_append]
     ((repeat' (first | with_reducible exact ar _ | exact am _ | refine aE ?_ ?_ | refine aG inferInstance ?_ | refine aX ?_))<;>(try with_reducible rfl))
     all_goals rfl) (by dsimp only;omega) bu
   ·(repeat' ((try refine aw ?_);(conv=>arg 4;whnf);first | refine az ?_ |(refine sN ?_;intro b)|(refine sC ?_ ?_<;>intro h)|(refine au ?_ ?_<;>intro h<;>try contradiction)|(refine aa ?_;intro g c')|(refine cw hnd ?_;intro x hx;refine bV ?_)| refine ae ?_ | refine ai ?_ | exact ax |(refine aj rfl ?_;intro D lL)| refine af ?_ ?_ | refine ah ?_ ?_ ?_ | fail));(all_goals refine av ?_)
    refine aR (Wm (vs++ [⟨bas n l+2*j+(1-s),(some ⟨x,0,none⟩,dx (ts.getD k default).nd,dx (ts.getD k default).nd)⟩]) (di n ts (k+1))) (fun w _ hf=>by
     rw [iq hw]
     exact Wm.app hkey (hf _ (.head _)) (hf _ (.tail _ (.head _)))) ?_
    refine eU (k+1,vs++ [⟨bas n l+2*j+(1-s),(some ⟨x,0,none⟩,dx (ts.getD k default).nd,dx (ts.getD k default).nd)⟩],some ⟨g,0,none⟩,c') ⟨by omega,by simp;omega⟩ (by
     dsimp only
     rw [List.length_append]
     ((repeat' (first | with_reducible exact ar _ | exact am _ | refine aE ?_ ?_ | refine aG inferInstance ?_ | refine aX ?_))<;>(try with_reducible rfl))
     all_goals rfl) (by dsimp only;omega) bu
  | false=>
   have hD:Sb (a7 (ts.getD k default)) 275 [.bool false] True:=⟨fun _=>by have:=(inferInstance:Sb (a7 (ts.getD k default)) 275 [.bool (ts.getD k default).dt] True).sb True.intro;rwa [hdt] at this⟩
   by_cases hla:k=ts.length-1
   ·have hw:iX n ts k=true:=by unfold iX;rw [hla,hlast];simp
    (repeat' ((try refine aw ?_);(conv=>arg 4;whnf);first | refine az ?_ |(refine sN ?_;intro b)|(refine sC ?_ ?_<;>intro h)|(refine au ?_ ?_<;>intro h<;>try contradiction)|(refine aa ?_;intro g c')|(refine cw hnd ?_;intro x hx;refine bV ?_)| refine ae ?_ | refine ai ?_ | exact ax |(refine aj rfl ?_;intro D lL)| refine af ?_ ?_ | refine ah ?_ ?_ ?_ | fail));(all_goals refine av ?_)
    refine aR (Wm (vs++ [⟨bas n l+2*j+(1-s),(some ⟨x,0,none⟩,dx (ts.getD k default).nd,dx (ts.getD k default).nd)⟩]) (di n ts (k+1))) (fun w _ hf=>by
     rw [iq hw]
     exact Wm.app hkey (hf _ (.head _)) (hf _ (.tail _ (.head _)))) ?_
    refine eU (k+1,vs++ [⟨bas n l+2*j+(1-s),(some ⟨x,0,none⟩,dx (ts.getD k default).nd,dx (ts.getD k default).nd)⟩],some ⟨g,0,none⟩,c') ⟨by omega,by simp;omega⟩ (by
     dsimp only
     rw [List.length_append]
     ((repeat' (first | with_reducible exact ar _ | exact am _ | refine aE ?_ ?_ | refine aG inferInstance ?_ | refine aX ?_))<;>(try with_reducible rfl))
     all_goals rfl) (by dsimp only;omega) bu
   ·have hw:¬iX n ts k=true:=by unfold iX;rw [show (ts.getD k Un.zero).dt=false from hdt];simp;omega
    (repeat' ((try refine aw ?_);(conv=>arg 4;whnf);first | refine az ?_ |(refine sN ?_;intro b)|(refine sC ?_ ?_<;>intro h)|(refine au ?_ ?_<;>intro h<;>try contradiction)|(refine aa ?_;intro g c')|(refine cw hnd ?_;intro x hx;refine bV ?_)| refine ae ?_ | refine ai ?_ | exact ax |(refine aj rfl ?_;intro D lL)| refine af ?_ ?_ | refine ah ?_ ?_ ?_ | fail));(all_goals refine av ?_)
    rw [←wQ hw]
    exact eU (k+1,vs,a,c0) ⟨by omega,by dsimp only;omega⟩ (by
     ((repeat' (first | with_reducible exact ar _ | exact am _ | refine aE ?_ ?_ | refine aG inferInstance ?_ | refine aX ?_))<;>(try with_reducible rfl))
     all_goals rfl) (by dsimp only;omega) bu
 ·obtain rfl:k=ts.length:=by omega
  (repeat' ((try refine aw ?_);(conv=>arg 4;whnf);first | refine az ?_ |(refine sN ?_;intro b)|(refine sC ?_ ?_<;>intro h)|(refine au ?_ ?_<;>intro h<;>try contradiction)|(refine aa ?_;intro g c')| refine ae ?_ | refine ai ?_ | exact ax |(refine aj rfl ?_;intro D lL)| refine af ?_ ?_ | refine ah ?_ ?_ ?_ | fail));(all_goals refine av ?_)
  refine eE (m:=2) (e:=266) cx a vs.length c0 ?_
  refine f5 (p:=vs.length=(di n ts ts.length).length) (fun w _ hf=>Wm.len (hf (Wm vs (di n ts ts.length)) (.tail _ (.head _)))) ?_
  intro hlen
  have hwp:0<(di n ts ts.length).length:=by
   obtain ⟨k,hk1⟩:∃k,ts.length=k+1:=⟨ts.length-1,by omega⟩
   have hw:iX n ts k=true:=by unfold iX;rw [show k=tot n-1 by omega];simp
   rw [hk1,iq hw];simp
  have hv0:0<vs.length:=by omega
  refine aS 0 ?_
  intro _ hc1 hm1 ha1
  obtain ⟨g,o,rfl⟩:=ha1 hv0 (by decide)
  exact aD (vs,g,o,c0) ⟨hm1,hc1,hv0,hlen⟩ rfl (am _) bu
end
end Go.Proofs.YtbobhnldhpjdlaaGreatDoor
namespace Go.Proofs.YtbobhnldhpjdlaaGreatDoor
open Go Go.RowKit Go.Cs Go.Cz
set_option maxRecDepth 100000
set_option maxHeartbeats 4000000
section
variable {n tb to m c:Nat} {ts:List Un} {q:Value×Value}
theorem JD {cell:Cel} (h:UOk n ts) (hsl:(ts.getD (ts.length-1) default).sl=((cell.ep%2:Nat):Int)) (hep:cell.ep<2^63):Zp Tryz.prog 122 [vA (aV ⟨n,(some ⟨tb,to,none⟩,m,c)⟩),vA (aL cell)] [] [Sl a7 (some ⟨tb,to,none⟩) m c ts,Gs q] (List SWri×Nat×Nat) (fun x=>0<x.1.length∧x.1.length=(di n ts ts.length).length) (fun x=> .tuple #[.slice (some ⟨x.2.1,x.2.2,none⟩) x.1.length x.1.length,vA (aL (cell.nxt (bI (aM (ts.getD (ts.length-1) default).nd)))),vI 0]) (fun _=> []) (fun x=> [Sl cx (some ⟨x.2.1,x.2.2,none⟩) x.1.length x.1.length x.1,Wm x.1 (di n ts ts.length)]):=by
 have h1:=h.h1
 have h2:=h.h2
 have htl:=b9 h2
 have hln:=h.ln
 have hpos:0<ts.length:=by have:=d7 (n:=n) (l:=hgt n) (j:=0) (Nat.le_refl _) (dk h1 _);omega
 have hS:Sb (a7 (ts.getD (ts.length-1) default)) 274 [.int .i64 ((cell.ep%2:Nat):Int)] True:=⟨fun _=>by have:=(inferInstance:Sb (a7 (ts.getD (ts.length-1) default)) 274 [.int .i64 (ts.getD (ts.length-1) default).sl] True).sb True.intro;rwa [hsl] at this⟩
 refine ak fun G=> ?_
 refine aS 0 ?_
 intro hn hc hm ha
 subst hn
 have hrt:=GZ (tb:=tb) (to:=to) (m:=ts.length) (c:=c) (q:=q) h
 have hco:=fun bx=>Jw (bx:=bx) (tb:=tb) (to:=to) (m:=ts.length) (c:=c) (q:=q) h
 (repeat' ((try refine aw ?_);(conv=>arg 4;whnf);first | refine aO ?_ |(refine sN ?_;intro b)|(refine sC ?_ ?_<;>intro h)|(refine au ?_ ?_<;>intro h<;>try contradiction)|(refine aa ?_;intro g c')|((first | refine aA hrt ?_ | refine aA nL ?_ | refine aA (wX (y:=cell) hep) ?_);intro x hx;refine aH ?_)| refine ae ?_ | refine ai ?_ | exact ax |(refine aj rfl ?_;intro D lL)| refine af ?_ ?_ | refine ah ?_ ?_ ?_ | fail));(all_goals refine av ?_)
 (first | refine bF rfl rfl ?_ |(refine bh ?_;(conv=>arg 4;whnf);refine bc rfl ?_))
 (repeat' ((try refine aw ?_);(conv=>arg 4;whnf);first | refine aO ?_ |(refine sN ?_;intro b)|(refine sC ?_ ?_<;>intro h)|(refine au ?_ ?_<;>intro h<;>try contradiction)|(refine aa ?_;intro g c')|((first | refine aA hrt ?_ | refine aA nL ?_ | refine aA (wX (y:=cell) hep) ?_);intro x hx;refine aH ?_)| refine ae ?_ | refine ai ?_ | exact ax |(refine aj rfl ?_;intro D lL)| refine af ?_ ?_ | refine ah ?_ ?_ ?_ | fail));(all_goals refine av ?_)
 refine FP rfl ?_
 (repeat' ((try refine aw ?_);(conv=>arg 4;whnf);first | refine aO ?_ |(refine sN ?_;intro b)|(refine sC ?_ ?_<;>intro h)|(refine au ?_ ?_<;>intro h<;>try contradiction)|(refine aa ?_;intro g c')|((first | refine cw Jl ?_ | refine cw (hco _) ?_);intro x hx;refine bV ?_)| refine ae ?_ | refine ai ?_ | exact ax |(refine aj rfl ?_;intro D lL)| refine af ?_ ?_ | refine ah ?_ ?_ ?_ | fail));(all_goals refine av ?_)
 obtain ⟨vs,g,o,c0⟩:=x
 refine je 0 ?_
 exact aD (vs,g,o) ⟨hx.2.2.1,hx.2.2.2⟩ rfl (am _) bu
end
theorem IB {d:SDsk} {I:DI} {sz B:Nat} {con:Con} {vs:List SWri} {l:List (Nat×List UInt8)} {g o:Nat} (hD:DOk d I sz B con) (hB:B+l.length≤1099511627776) (hv0:0<vs.length) (hvm:vs.length≤65536) (hl:∀i,i<l.length→(l.getD i default).1<sz∧(l.getD i default).2.length≤256):Zp Tryz.prog 123 [vA (aJ d), .slice (some ⟨g,o,none⟩) vs.length vs.length,vI vs.length] [] [Dm d I,Sl cx (some ⟨g,o,none⟩) vs.length vs.length vs,Wm vs l] (SDsk×DI) (fun x=>DOk x.1 x.2 sz (B+l.length) (con.puts l)∧x.1.size=d.size) (fun x=> .tuple #[vA (aJ x.1),vI 0]) (fun _=> []) (fun x=> [Dm x.1 x.2]):=by
 refine ak fun G=> ?_
 refine f5 (p:=vs.length=l.length) (fun w _ hf=>Wm.len (hf (Wm vs l) (.tail _ (.tail _ (.head _))))) ?_
 intro hlen
 (repeat' ((try refine aw ?_);(conv=>arg 4;whnf);first | refine az ?_ |(refine sN ?_;intro b)|(refine sC ?_ ?_<;>intro h)|(refine au ?_ ?_<;>intro h<;>try contradiction)|(refine aa ?_;intro g c')| refine ae ?_ | refine ai ?_ | exact ax |(refine aj rfl ?_;intro D lL)| refine af ?_ ?_ | refine ah ?_ ?_ ?_ | fail));(all_goals refine av ?_)
 rename_i db
 revert b;intro rb
 refine w6 [db] (X:=Nat×SDsk×DI) (fun x=> [(7, .int .i64 0),(25,vI x.1)]) (fun x=>x.1≤l.length∧DOk x.2.1 x.2.2 sz (B+x.1) (con.puts (l.take x.1))∧x.2.1.size=d.size) (fun x=> [iB db (aJ x.2.1) 36]) (fun x=> [Dm x.2.1 x.2.2]) (fun x=>l.length-x.1) (0,d,I) ⟨Nat.zero_le _,hD,rfl⟩ rfl cD bu ?_
 rintro ⟨i,d1,I1⟩ ⟨hi,hD1,hs1⟩
 (conv=>arg 2;simp only [List.cons_append,List.nil_append])
 (conv=>arg 3;simp only [List.cons_append,List.nil_append])
 dsimp only at hi hD1 hs1⊢
 by_cases hlt:i<l.length
 ·obtain ⟨hlt1,hlt2⟩:=hl i hlt
  have hch:=hD1.chg
  have hvl:=hD1.vl
  refine f5 (p:=(vs.getD i default).Sector=(l.getD i default).1) (fun w _ hf=>((hf (Wm vs l) (by simp)).get hlt).1) ?_
  intro hsec
  refine aR (Sl cB (vs.getD i default).Bytes.1 (vs.getD i default).Bytes.2.1 (vs.getD i default).Bytes.2.2 (l.getD i default).2) (fun w _ hf=>((hf (Wm vs l) (by simp)).get hlt).2) ?_
  have hsI:(vs.getD i default).Sector<I1.size:=by rw [hD1.size,hsec];exact hlt1
  have hvl2:(I1.vs.getD (vs.getD i default).Sector []).length≤1099511627776:=by
   have:=hvl (vs.getD i default).Sector
   rw [←hD1.cn,DI.con_len] at this;omega
  have hdw:=fun (a:Option Addr) (n c:Nat)=>uJ (d:=d1) (I:=I1) (s:=(vs.getD i default).Sector) (a:=a) (n:=n) (c:=c) (l:=(l.getD i default).2) hD1.ok hsI (by omega) hvl2 hlt2
  (repeat' ((try refine aw ?_);(conv=>arg 4;whnf);first | refine az ?_ |(refine sN ?_;intro b)|(refine sC ?_ ?_<;>intro h)|(refine au ?_ ?_<;>intro h<;>try contradiction)|(refine aa ?_;intro g c')|(refine cw (hdw _ _ _) ?_;intro x hx;refine bV ?_)| refine ae ?_ | refine ai ?_ | exact ax |(refine aj rfl ?_;intro D lL)| refine af ?_ ?_ | refine ah ?_ ?_ ?_ | fail));(all_goals refine av ?_)
  obtain ⟨d',nb,v1,v2⟩:=x
  have hput:=hD1.put (d':=d') (nb:=nb) (s:=(vs.getD i default).Sector) (v:=⟨v1,v2,true,(l.getD i default).2⟩) (by rw [hsec];exact hlt1) hx.2 (fun _=>hlt2)
  rw [if_pos (show (⟨v1,v2,true,(l.getD i default).2⟩:VN).th=true from rfl)] at hput
  have hge:l[i]'hlt=l.getD i default:=List.getElem_eq_getD (h:=hlt) default
  have e:con.puts (l.take (i+1))=(con.puts (l.take i)).put (vs.getD i default).Sector (some (l.getD i default).2):=by
   rw [List.take_succ_eq_append_getElem hlt,Con.puts_app,hsec,hge];rfl
  exact eU (i+1,d',I1.put (vs.getD i default).Sector nb ⟨v1,v2,true,(l.getD i default).2⟩) ⟨hlt,by dsimp only;rw [e,←Nat.add_assoc];exact hput,hx.1.trans hs1⟩ cD (by dsimp only;omega) bu
 ·obtain rfl:i=l.length:=by omega
  rw [List.take_length] at hD1
  (repeat' ((try refine aw ?_);(conv=>arg 4;whnf);first | refine az ?_ |(refine sN ?_;intro b)|(refine sC ?_ ?_<;>intro h)|(refine au ?_ ?_<;>intro h<;>try contradiction)|(refine aa ?_;intro g c')| refine ae ?_ | refine ai ?_ | exact ax |(refine aj rfl ?_;intro D lL)| refine af ?_ ?_ | refine ah ?_ ?_ ?_ | fail));(all_goals refine av ?_)
  exact aD (d1,I1) ⟨hD1,hs1⟩ rfl (am _) bu
end Go.Proofs.YtbobhnldhpjdlaaGreatDoor
