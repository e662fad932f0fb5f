/- Lemmas and walks: what each function does, by its own code. No condition beyond those of each statement. -/
import Derived.Test.YtbobhnldhpjdlaaGreatDoorP10
import Derived.Test.YtbobhnldhpjdlaaGreatDoorP11
import Derived.Test.YtbobhnldhpjdlaaGreatDoorP16
import Derived.Test.YtbobhnldhpjdlaaGreatDoorP18
import Derived.Test.YtbobhnldhpjdlaaGreatDoorP19
import Derived.Test.YtbobhnldhpjdlaaGreatDoorP23
import Derived.Test.YtbobhnldhpjdlaaGreatDoorP24
import Derived.Test.YtbobhnldhpjdlaaGreatDoorP35
import Derived.Test.YtbobhnldhpjdlaaGreatDoorP36
import Derived.Test.YtbobhnldhpjdlaaGreatDoorP37
import Derived.Test.YtbobhnldhpjdlaaGreatDoorP38
import Derived.Test.YtbobhnldhpjdlaaGreatDoorP39
import Derived.Test.YtbobhnldhpjdlaaGreatDoorP41
set_option linter.all false
set_option linter.unusedVariables false
namespace Go.Proofs.YtbobhnldhpjdlaaGreatDoor
open Go Go.RowKit Go.Cs Go.Cz
set_option maxRecDepth 100000
set_option maxHeartbeats 4000000
section
variable {n tb to m c:Nat} {ts:List Un} {q:Value×Value} {xn:Non} {t:Dig}
theorem FK (h:UOk n ts) {k:Nat} (hb:k<n):Zp Tryz.prog 250 [vA (aV ⟨n,(some ⟨tb,to,none⟩,m,c)⟩),vI k,vA (br xn),vA (ay t)] [] [Sl a7 (some ⟨tb,to,none⟩) m c ts,Gs q] Nat (fun _=>True) (fun z=> .tuple #[vA (aV ⟨n,(some ⟨z,0,none⟩,ts.length,ts.length)⟩),vI (fM (ts.getD (k/4) default) (k%4)),vI 0]) (fun z=> [iB z ((qL n ts k xn t).flatMap a7) 264]) (fun _=> []):=by
 have h2:=h.h2
 have hln:=h.ln
 have htl:=b9 h2
 have hb4:k/4<ts.length:=by
  rw [h.ln];have:=d7 (n:=n) (l:=0) (j:=k/4) (Nat.zero_le _) (by have:=gm n;unfold jR at*;omega);rw [show num n 0=0 from rfl] at this;omega
 have hw:k%4<4:=by omega
 have hG:=GoodT.of hln (oc h.nd)
 have hs:((ts.getD (k/4) default).nd.rs.l.getD (k%4) default).st≤2:=by
  have h0:=hG.pl 0 (k/4) (Nat.zero_le _) (by have:=gm n;unfold jR at*;omega)
  unfold d6 at h0
  rw [show num n 0=0 from rfl,Nat.zero_add] at h0
  have h3:=aZ.1 (gA h0.1 h0.2.1) (k%4) hw
  unfold bS at h3
  by_cases hg:2<((ts.getD (k/4) default).nd.rs.l.getD (k%4) default).st
  ·rw [if_pos (show 2<((ts.getD (k/4) Un.zero).nd.rs.get (k%4)).st from hg)] at h3;cases h3
  ·omega
 have htg:=lj (ts.getD (k/4) default) (k%4)
 have i1:Nu 256 ((fM (ts.getD (k/4) default) (k%4)+1:Nat):Int) (fM (ts.getD (k/4) default) (k%4)+1):=⟨rfl,by omega⟩
 have h5:=a8 n
 have hSl:=Slt.of hln (jw.2 h.sl)
 obtain ⟨T1,hT1⟩:∃T,T=ts.set (k/4) ((ts.getD (k/4) default).setR (k%4) (rm (ts.getD (k/4) default) (k%4) xn t)):=⟨_,rfl⟩
 obtain ⟨T2,hT2⟩:∃T,T=T1.set (k/4) ((T1.getD (k/4) default).setCh (k%4) true):=⟨_,rfl⟩
 obtain ⟨T3,hT3⟩:∃T,T=T2.set (k/4) ((T2.getD (k/4) default).setDt true):=⟨_,rfl⟩
 have hT:T3=set1 ts k xn t:=hT3.trans (C0 hb4 hT1 hT2)
 have l1:T1.length=ts.length:=by rw [hT1,List.length_set]
 have l2:T2.length=ts.length:=by rw [hT2,List.length_set,l1]
 have l3:T3.length=ts.length:=by rw [hT3,List.length_set,l2]
 have hG3:GoodT n T3:=hT▸hG.set1 hb
 have hS3:Slt n T3:=hT▸hSl.set1 hln hb
 have hU1:Ub (ts.flatMap a7) (0+k/4*280+0+2+k%4*35) (bY ⟨fM (ts.getD (k/4) default) (k%4)+1,xn,t,by omega⟩) (T1.flatMap a7) True:=⟨fun _=>by
  rw [hT1]
  exact (inferInstance:Ub (ts.flatMap a7) (0+k/4*280+0+2+k%4*35) (bY (rm (ts.getD (k/4) default) (k%4) xn t)) _ _).ub (by first | omega |(simp;omega))⟩
 have hU2:Ub (T1.flatMap a7) (0+k/4*280+276+k%4*1) [.bool true] (T2.flatMap a7) True:=⟨fun _=>by
  rw [hT2]
  exact (inferInstance:Ub (T1.flatMap a7) (0+k/4*280+276+k%4*1) [.bool true] _ _).ub (by first | omega |(simp;omega))⟩
 have hU3:Ub (T2.flatMap a7) (0+k/4*280+275) [.bool true] (T3.flatMap a7) True:=⟨fun _=>by
  rw [hT3]
  exact (inferInstance:Ub (T2.flatMap a7) (0+k/4*280+275) [.bool true] _ _).ub (by first | omega |(simp;omega))⟩
 clear hT1 hT2 hT3
 refine ak fun G=> ?_
 refine aS 0 ?_
 intro hn hc hm ha
 subst hn
 (repeat' ((try refine aw ?_);(conv=>arg 4;whnf);first | refine aO ?_ |(refine sN ?_;intro b)|(refine sC ?_ ?_<;>intro h)|(refine cw (ug h hb) ?_;intro x hx;refine bV ?_)|((first | refine aA (y7 hw hs) ?_ | refine aA (AB (n:=n) (tb:=tb) (to:=to) (m:=ts.length) (c:=c) (ts:=ts) (by omega)) ?_ | refine aA (vN htg) ?_);intro x hx;refine aH ?_)| refine ae ?_ | refine ai ?_ |(refine aj rfl ?_;intro D lL)| refine af ?_ ?_ | fail));(all_goals refine av ?_)
 rename_i rl u0 lb rb hrb u1 u2
 revert b;intro xb
 obtain ⟨⟨a1,n1,c1⟩,a2,n2,c2⟩:=rl
 try dsimp only
 refine aS 0 ?_
 intro hn1 hc1 hm1 ha1
 rw [dA] at hn1
 subst hn1
 obtain ⟨b1,o1,rfl⟩:=ha1 (by omega) (by decide)
 refine aS 1 ?_
 intro hn2 hc2 hm2 ha2
 rw [cj] at hn2
 subst hn2
 obtain ⟨b2,o2,rfl⟩:=ha2 (by omega) (by decide)
 have hcl:=dA n (hgt n+1)
 have hnl:=cj n (hgt n+1)
 refine bh ?_
 (conv=>arg 4;whnf)
 refine bc rfl ?_
 (repeat' ((try refine aw ?_);(conv=>arg 4;whnf);first | refine aO ?_ |(refine sN ?_;intro b)|(refine sC ?_ ?_<;>intro h)| refine ae ?_ | refine ai ?_ |(refine aj rfl ?_;intro D lL)| refine af ?_ ?_ | fail));(all_goals refine av ?_)
 rename_i sb yb vb
 revert b;intro ib
 refine bG yb ?_
 have e0:d6 n (d8 n k T3 (0-1)) (0-1) (idx k (0-1))=T3.getD (k/4) default:=by
  show T3.getD (num n 0+k/4) default=_
  rw [show num n 0=0 from rfl,Nat.zero_add]
 apply q4 [vb,ib,sb,rb] (X:=Nat) (fun l=> []) (fun l=>l≤hgt n+1) (fun l=> [iB vb [vI l] 3,iB ib [vI (idx k l)] 3,iB sb (a7 (d6 n (d8 n k T3 (l-1)) (l-1) (idx k (l-1)))) 264,iB rb ((d8 n k T3 (l-1)).flatMap a7) 264]) (fun l=>hgt n+1-l) 0
 ·exact Nat.zero_le _
 ·rfl
 ·show Wk _ ([iB vb [vI 0] 3,iB ib [vI (k/4)] 3,iB sb (a7 (d6 n (d8 n k T3 (0-1)) (0-1) (idx k (0-1)))) 264,iB rb (T3.flatMap a7) 264]++_)
  rw [e0]
  ((repeat' (first | with_reducible exact ar _ | exact am _ | refine aE ?_ ?_ | refine aG inferInstance ?_ | refine aX ?_))<;>(try with_reducible rfl))
  all_goals rfl
 ·intro K H l hl
  (conv=>arg 2;simp only [List.cons_append,List.nil_append])
  by_cases hl1:l<hgt n+1
  ·have hg2:(dC n (hgt n+1)).getD l default=num n l:=er (by omega)
   have hg3:(dC n (hgt n+1)).getD ((l.mul 0).add l) default=num n l:=by
    rw [show (l.mul 0).add l=l from Nat.zero_add l];exact hg2
   have hix:=bm hb l
   have hpl:=dV (n:=n) (l:=l) (j:=idx k l) (by omega) hix
   obtain ⟨hGT,hST⟩:=rI (m:=l-1) hG3 hS3 hb (by omega)
   have hTl:(d8 n k T3 (l-1)).length=ts.length:=by rw [oQ,l3]
   have hst:0<l→lV n k (l-1) (d8 n k T3 (l-1))=d8 n k T3 (l+1-1):=fun h0=>zF h0
   have hst0:l=0→d8 n k T3 (l-1)=d8 n k T3 (l+1-1):=fun h0=>by subst h0;rfl
   have hyc:=(hGT.pl (l-1) (idx k (l-1)) (by omega) (bm hb _)).1
   have hys:=hST (l-1) (idx k (l-1)) (by omega) (bm hb _)
   generalize hTT:d8 n k T3 (l-1)=T at*
   generalize hyy:d6 n T (l-1) (idx k (l-1))=y at*
   obtain ⟨T4,hT4⟩:∃A,A=T.set (num n l+idx k l) ((T.getD (num n l+idx k l) default).setE (y.nd.ix%4) (rX y)):=⟨_,rfl⟩
   obtain ⟨T5,hT5⟩:∃A,A=T4.set (num n l+idx k l) ((T4.getD (num n l+idx k l) default).setDt true):=⟨_,rfl⟩
   have l4:T4.length=ts.length:=by rw [hT4,List.length_set,hTl]
   have l5:T5.length=ts.length:=by rw [hT5,List.length_set,l4]
   have hst2:0<l→T5=d8 n k T3 (l+1-1):=fun h0=>by
    rw [←hst h0,hT5]
    exact GG h0 (by rw [hTl,hln];exact hpl) (by rw [hyy];exact hT4)
   have hV1:Ub (T.flatMap a7) (0+(num n l+idx k l)*280+0+142+y.nd.ix%4*33) (c6 (rX y)) (T4.flatMap a7) True:=⟨fun _=>by
    rw [hT4]
    exact (inferInstance:Ub (T.flatMap a7) (0+(num n l+idx k l)*280+0+142+y.nd.ix%4*33) (c6 (rX y)) _ _).ub (by first | omega |(simp;omega))⟩
   have hV2:Ub (T4.flatMap a7) (0+(num n l+idx k l)*280+275) [.bool true] (T5.flatMap a7) True:=⟨fun _=>by
    rw [hT5]
    exact (inferInstance:Ub (T4.flatMap a7) (0+(num n l+idx k l)*280+275) [.bool true] _ _).ub (by first | omega |(simp;omega))⟩
   have hE:=zf (q:=q) hys hyc
   (repeat' ((try refine aw ?_);(conv=>arg 4;whnf);first | refine aO ?_ |(refine sN ?_;intro b)|(refine sC ?_ ?_<;>intro h)| refine ae ?_ | refine ai ?_ |(refine aj rfl ?_;intro D lL)| refine af ?_ ?_ | fail));(all_goals refine av ?_)
   refine dH [sb,rb,D,lL] rfl ?_
   (repeat' ((try refine aw ?_);(conv=>arg 4;whnf);first | refine aO ?_ |(refine sN ?_;intro b)|(refine sC ?_ ?_<;>intro h)| refine ae ?_ | refine ai ?_ |(refine aj rfl ?_;intro D lL)| refine af ?_ ?_ | fail));(all_goals refine av ?_)
   (conv=>arg 4;arg 5;ext C;whnf)
   refine cR ?_ (BS (by
    have h9:(dC n (hgt n+1)).getD ((l.mul 0).add l) default+idx k l≤9223372036854775807:=by rw [hg3];omega
    exact h9))
   rw [hg3]
   clear hg3 hg2
   (repeat' ((try refine aw ?_);(conv=>arg 4;whnf);first | refine aO ?_ |(refine sN ?_;intro b)|(refine sC ?_ ?_<;>intro h)| refine ae ?_ | refine ai ?_ |(refine aj rfl ?_;intro D lL)| refine af ?_ ?_ | fail));(all_goals refine av ?_)
   ·refine bh ?_
    (conv=>arg 4;whnf)
    refine bc rfl ?_
    (repeat' ((try refine aw ?_);(conv=>arg 4;whnf);first | refine aO ?_ |(refine sN ?_;intro b)|(refine sC ?_ ?_<;>intro h)|(refine aA hE ?_;intro x hx;refine aH ?_)| refine ae ?_ | refine ai ?_ |(refine aj rfl ?_;intro D lL)| refine af ?_ ?_ | fail));(all_goals refine av ?_)
    refine uy rfl ?_
    (repeat' ((try refine aw ?_);(conv=>arg 4;whnf);first | refine az ?_ |(refine sN ?_;intro b)|(refine sC ?_ ?_<;>intro h)| refine ae ?_ | refine ai ?_ |(refine aj rfl ?_;intro D lL)| refine af ?_ ?_ | fail));(all_goals refine av ?_)
    all_goals (
     have h0:0<l:=by omega
     refine a5 (l+1) rfl (by omega) ?_ (by omega)
     show Wk _ ([iB vb [vI (l+1)] 3,iB ib [vI (idx k l/4)] 3,iB sb (a7 ((d8 n k T3 (l+1-1)).getD (num n l+idx k l) default)) 264,iB rb ((d8 n k T3 (l+1-1)).flatMap a7) 264]++_)
     rw [←hst2 h0]
     ((repeat' (first | with_reducible exact ar _ | exact am _ | refine aE ?_ ?_ | refine aG inferInstance ?_ | refine aX ?_))<;>(try with_reducible rfl)))
   ·refine uy rfl ?_
    (repeat' ((try refine aw ?_);(conv=>arg 4;whnf);first | refine az ?_ |(refine sN ?_;intro b)|(refine sC ?_ ?_<;>intro h)| refine ae ?_ | refine ai ?_ |(refine aj rfl ?_;intro D lL)| refine af ?_ ?_ | fail));(all_goals refine av ?_)
    all_goals (
     have h0:l=0:=by omega
     refine a5 (l+1) rfl (by omega) ?_ (by omega)
     show Wk _ ([iB vb [vI (l+1)] 3,iB ib [vI (idx k l/4)] 3,iB sb (a7 ((d8 n k T3 (l+1-1)).getD (num n l+idx k l) default)) 264,iB rb ((d8 n k T3 (l+1-1)).flatMap a7) 264]++_)
     rw [←hst0 h0]
     ((repeat' (first | with_reducible exact ar _ | exact am _ | refine aE ?_ ?_ | refine aG inferInstance ?_ | refine aX ?_))<;>(try with_reducible rfl)))
  ·obtain rfl:l=hgt n+1:=by omega
   (repeat' ((try refine aw ?_);(conv=>arg 4;whnf);first | refine az ?_ |(refine sN ?_;intro b)|(refine sC ?_ ?_<;>intro h)| refine ae ?_ | refine ai ?_ |(refine aj rfl ?_;intro D lL)| refine af ?_ ?_ | fail));(all_goals refine av ?_)
   exact H.go
 ·(repeat' ((try refine aw ?_);(conv=>arg 4;whnf);first | refine az ?_ |(refine sN ?_;intro b)|(refine sC ?_ ?_<;>intro h)| refine ae ?_ | refine ai ?_ |(refine aj rfl ?_;intro D lL)| refine af ?_ ?_ | fail));(all_goals refine av ?_)
  rw [show qL n ts k xn t=d8 n k T3 (hgt n+1-1) from by rw [hT];rfl]
  exact aD rb True.intro rfl cD bu
end
end Go.Proofs.YtbobhnldhpjdlaaGreatDoor
namespace Go.Proofs.YtbobhnldhpjdlaaGreatDoor
open Go Go.RowKit Go.Cs Go.Cz
set_option maxRecDepth 100000
set_option maxHeartbeats 4000000
section
variable {n tb to m c:Nat} {ts:List Un} {q:Value×Value}
theorem GZ (h:UOk n ts):Zp Tryz.prog 211 [vA (aV ⟨n,(some ⟨tb,to,none⟩,m,c)⟩)] [] [Sl a7 (some ⟨tb,to,none⟩) m c ts,Gs q] Unit (fun _=>True) (fun x=> .tuple #[vA (ay (bI (aM (ts.getD (ts.length-1) default).nd))),vI 0]) (fun _=> []) (fun x=> []):=by
 have h1:=h.h1
 have h2:=h.h2
 have htl:=b9 h2
 have hln:=h.ln
 have hch:=eg h1 h2
 have hnd:=(cA (fR (h.nd (hgt n) 0 (Nat.le_refl _) (by omega))).1.2.2).1
 have hlast:num n (hgt n)+0=ts.length-1:=by rw [hln,tot,show num n (hgt n+1)=num n (hgt n)+cnt n (hgt n) from rfl,hch];omega
 have hpos:0<ts.length:=by have:=d7 (n:=n) (l:=hgt n) (j:=0) (Nat.le_refl _) (by omega);omega
 unfold d6 at hnd
 rw [hlast] at hnd
 change bA (ts.getD (ts.length-1) default).nd=0 at hnd
 refine ak fun G=> ?_
 refine aS 0 ?_
 intro hn hc hm ha
 subst hn
 (repeat' ((try refine aw ?_);(conv=>arg 4;whnf);first | refine az ?_ |(refine sN ?_;intro b)|((first | refine aA (sE h) ?_ | refine aA (jB (q:=q) hnd) ?_);intro x hx;refine aH ?_)| exact ax | fail));(all_goals refine av ?_)
theorem G7 (h:UOk n ts):Zp Tryz.prog 125 [vA (aV ⟨n,(some ⟨tb,to,none⟩,m,c)⟩)] [] [Sl a7 (some ⟨tb,to,none⟩) m c ts,Gs q] Nat (fun _=>True) (fun x=> .tuple #[vA (aV ⟨n,(some ⟨x,0,none⟩,ts.length,ts.length)⟩),vI 0]) (fun x=> [iB x ((AD ts.length ts).flatMap a7) 264]) (fun x=> []):=by
 have h2:=h.h2
 have htl:=b9 h2
 have hln:=h.ln
 refine ak fun G=> ?_
 refine aS 0 ?_
 intro hn hc hm ha
 subst hn
 (repeat' ((try refine aw ?_);(conv=>arg 4;whnf);first | refine az ?_ |(refine sN ?_;intro b)|((first | refine aA (sE h) ?_ | refine aA (AB (n:=n) (tb:=tb) (to:=to) (m:=ts.length) (c:=c) (ts:=ts) (by omega)) ?_);intro x hx;refine aH ?_)| fail));(all_goals refine av ?_)
 obtain ⟨rb,rfl⟩:∃r,r=x:=⟨x,rfl⟩
 have hu0:eo ts.length (lA ts.length ts) (fun i=>ts.getD i Un.zero) 0=ts:=yI Un.zero rfl
 have e0:ts.flatMap a7=(eo ts.length (lA ts.length ts) (fun i=>ts.getD i Un.zero) 0).flatMap a7:=by rw [hu0]
 refine dh [rb] (X:=Nat) (fun k=> [(20,vI k)]) (fun k=>k≤ts.length) (fun k=> [iB rb ((eo ts.length (lA ts.length ts) (fun i=>ts.getD i Un.zero) k).flatMap a7) 264]) (fun k=>ts.length-k) 0 (Nat.zero_le _) rfl (by rw [hu0];((repeat' (first | with_reducible exact ar _ | exact am _ | refine aE ?_ ?_ | fail))<;>(try with_reducible rfl))) ?_
 intro k hk
 (conv=>arg 2;simp only [List.cons_append,List.nil_append])
 by_cases hlt:k<ts.length
 ·have hy:(eo ts.length (lA ts.length ts) (fun i=>ts.getD i Un.zero) k).getD k default=ts.getD k default:=y8 _ hlt (Nat.le_refl _)
  have hUl:(eo ts.length (lA ts.length ts) (fun i=>ts.getD i Un.zero) k).length=ts.length:=rS
  have hset:=qZ (f:=lA ts.length ts) (g:=fun i=>ts.getD i Un.zero) hlt
  have hs:(ts.getD k default).sl=0∨(ts.getD k default).sl=1:=h.sl k hlt
  have hpe:lA ts.length ts k=⟨(ts.getD k default).nd,if k=ts.length-1 then 1-(ts.getD k default).sl else kB (ts.getD k default),false,List.replicate 4 false,rfl⟩:=rfl
  rw [hpe,←hy] at hset
  rw [←hy] at hs
  generalize hU:eo ts.length (lA ts.length ts) (fun i=>ts.getD i Un.zero) k=U at*
  by_cases hlast:k=ts.length-1
  ·rw [if_pos hlast] at hset
   rcases hs with hs0 | hs0
   ·have hS:Sb (a7 (U.getD k default)) 274 [.int .i64 ((0:Nat):Int)] True:=⟨fun _=>by have:=(inferInstance:Sb (a7 (U.getD k default)) 274 [.int .i64 (U.getD k default).sl] True).sb True.intro;rwa [hs0] at this⟩
    (repeat' ((try refine aw ?_);(conv=>arg 4;whnf);first | refine az ?_ |(refine sN ?_;intro b)|(refine aA (pW (.inl hs0)) ?_;intro x hx;refine aH ?_)| fail));(all_goals refine av ?_)
    refine a5 (k+1) rfl hlt ?_ (by omega)
    rw [←hset,hs0]
    ((repeat' (first | with_reducible exact ar _ | exact am _ | refine aE ?_ ?_ | fail))<;>(try with_reducible rfl))
    all_goals rfl
   ·have hS:Sb (a7 (U.getD k default)) 274 [.int .i64 ((1:Nat):Int)] True:=⟨fun _=>by have:=(inferInstance:Sb (a7 (U.getD k default)) 274 [.int .i64 (U.getD k default).sl] True).sb True.intro;rwa [hs0] at this⟩
    (repeat' ((try refine aw ?_);(conv=>arg 4;whnf);first | refine az ?_ |(refine sN ?_;intro b)|(refine aA (pW (.inr hs0)) ?_;intro x hx;refine aH ?_)| fail));(all_goals refine av ?_)
    refine a5 (k+1) rfl hlt ?_ (by omega)
    rw [←hset,hs0]
    ((repeat' (first | with_reducible exact ar _ | exact am _ | refine aE ?_ ?_ | fail))<;>(try with_reducible rfl))
    all_goals rfl
  ·rw [if_neg hlast] at hset
   (repeat' ((try refine aw ?_);(conv=>arg 4;whnf);first | refine az ?_ |(refine sN ?_;intro b)|(refine aA (pW hs) ?_;intro x hx;refine aH ?_)| fail));(all_goals refine av ?_)
   refine a5 (k+1) rfl hlt ?_ (by omega)
   rw [←hset]
   ((repeat' (first | with_reducible exact ar _ | exact am _ | refine aE ?_ ?_ | fail))<;>(try with_reducible rfl))
   all_goals rfl
 ·obtain rfl:k=ts.length:=by omega
  (repeat' ((try refine aw ?_);(conv=>arg 4;whnf);first | refine az ?_ |(refine sN ?_;intro b)| fail));(all_goals refine av ?_)
  rw [n6]
  refine aD rb True.intro rfl ?_ bu
  show Wk _ [iB rb (((List.range ts.length).map (lA ts.length ts)).flatMap a7) 264]
  ((repeat' (first | with_reducible exact ar _ | exact am _ | refine aE ?_ ?_ | fail))<;>(try with_reducible rfl))
end
end Go.Proofs.YtbobhnldhpjdlaaGreatDoor
namespace Go.Proofs.YtbobhnldhpjdlaaGreatDoor
open Go Go.RowKit Go.Cs Go.Cz
set_option maxRecDepth 100000
set_option maxHeartbeats 4000000
section
variable {n tb to m c:Nat} {ts:List Un} {q:Value×Value}
theorem UOk.st2 (h:UOk n ts) {b:Nat} (hb:b<n):((ts.getD (b/4) default).nd.rs.l.getD (b%4) default).st≤2:=by
 have hG:=GoodT.of h.ln (oc h.nd)
 have hw:b%4<4:=by omega
 have h0:=hG.pl 0 (b/4) (Nat.zero_le _) (by have:=gm n;unfold jR at*;omega)
 unfold d6 at h0
 rw [show num n 0=0 from rfl,Nat.zero_add] at h0
 have h3:=aZ.1 (gA h0.1 h0.2.1) (b%4) hw
 unfold bS at h3
 by_cases hg:2<((ts.getD (b/4) default).nd.rs.l.getD (b%4) default).st
 ·rw [if_pos (show 2<((ts.getD (b/4) Un.zero).nd.rs.get (b%4)).st from hg)] at h3;cases h3
 ·omega
theorem Bz {n k:Nat} {x:Non} {t:Dig} (ts:List Un):(qL n ts k x t).length=ts.length:=by
 unfold qL set1
 rw [oQ];simp
theorem Gt (hU:UOk n ts) {bi:Nat} (hb:bi<n) {k:Key} {xn:Non} {yd:Dig}:Zp Tryz.prog 185 [vA (aV ⟨n,(some ⟨tb,to,none⟩,m,c)⟩),vA (bC k),vI bi,vA (br xn),vA (ay yd)] [] [Sl a7 (some ⟨tb,to,none⟩) m c ts,Gs q] (Nat×Nat) (fun _=>True) (fun z=> .tuple #[vA (aV ⟨n,(some ⟨z.1,0,none⟩,ts.length,ts.length)⟩),vA (cx ⟨2*bi+fM (ts.getD (bi/4) default) (bi%4),(some ⟨z.2,0,none⟩,32,32)⟩),vI 0]) (fun _=> []) (fun z=> [Sl a7 (some ⟨z.1,0,none⟩) ts.length ts.length (qL n ts bi xn (il k bi xn (cJ k xn yd))),Sl cB (some ⟨z.2,0,none⟩) 32 32 (cJ k xn yd).l]):=by
 have h1:=hU.h1
 have h2:=hU.h2
 have htg:=lj (ts.getD (bi/4) default) (bi%4)
 have hs:=hU.st2 hb
 refine ak fun G=> ?_
 refine aS 0 ?_
 intro hn hc hm ha
 subst hn
 (repeat' ((try refine aw ?_);(conv=>arg 4;whnf);first | refine az ?_ |(refine sN ?_;intro b)|((first | refine aA (G6 hU hb hs) ?_ | refine aA (Gi (q:=q) (i:=bi) (by omega)) ?_ | refine aA (FK hU hb) ?_ | refine aA (j9 h1 h2 hb htg) ?_);intro x hx;refine aH ?_)| fail));(all_goals refine av ?_)
 rename_i db _ zb _
 refine eK (K:=cB) (l:=(cJ k xn yd).l) db 32 32 ?_
 refine eK (K:=a7) zb ts.length ts.length ?_ (hn:=⟨(Bz _).symm,Nat.le_refl _,by have:=b9 h2;have:=hU.ln;omega⟩)
 exact aD (zb,db) True.intro rfl (am _) bu
theorem Ib {y:Nod} {l j t:Nat} (h1:1≤n) (h2:n≤4096) (hc:bA y=0) (hlv:y.lv=l) (hix:y.ix=j) (hl:l≤hgt n) (hj:j<cnt n l) (ht:t≤1):Zp Tryz.prog 133 [vI n,vA (aU y),vI t] [] [Gs q] Nat (fun _=>True) (fun b=>vA (cx ⟨bas n l+2*j+t,(some ⟨b,0,none⟩,dx y,dx y)⟩)) (fun _=> []) (fun b=> [Sl cB (some ⟨b,0,none⟩) (dx y) (dx y) (aM y)]):=by
 subst hlv hix
 have h5:=a8 n
 have hcn:=cH n y.lv
 have hnd:=ue (n:=n) (l:=y.lv) (j:=y.ix) (t:=t) h1 h2 hl hj ht
 refine ak fun G=> ?_
 (repeat' ((try refine aw ?_);(conv=>arg 4;whnf);first | refine az ?_ |(refine sN ?_;intro b)|((first | refine aA hnd ?_ | refine aA (oE (q:=q) hc) ?_);intro x hx;refine aH ?_)| fail));(all_goals refine av ?_)
 refine eK (K:=cB) (l:=aM y) x (dx y) (dx y) ?_ (hn:=⟨(dN _).symm,Nat.le_refl _,by unfold dx;split<;>omega⟩)
 exact aD x True.intro rfl (am _) bu
end
end Go.Proofs.YtbobhnldhpjdlaaGreatDoor
namespace Go.Proofs.YtbobhnldhpjdlaaGreatDoor
open Go Go.RowKit Go.Cs Go.Cz
set_option maxRecDepth 100000
set_option maxHeartbeats 4000000
def Wm:List SWri→List (Nat×List UInt8)→Pt
 | [], []=>fun _=>True
 | v::vs,x::xs=>fun w=>v.Sector=x.1∧Sl cB v.Bytes.1 v.Bytes.2.1 v.Bytes.2.2 x.2 w∧Wm vs xs w
 | _,_=>fun _=>False
theorem Wm.app {w:World} {v:SWri} {y:Nat×List UInt8} (h1:v.Sector=y.1) (h2:Sl cB v.Bytes.1 v.Bytes.2.1 v.Bytes.2.2 y.2 w):∀{vs:List SWri} {xs:List (Nat×List UInt8)},Wm vs xs w→Wm (vs++ [v]) (xs++ [y]) w
 | [], [],h=>⟨h1,h2,trivial⟩
 | a::vs,c::xs,h=>⟨h.1,h.2.1,Wm.app h1 h2 h.2.2⟩
 | [],_::_,h=>h.elim
 | _::_, [],h=>h.elim
theorem Wm.len {w:World}:∀{vs:List SWri} {xs:List (Nat×List UInt8)},Wm vs xs w→vs.length=xs.length
 | [], [],h=>rfl
 | a::vs,c::xs,h=>congrArg Nat.succ (Wm.len h.2.2)
 | [],_::_,h=>h.elim
 | _::_, [],h=>h.elim
theorem Wm.get {w:World}:∀{vs:List SWri} {xs:List (Nat×List UInt8)} {i:Nat},Wm vs xs w→i<xs.length→(vs.getD i default).Sector=(xs.getD i default).1∧Sl cB (vs.getD i default).Bytes.1 (vs.getD i default).Bytes.2.1 (vs.getD i default).Bytes.2.2 (xs.getD i default).2 w
 | a::vs,c::xs,0,h,_=>⟨h.1,h.2.1⟩
 | a::vs,c::xs,i+1,h,hi=>Wm.get (i:=i) h.2.2 (by simpa using hi)
 | [], [],i,h,hi=>by simp at hi
 | [],_::_,_,h,_=>h.elim
 | _::_, [],_,h,_=>h.elim
section
variable {n tb to m c:Nat} {ts:List Un} {q:Value×Value}
theorem Jl {v:SUtr}:Zp Tryz.prog 214 [vA (aV v)] [] [] Nat (fun _=>True) (fun b=> .func (.func 272) #[] #[vP b 0]) (fun _=> []) (fun b=> [Bk b (aV v)]):=by
 refine ak fun G=> ?_
 (repeat' ((try refine aw ?_);(conv=>arg 4;whnf);first | refine az ?_ |(refine sN ?_;intro b)| fail));(all_goals refine av ?_)
 revert b;intro tx
 refine bG tx ?_
 exact aD tx True.intro rfl (am _) bu
theorem UOk.at (h:UOk n ts) {k:Nat} (hk:k<ts.length):∃l j,l≤hgt n∧j<cnt n l∧num n l+j=k∧bA (ts.getD k default).nd=0∧(ts.getD k default).nd.lv=l∧(ts.getD k default).nd.ix=j:=by
 have h0:=hk
 rw [h.ln] at h0
 obtain ⟨a,b,c⟩:=rT h0
 have e:num n (B7 n k)+(k-num n (B7 n k))=k:=by omega
 have h1:=(fR (h.nd _ _ a c)).1
 unfold d6 at h1
 rw [e] at h1
 exact ⟨_,_,a,c,e,(cA h1.2.2).1,h1.1,h1.2.1⟩
theorem iq {k:Nat} (h:iX n ts k=true):di n ts (k+1)=di n ts k++ [mN n ts k]:=if_pos h
theorem wQ {k:Nat} (h:¬iX n ts k=true):di n ts (k+1)=di n ts k:=if_neg h
theorem Jw {bx:Nat} (h:UOk n ts):Zp Tryz.prog 213 [.func (.func 272) #[] #[vP bx 0]] [] [Bk bx (aV ⟨n,(some ⟨tb,to,none⟩,m,c)⟩),Sl a7 (some ⟨tb,to,none⟩) m c ts,Gs q] (List SWri×Nat×Nat×Nat) (fun x=>x.2.2.2≤9223372036854775807∧x.1.length≤x.2.2.2∧0<x.1.length∧x.1.length=(di n ts ts.length).length) (fun x=> .slice (some ⟨x.2.1,x.2.2.1,none⟩) x.1.length x.2.2.2) (fun _=> []) (fun x=> [Sl cx (some ⟨x.2.1,x.2.2.1,none⟩) x.1.length x.2.2.2 x.1,Wm x.1 (di n ts ts.length)]):=by
 have h1:=h.h1
 have h2:=h.h2
 have htl:=b9 h2
 have hln:=h.ln
 refine ak fun G=> ?_
 refine aS 1 ?_
 intro hn hc hm ha
 subst hn
 have hpos:0<ts.length:=by have:=d7 (n:=n) (l:=hgt n) (j:=0) (Nat.le_refl _) (dk h1 _);omega
 have hlast:ts.length-1=tot n-1:=by omega
 (repeat' ((try refine aw ?_);(conv=>arg 4;whnf);first | refine az ?_ |(refine sN ?_;intro b)|(refine aa ?_;intro g c')| refine ae ?_ | refine ai ?_ |(refine aj rfl ?_;intro D lL)| fail));(all_goals refine av ?_)
 revert b;intro xb
 refine aR (Wm [] (di n ts 0)) (fun w _ _=>trivial) ?_
 refine w6 [xb] (X:=Nat×List SWri×Option Addr×Nat) (fun x=> [(13,vI x.1)]) (fun x=>x.1≤ts.length∧x.2.1.length≤x.1) (fun x=> [iB xb [.slice x.2.2.1 x.2.1.length x.2.2.2] 248,iN cx 2 x.2.2.1 x.2.1.length x.2.2.2 266 x.2.1]) (fun x=> [Wm x.2.1 (di n ts x.1)]) (fun x=>ts.length-x.1) (0, [],none,0) ⟨Nat.zero_le _,Nat.le_refl _⟩ rfl (by
  ((repeat' (first | with_reducible exact ar _ | exact am _ | refine aE ?_ ?_ | refine aX ?_ | refine qT rfl ?_))<;>(try with_reducible rfl))
  all_goals rfl) bu ?_
 rintro ⟨k,vs,a,c0⟩ ⟨hk,hvl⟩
 (conv=>arg 2;simp only [List.cons_append,List.nil_append])
 (conv=>arg 3;simp only [List.cons_append,List.nil_append])
 dsimp only at hk hvl⊢
 by_cases hlt:k<ts.length
 ·obtain ⟨l,j,hl,hj,hp,hck,hlv,hix⟩:=h.at hlt
  obtain ⟨s,hs1,hs⟩:∃s:Nat,s≤1∧(ts.getD k default).sl=(s:Int):=by
   rcases h.sl k hlt with e | e
   ·exact ⟨0,by omega,e⟩
   ·exact ⟨1,by omega,e⟩
  have hS:Sb (a7 (ts.getD k default)) 274 [.int .i64 ((s:Nat):Int)] True:=⟨fun _=>by have:=(inferInstance:Sb (a7 (ts.getD k default)) 274 [.int .i64 (ts.getD k default).sl] True).sb True.intro;rwa [hs] at this⟩
  have hnd:=Ib (q:=q) (y:=(ts.getD k default).nd) (t:=1-s) h1 h2 hck hlv hix hl hj (by omega)
  have hkey:bas n l+2*j+(1-s)=ee n k (1-(ts.getD k default).sl).toNat:=by rw [iP,hp,hs];congr 1;omega
  have hkk:mN n ts k=(ee n k (1-(ts.getD k default).sl).toNat,aM (ts.getD k default).nd):=rfl
  cases hdt:(ts.getD k default).dt with
  | true=>
   have hD:Sb (a7 (ts.getD k default)) 275 [.bool true] True:=⟨fun _=>by have:=(inferInstance:Sb (a7 (ts.getD k default)) 275 [.bool (ts.getD k default).dt] True).sb True.intro;rwa [hdt] at this⟩
   have hw:iX n ts k=true:=by unfold iX;rw [show (ts.getD k Un.zero).dt=true from hdt];rfl
   by_cases hla:k=ts.length-1
   ·(repeat' ((try refine aw ?_);(conv=>arg 4;whnf);first | refine az ?_ |(refine sN ?_;intro b)|(refine aa ?_;intro g c')|(refine cw hnd ?_;intro x hx;refine bV ?_)| refine ae ?_ | refine ai ?_ |(refine aj rfl ?_;intro D lL)| fail));(all_goals refine av ?_)
    refine aR (Wm (vs++ [⟨bas n l+2*j+(1-s),(some ⟨x,0,none⟩,dx (ts.getD k default).nd,dx (ts.getD k default).nd)⟩]) (di n ts (k+1))) (fun w _ hf=>by
     rw [iq hw]
     exact Wm.app hkey (hf _ (.head _)) (hf _ (.tail _ (.head _)))) ?_
    refine eU (k+1,vs++ [⟨bas n l+2*j+(1-s),(some ⟨x,0,none⟩,dx (ts.getD k default).nd,dx (ts.getD k default).nd)⟩],some ⟨g,0,none⟩,c') ⟨by omega,by simp;omega⟩ (by
     dsimp only
     rw [List.length_append]
     ((repeat' (first | with_reducible exact ar _ | exact am _ | refine aE ?_ ?_ | refine aX ?_))<;>(try with_reducible rfl))
     all_goals rfl) (by dsimp only;omega) bu
   ·(repeat' ((try refine aw ?_);(conv=>arg 4;whnf);first | refine az ?_ |(refine sN ?_;intro b)|(refine aa ?_;intro g c')|(refine cw hnd ?_;intro x hx;refine bV ?_)| refine ae ?_ | refine ai ?_ |(refine aj rfl ?_;intro D lL)| fail));(all_goals refine av ?_)
    refine aR (Wm (vs++ [⟨bas n l+2*j+(1-s),(some ⟨x,0,none⟩,dx (ts.getD k default).nd,dx (ts.getD k default).nd)⟩]) (di n ts (k+1))) (fun w _ hf=>by
     rw [iq hw]
     exact Wm.app hkey (hf _ (.head _)) (hf _ (.tail _ (.head _)))) ?_
    refine eU (k+1,vs++ [⟨bas n l+2*j+(1-s),(some ⟨x,0,none⟩,dx (ts.getD k default).nd,dx (ts.getD k default).nd)⟩],some ⟨g,0,none⟩,c') ⟨by omega,by simp;omega⟩ (by
     dsimp only
     rw [List.length_append]
     ((repeat' (first | with_reducible exact ar _ | exact am _ | refine aE ?_ ?_ | refine aX ?_))<;>(try with_reducible rfl))
     all_goals rfl) (by dsimp only;omega) bu
  | false=>
   have hD:Sb (a7 (ts.getD k default)) 275 [.bool false] True:=⟨fun _=>by have:=(inferInstance:Sb (a7 (ts.getD k default)) 275 [.bool (ts.getD k default).dt] True).sb True.intro;rwa [hdt] at this⟩
   by_cases hla:k=ts.length-1
   ·have hw:iX n ts k=true:=by unfold iX;rw [hla,hlast];simp
    (repeat' ((try refine aw ?_);(conv=>arg 4;whnf);first | refine az ?_ |(refine sN ?_;intro b)|(refine aa ?_;intro g c')|(refine cw hnd ?_;intro x hx;refine bV ?_)| refine ae ?_ | refine ai ?_ |(refine aj rfl ?_;intro D lL)| fail));(all_goals refine av ?_)
    refine aR (Wm (vs++ [⟨bas n l+2*j+(1-s),(some ⟨x,0,none⟩,dx (ts.getD k default).nd,dx (ts.getD k default).nd)⟩]) (di n ts (k+1))) (fun w _ hf=>by
     rw [iq hw]
     exact Wm.app hkey (hf _ (.head _)) (hf _ (.tail _ (.head _)))) ?_
    refine eU (k+1,vs++ [⟨bas n l+2*j+(1-s),(some ⟨x,0,none⟩,dx (ts.getD k default).nd,dx (ts.getD k default).nd)⟩],some ⟨g,0,none⟩,c') ⟨by omega,by simp;omega⟩ (by
     dsimp only
     rw [List.length_append]
     ((repeat' (first | with_reducible exact ar _ | exact am _ | refine aE ?_ ?_ | refine aX ?_))<;>(try with_reducible rfl))
     all_goals rfl) (by dsimp only;omega) bu
   ·have hw:¬iX n ts k=true:=by unfold iX;rw [show (ts.getD k Un.zero).dt=false from hdt];simp;omega
    (repeat' ((try refine aw ?_);(conv=>arg 4;whnf);first | refine az ?_ |(refine sN ?_;intro b)|(refine aa ?_;intro g c')|(refine cw hnd ?_;intro x hx;refine bV ?_)| refine ae ?_ | refine ai ?_ |(refine aj rfl ?_;intro D lL)| fail));(all_goals refine av ?_)
    rw [←wQ hw]
    exact eU (k+1,vs,a,c0) ⟨by omega,by dsimp only;omega⟩ (by
     ((repeat' (first | with_reducible exact ar _ | exact am _ | refine aE ?_ ?_ | refine aX ?_))<;>(try with_reducible rfl))
     all_goals rfl) (by dsimp only;omega) bu
 ·obtain rfl:k=ts.length:=by omega
  (repeat' ((try refine aw ?_);(conv=>arg 4;whnf);first | refine az ?_ |(refine sN ?_;intro b)|(refine aa ?_;intro g c')| refine ae ?_ | refine ai ?_ |(refine aj rfl ?_;intro D lL)| fail));(all_goals refine av ?_)
  refine eE (m:=2) (e:=266) cx a vs.length c0 ?_
  refine f5 (p:=vs.length=(di n ts ts.length).length) (fun w _ hf=>Wm.len (hf (Wm vs (di n ts ts.length)) (.tail _ (.head _)))) ?_
  intro hlen
  have hwp:0<(di n ts ts.length).length:=by
   obtain ⟨k,hk1⟩:∃k,ts.length=k+1:=⟨ts.length-1,by omega⟩
   have hw:iX n ts k=true:=by unfold iX;rw [show k=tot n-1 by omega];simp
   rw [hk1,iq hw];simp
  have hv0:0<vs.length:=by omega
  refine aS 0 ?_
  intro _ hc1 hm1 ha1
  obtain ⟨g,o,rfl⟩:=ha1 hv0 (by decide)
  exact aD (vs,g,o,c0) ⟨hm1,hc1,hv0,hlen⟩ rfl (am _) bu
end
end Go.Proofs.YtbobhnldhpjdlaaGreatDoor
namespace Go.Proofs.YtbobhnldhpjdlaaGreatDoor
open Go Go.RowKit Go.Cs Go.Cz
set_option maxRecDepth 100000
set_option maxHeartbeats 4000000
section
variable {n tb to m c:Nat} {ts:List Un} {q:Value×Value}
theorem JD {cell:Cel} (h:UOk n ts) (hsl:(ts.getD (ts.length-1) default).sl=((cell.ep%2:Nat):Int)) (hep:cell.ep<2^63):Zp Tryz.prog 122 [vA (aV ⟨n,(some ⟨tb,to,none⟩,m,c)⟩),vA (aL cell)] [] [Sl a7 (some ⟨tb,to,none⟩) m c ts,Gs q] (List SWri×Nat×Nat) (fun x=>0<x.1.length∧x.1.length=(di n ts ts.length).length) (fun x=> .tuple #[.slice (some ⟨x.2.1,x.2.2,none⟩) x.1.length x.1.length,vA (aL (cell.nxt (bI (aM (ts.getD (ts.length-1) default).nd)))),vI 0]) (fun _=> []) (fun x=> [Sl cx (some ⟨x.2.1,x.2.2,none⟩) x.1.length x.1.length x.1,Wm x.1 (di n ts ts.length)]):=by
 have h1:=h.h1
 have h2:=h.h2
 have htl:=b9 h2
 have hln:=h.ln
 have hpos:0<ts.length:=by have:=d7 (n:=n) (l:=hgt n) (j:=0) (Nat.le_refl _) (dk h1 _);omega
 have hS:Sb (a7 (ts.getD (ts.length-1) default)) 274 [.int .i64 ((cell.ep%2:Nat):Int)] True:=⟨fun _=>by have:=(inferInstance:Sb (a7 (ts.getD (ts.length-1) default)) 274 [.int .i64 (ts.getD (ts.length-1) default).sl] True).sb True.intro;rwa [hsl] at this⟩
 refine ak fun G=> ?_
 refine aS 0 ?_
 intro hn hc hm ha
 subst hn
 have hrt:=GZ (tb:=tb) (to:=to) (m:=ts.length) (c:=c) (q:=q) h
 have hco:=fun bx=>Jw (bx:=bx) (tb:=tb) (to:=to) (m:=ts.length) (c:=c) (q:=q) h
 (repeat' ((try refine aw ?_);(conv=>arg 4;whnf);first | refine aO ?_ |(refine sN ?_;intro b)|((first | refine aA hrt ?_ | refine aA nL ?_ | refine aA (wX (y:=cell) hep) ?_);intro x hx;refine aH ?_)| refine ae ?_ | fail));(all_goals refine av ?_)
 (first |(refine bh ?_;(conv=>arg 4;whnf);refine bc rfl ?_))
 (repeat' ((try refine aw ?_);(conv=>arg 4;whnf);first | refine aO ?_ |(refine sN ?_;intro b)|((first | refine aA hrt ?_ | refine aA nL ?_ | refine aA (wX (y:=cell) hep) ?_);intro x hx;refine aH ?_)| refine ae ?_ | fail));(all_goals refine av ?_)
 refine FP rfl ?_
 (repeat' ((try refine aw ?_);(conv=>arg 4;whnf);first | refine aO ?_ |(refine sN ?_;intro b)|((first | refine cw Jl ?_ | refine cw (hco _) ?_);intro x hx;refine bV ?_)| refine ae ?_ | fail));(all_goals refine av ?_)
 obtain ⟨vs,g,o,c0⟩:=x
 refine je 0 ?_
 exact aD (vs,g,o) ⟨hx.2.2.1,hx.2.2.2⟩ rfl (am _) bu
end
theorem IB {d:SDsk} {I:DI} {sz B:Nat} {con:Con} {vs:List SWri} {l:List (Nat×List UInt8)} {g o:Nat} (hD:DOk d I sz B con) (hB:B+l.length≤1099511627776) (hv0:0<vs.length) (hvm:vs.length≤65536) (hl:∀i,i<l.length→(l.getD i default).1<sz∧(l.getD i default).2.length≤256):Zp Tryz.prog 123 [vA (aJ d), .slice (some ⟨g,o,none⟩) vs.length vs.length,vI vs.length] [] [Dm d I,Sl cx (some ⟨g,o,none⟩) vs.length vs.length vs,Wm vs l] (SDsk×DI) (fun x=>DOk x.1 x.2 sz (B+l.length) (con.puts l)∧x.1.size=d.size) (fun x=> .tuple #[vA (aJ x.1),vI 0]) (fun _=> []) (fun x=> [Dm x.1 x.2]):=by
 refine ak fun G=> ?_
 refine f5 (p:=vs.length=l.length) (fun w _ hf=>Wm.len (hf (Wm vs l) (.tail _ (.tail _ (.head _))))) ?_
 intro hlen
 (repeat' ((try refine aw ?_);(conv=>arg 4;whnf);first | refine az ?_ |(refine sN ?_;intro b)| fail));(all_goals refine av ?_)
 rename_i db
 revert b;intro rb
 refine w6 [db] (X:=Nat×SDsk×DI) (fun x=> [(7, .int .i64 0),(25,vI x.1)]) (fun x=>x.1≤l.length∧DOk x.2.1 x.2.2 sz (B+x.1) (con.puts (l.take x.1))∧x.2.1.size=d.size) (fun x=> [iB db (aJ x.2.1) 36]) (fun x=> [Dm x.2.1 x.2.2]) (fun x=>l.length-x.1) (0,d,I) ⟨Nat.zero_le _,hD,rfl⟩ rfl cD bu ?_
 rintro ⟨i,d1,I1⟩ ⟨hi,hD1,hs1⟩
 (conv=>arg 2;simp only [List.cons_append,List.nil_append])
 (conv=>arg 3;simp only [List.cons_append,List.nil_append])
 dsimp only at hi hD1 hs1⊢
 by_cases hlt:i<l.length
 ·obtain ⟨hlt1,hlt2⟩:=hl i hlt
  have hch:=hD1.chg
  have hvl:=hD1.vl
  refine f5 (p:=(vs.getD i default).Sector=(l.getD i default).1) (fun w _ hf=>((hf (Wm vs l) (by simp)).get hlt).1) ?_
  intro hsec
  refine aR (Sl cB (vs.getD i default).Bytes.1 (vs.getD i default).Bytes.2.1 (vs.getD i default).Bytes.2.2 (l.getD i default).2) (fun w _ hf=>((hf (Wm vs l) (by simp)).get hlt).2) ?_
  have hsI:(vs.getD i default).Sector<I1.size:=by rw [hD1.size,hsec];exact hlt1
  have hvl2:(I1.vs.getD (vs.getD i default).Sector []).length≤1099511627776:=by
   have:=hvl (vs.getD i default).Sector
   rw [←hD1.cn,DI.con_len] at this;omega
  have hdw:=fun (a:Option Addr) (n c:Nat)=>uJ (d:=d1) (I:=I1) (s:=(vs.getD i default).Sector) (a:=a) (n:=n) (c:=c) (l:=(l.getD i default).2) hD1.ok hsI (by omega) hvl2 hlt2
  (repeat' ((try refine aw ?_);(conv=>arg 4;whnf);first | refine az ?_ |(refine sN ?_;intro b)|(refine cw (hdw _ _ _) ?_;intro x hx;refine bV ?_)| fail));(all_goals refine av ?_)
  obtain ⟨d',nb,v1,v2⟩:=x
  have hput:=hD1.put (d':=d') (nb:=nb) (s:=(vs.getD i default).Sector) (v:=⟨v1,v2,true,(l.getD i default).2⟩) (by rw [hsec];exact hlt1) hx.2 (fun _=>hlt2)
  rw [if_pos (show (⟨v1,v2,true,(l.getD i default).2⟩:VN).th=true from rfl)] at hput
  have hge:l[i]'hlt=l.getD i default:=List.getElem_eq_getD (h:=hlt) default
  have e:con.puts (l.take (i+1))=(con.puts (l.take i)).put (vs.getD i default).Sector (some (l.getD i default).2):=by
   rw [List.take_succ_eq_append_getElem hlt,Con.puts_app,hsec,hge];rfl
  exact eU (i+1,d',I1.put (vs.getD i default).Sector nb ⟨v1,v2,true,(l.getD i default).2⟩) ⟨hlt,by dsimp only;rw [e,←Nat.add_assoc];exact hput,hx.1.trans hs1⟩ cD (by dsimp only;omega) bu
 ·obtain rfl:i=l.length:=by omega
  rw [List.take_length] at hD1
  (repeat' ((try refine aw ?_);(conv=>arg 4;whnf);first | refine az ?_ |(refine sN ?_;intro b)| fail));(all_goals refine av ?_)
  exact aD (d1,I1) ⟨hD1,hs1⟩ rfl (am _) bu
end Go.Proofs.YtbobhnldhpjdlaaGreatDoor
namespace Go.Proofs.YtbobhnldhpjdlaaGreatDoor
open Go Go.RowKit Go.Cs Go.Cz
set_option maxRecDepth 100000
set_option maxHeartbeats 4000000
section
variable {α:Type} {n v j l i:Nat} {f:Nat→Nat→α} {z:α}
def C5 (f:Nat→Nat→α) (z:α) (v j:Nat):Nat→Nat→α:=fun l i=>if v≤l∨(l+1=v∧i<j) then f l i else z
def eC (n:Nat) (f:Nat→Nat→α) (z:α) (v j:Nat):List α:=TX n (C5 f z v j)
theorem qP:(eC n f z v j).length=tot n:=fT _ _
theorem B0 (d:α) (hl:l≤hgt n) (hj:i<cnt n l) (h:v≤l):(eC n f z v j).getD (num n l+i) d=f l i:=by
 rw [eC,e7 d hl hj];exact if_pos (.inl h)
theorem rE (hl:l≤hgt n) (hj:j<cnt n l):(eC n f z (l+1) j).set (num n l+j) (f l j)=eC n f z (l+1) (j+1):=by
 rw [eC,o3 z _ hl hj]
 refine eu z fun a b ha hb=> ?_
 unfold C5
 by_cases h:a=l∧b=j
 ·obtain ⟨rfl,rfl⟩:=h
  rw [if_pos ⟨rfl,rfl⟩,if_pos (.inr ⟨rfl,by omega⟩)]
 ·rw [if_neg h]
  by_cases h1:l+1≤a∨(a+1=l+1∧b<j)
  ·rw [if_pos h1,if_pos (by omega)]
  ·rw [if_neg h1,if_neg (by omega)]
theorem qq:eC n f z (l+1) (cnt n l)=eC n f z l 0:=eu z fun a b ha hb=>by
 unfold C5
 by_cases h1:l≤a
 ·by_cases h2:a=l
  ·subst h2;rw [if_pos (.inr ⟨rfl,hb⟩),if_pos (.inl (Nat.le_refl _))]
  ·rw [if_pos (.inl (by omega)),if_pos (.inl h1)]
 ·rw [if_neg (by omega),if_neg (by omega)]
theorem oq:eC n f z 0 0=TX n f:=eu z fun a b ha hb=>if_pos (.inl (Nat.zero_le _))
theorem rO (h1:cnt n (hgt n)=1):(List.replicate (tot n) z).set (num n (hgt n)) (f (hgt n) 0)=eC n f z (hgt n) 0:=by
 have e:List.replicate (tot n) z=TX n (fun _ _=>z):=i6 z (by simp) fun l j hl hj=>by
  simp only [List.getD_eq_getElem?_getD,List.getElem?_replicate];split<;>rfl
 have:=o3 (n:=n) (f:=fun _ _=>z) (l:=hgt n) (j:=0) z (f (hgt n) 0) (Nat.le_refl _) (by omega)
 rw [Nat.add_zero] at this
 rw [e,this]
 refine eu z fun a b ha hb=> ?_
 unfold C5
 by_cases h:a=hgt n
 ·subst h
  rw [if_pos ⟨rfl,by omega⟩,if_pos (.inl (Nat.le_refl _)),show b=0 by omega]
 ·rw [if_neg (fun hh=>h hh.1),if_neg (by omega)]
end
def rQ (L:List Rec) (s:List Nat) (l j:Nat):Nat:=if l≠hgt L.length∧bK L l j=true then 1 else s.getD (num L.length l+j) 0
def ra (L:List Rec) (s:List Nat):List Nat:=TX L.length (rQ L s)
theorem lh {L:List Rec} {s:List Nat}:(ra L s).length=tot L.length:=fT _ _
theorem vG {L:List Rec} {s:List Nat} {l j:Nat} (hl:l≤hgt L.length) (hj:j<cnt L.length l):(ra L s).getD (num L.length l+j) 0=rQ L s l j:=e7 0 hl hj
theorem kC {L:List Rec} {S S':List Nat}:∀{v j:Nat},(∀l k,l<v→k<cnt L.length l→bK L l k=false→S.getD (num L.length l+k) 0=S'.getD (num L.length l+k) 0)→aK L S v j=aK L S' v j
 | 0,j,h=>by rw [aP,aP];exact cg (fun i hi=>rfl) (fun i hi=>by simp)
 | v+1,j,h=>by
  rw [aP,aP]
  refine cg (fun i hi=>by simp) (fun i hi=> ?_)
  by_cases hp:i<prt L.length (v+1) j
  ·have hc:4*j+i<cnt L.length v:=(bM hi).1 hp
   rw [if_pos ⟨hp,by omega⟩,if_pos ⟨hp,by omega⟩,Nat.add_sub_cancel]
   unfold cX
   by_cases he:bK L v (4*j+i)=true
   ·rw [if_pos he,if_pos he]
   ·rw [if_neg he,if_neg he]
    refine Ent.ext' ?_ ?_
    ·show (S.getD (num L.length v+(4*j+i)) 0+1)%2^8=(S'.getD (num L.length v+(4*j+i)) 0+1)%2^8
     rw [h v _ (Nat.lt_succ_self v) hc (by simpa using he)]
    ·show bI (aM (aK L S v (4*j+i)))=bI (aM (aK L S' v (4*j+i)))
     rw [kC (fun l k h1 h2=>h l k (by omega) h2)]
  ·rw [if_neg (fun hh=>hp hh.1),if_neg (fun hh=>hp hh.1)]
theorem z7 {L:List Rec} {S:List Nat} {l j:Nat} (hO:OkM L S) (he:bK L l j=true):aK L S l j=Nod.mt l j:=by
 rw [aP]
 refine zJ (fun w hw=> ?_) fun w hw=> ?_
 ·by_cases h:w<prt L.length l j∧l=0
  ·rw [if_pos h]
   obtain ⟨_,rfl⟩:=h
   by_cases hi:4*j+w<L.length
   ·exact A0 (hO.rc _ hi) (a9.1 he _ hi (show (4*j+w)/4=j by omega))
   ·rw [List.getD_eq_getElem?_getD,List.getElem?_eq_none (by omega)];rfl
  ·rw [if_neg h]
 ·by_cases h:w<prt L.length l j∧l≠0
  ·rw [if_pos h]
   obtain ⟨k,rfl⟩:∃k,l=k+1:=⟨l-1,by omega⟩
   exact if_pos (nS.1 he w hw)
  ·rw [if_neg h]
theorem A8 {L:List Rec} {s:List Nat} {l j:Nat} (hl:l≤hgt L.length):aK L (ra L s) l j=aK L s l j:=kC fun v i hv hi he=>by
 rw [vG (by omega) hi]
 exact if_neg (by rw [he];simp)
theorem xg {L:List Rec} {s:List Nat} (h:OkM L s):OkM L (ra L s):=⟨h.n1,h.n2,h.rc,lh,fun i=>by
 by_cases hi:i<(ra L s).length
 ·have h0:=hi
  rw [lh] at h0
  obtain ⟨a,b,c⟩:=rT h0
  have e:=vG (s:=s) a c
  rw [show num L.length (B7 L.length i)+(i-num L.length (B7 L.length i))=i by omega] at e
  rw [e]
  unfold rQ
  split
  ·exact Nat.le_refl _
  ·exact h.sl _
 ·rw [List.getD_eq_getElem?_getD,List.getElem?_eq_none (by omega)];exact Nat.zero_le _⟩
theorem xH {L:List Rec} {s:List Nat}:bJ L (ra L s)=bJ L s:=eu Nod.zero fun a b ha hb=>A8 ha
section
variable {n:Nat} {k:Key} {d:SDsk} {I:DI} {L:List Rec} {s:List Nat} {dur:List Dig} {cell:Cel} {q:Value×Value}
theorem HG (h:DV n k d I L s dur cell):Zp Tryz.prog 42 [vI n,vA (aJ d),vA (aL cell)] [] [Dm d I,Gs q] (Nat×Nat) (fun _=>True) (fun x=> .tuple #[vA (cy ⟨n,(some ⟨x.1,0,none⟩,tot n,tot n)⟩), .slice (some ⟨x.2,0,none⟩) (tot n) (tot n),vA (bW SPrb.zero),vI 0]) (fun _=> []) (fun x=> [Sl aU (some ⟨x.1,0,none⟩) (tot n) (tot n) (bJ L s),Sl cI (some ⟨x.2,0,none⟩) (tot n) (tot n) (ra L s)]):=by
 have h1:=h.int.bl.1
 have h2:=h.int.bl.2
 have h5:=a8 n
 have htl:=b9 h2
 have hte:=eR h1 h2
 obtain ⟨f1,f2,f3,f4⟩:=h.nd (Nat.le_refl _) (dk h1 (hgt n))
 have hr:=Il (q:=q) (d:=d) h1 h2 h.ok h.sd h.si h.top f1 f2 f3 f4 h.rootD
 have hc1:cnt n (hgt n)=1:=eg h1 h2
 have hns:=cz h2 (l:=hgt n) (by omega)
 refine ak fun G=> ?_
 (repeat' ((first | refine gC ?_ | refine dO ?_ | skip);(conv=>arg 4;whnf);first |(refine qa ?_;first | refine cu ?_ | refine bD ?_)|(refine pZ ?_;first | refine fD ?_ | refine fK ?_ | refine fx ?_ | refine fC ?_ | refine fA ?_ | refine fk ?_ | refine fI ?_ | refine ft ?_ | refine fF ?_ | fail)|(refine p8 ?_;first | refine sL ?_ | fail)|(refine p9 ?_;first | refine sS ?_ | fail)|(refine p5 ?_;first | refine ng ?_ |(refine sN ?_;intro b)| fail)|(refine p3 ?_;(conv=>arg 4;arg 5;ext C;whnf);first | refine cR ?_ | refine nc ?_)|(refine p4 ?_;(conv=>arg 4;arg 6;ext C;whnf);first | refine mc ?_ | fail)|(refine p6 ?_;first | refine fh ?_ | refine dw ?_)|(refine gN ?_;first |(refine aA (hr) ?_;intro x hx;try (conv=>arg 2;simp only [List.nil_append,List.cons_append]))|(refine aA (Ii h1 h2) ?_;intro x hx;try (conv=>arg 2;simp only [List.nil_append,List.cons_append]))|(refine aA (nL) ?_;intro x hx;try (conv=>arg 2;simp only [List.nil_append,List.cons_append]))| fail)| exact aD () True.intro rfl (am _)| refine fi ?_ | refine fN ?_ | refine af ?_ ?_ |(refine p7 ?_;first | refine du ?_ |(refine fu ?_ ?_ (by first | exact fun _ h=>h | exact fun _ h=> .tail _ h | exact fun _ h=> .tail _ (.tail _ h)| exact fun _ h=> .tail _ (.tail _ (.tail _ h)));rotate_left;focus ((((repeat' (first | with_reducible exact ar _ | exact am _ | refine aE ?_ ?_ | refine aG inferInstance ?_ | fail))<;>(try with_reducible rfl)))<;>fail)))| fail));(all_goals ((conv=>arg 4;whnf);try ((first | refine cu ?_ | refine bD ?_);conv=>arg 4;whnf)))
 rename_i db ceb trb pb _ _ rtb nb
 revert b;intro sb
 refine dH [nb,sb] rfl ?_
 (repeat' ((first | refine gC ?_ | refine dO ?_ | skip);(conv=>arg 4;whnf);first |(refine qa ?_;first | refine cu ?_ | refine bD ?_)|(refine pZ ?_;first | refine fD ?_ | refine fK ?_ | refine fx ?_ | refine fC ?_ | refine fA ?_ | refine fk ?_ | refine fI ?_ | refine ft ?_ | refine fF ?_ | fail)|(refine p8 ?_;first | refine sL ?_ | fail)|(refine p9 ?_;first | refine sS ?_ | fail)|(refine p5 ?_;first | refine ng ?_ |(refine sN ?_;intro b)| fail)|(refine p3 ?_;(conv=>arg 4;arg 5;ext C;whnf);first | refine cR ?_ | refine nc ?_)|(refine p4 ?_;(conv=>arg 4;arg 6;ext C;whnf);first | refine mc ?_ | fail)|(refine p6 ?_;first | refine fh ?_ | refine dw ?_)|(refine gN ?_;first |(refine aA (nL) ?_;intro x hx;try (conv=>arg 2;simp only [List.nil_append,List.cons_append]))| fail)| exact aD () True.intro rfl (am _)| refine fi ?_ | refine fN ?_ | refine af ?_ ?_ |(refine p7 ?_;first | refine du ?_ |(refine fu ?_ ?_ (by first | exact fun _ h=>h | exact fun _ h=> .tail _ h | exact fun _ h=> .tail _ (.tail _ h)| exact fun _ h=> .tail _ (.tail _ (.tail _ h)));rotate_left;focus ((((repeat' (first | with_reducible exact ar _ | exact am _ | refine aE ?_ ?_ | refine aG inferInstance ?_ | fail))<;>(try with_reducible rfl)))<;>fail)))| fail));(all_goals ((conv=>arg 4;whnf);try ((first | refine cu ?_ | refine bD ?_);conv=>arg 4;whnf)))
 have hlt0:(aK L s (hgt n) 0).lv≤5:=by rw [f2];exact h5
 refine nF (EH (by omega)) ?_
 rw [f2]
 have hll:=h.int.ll
 have hsl0:rQ L s (hgt n) 0=cell.ep%2:=by
  unfold rQ;rw [hll,if_neg (fun hh=>hh.1 rfl),Nat.add_zero];exact h.int.slot.symm
 rw [show tot n-1=num n (hgt n) by omega,rO (f:=aK L s) hc1,←hsl0,rO (f:=rQ L s) hc1]
 (repeat' ((first | refine gC ?_ | refine dO ?_ | skip);(conv=>arg 4;whnf);first |(refine qa ?_;first | refine cu ?_ | refine bD ?_)|(refine pZ ?_;first | refine fD ?_ | refine fK ?_ | refine fx ?_ | refine fC ?_ | refine fA ?_ | refine fk ?_ | refine fI ?_ | refine ft ?_ | refine fF ?_ | fail)|(refine p8 ?_;first | refine sL ?_ | fail)|(refine p9 ?_;first | refine sS ?_ | fail)|(refine p5 ?_;first | refine ng ?_ |(refine sN ?_;intro b)| fail)|(refine p3 ?_;(conv=>arg 4;arg 5;ext C;whnf);first | refine cR ?_ | refine nc ?_)|(refine p4 ?_;(conv=>arg 4;arg 6;ext C;whnf);first | refine mc ?_ | fail)|(refine p6 ?_;first | refine fh ?_ | refine dw ?_)|(refine gN ?_;first | refine ai ?_)| exact aD () True.intro rfl (am _)| refine fi ?_ | refine fN ?_ | refine af ?_ ?_ |(refine p7 ?_;first | refine du ?_ |(refine fu ?_ ?_ (by first | exact fun _ h=>h | exact fun _ h=> .tail _ h | exact fun _ h=> .tail _ (.tail _ h)| exact fun _ h=> .tail _ (.tail _ (.tail _ h)));rotate_left;focus ((((repeat' (first | with_reducible exact ar _ | exact am _ | refine aE ?_ ?_ | refine aG inferInstance ?_ | fail))<;>(try with_reducible rfl)))<;>fail)))| fail));(all_goals ((conv=>arg 4;whnf);try ((first | refine cu ?_ | refine bD ?_);conv=>arg 4;whnf)))
 apply q4 [nb,sb,pb] (X:=Nat) (fun v=> [(7, .slice (some ⟨sb,0,none⟩) (tot n) (tot n)),(9,vI 0),(13,vI (num n v)),(14, .int .i64 ((v:Int)-1))]) (fun v=>v≤hgt n) (fun v=> [iB nb ((eC n (aK L s) Nod.zero v 0).flatMap aU) 217,iB sb ((eC n (rQ L s) 0 v 0).flatMap cI) 3,iB pb (bW SPrb.zero) 105]) (fun v=>v) (hgt n)
 ·exact Nat.le_refl _
 ·rfl
 ·((repeat' (first | with_reducible exact ar _ | exact am _ | refine aE ?_ ?_ | refine aG inferInstance ?_ | fail))<;>(try with_reducible rfl))
 ·intro K H v hv
  (conv=>arg 2;simp only [List.cons_append,List.nil_append])
  by_cases hv0:v=0
  ·subst hv0
   (repeat' ((first | refine gC ?_ | refine dO ?_ | skip);(conv=>arg 4;whnf);first |(refine qa ?_;first | refine cu ?_ | refine bD ?_)|(refine pZ ?_;first | refine fD ?_ | refine fK ?_ | refine fx ?_ | refine fC ?_ | refine fA ?_ | refine fk ?_ | refine fI ?_ | refine ft ?_ | refine fF ?_ | fail)|(refine p8 ?_;first | refine sL ?_ | fail)|(refine p9 ?_;first | refine sS ?_ | fail)|(refine p5 ?_;first | refine ng ?_ |(refine sN ?_;intro b)| fail)|(refine p3 ?_;(conv=>arg 4;arg 5;ext C;whnf);first | refine cR ?_ | refine nc ?_)|(refine p4 ?_;(conv=>arg 4;arg 6;ext C;whnf);first | refine mc ?_ | fail)|(refine p6 ?_;first | refine fh ?_ | refine dw ?_)|(refine gN ?_;first | refine ai ?_)| exact aD () True.intro rfl (am _)| refine fi ?_ | refine fN ?_ | refine af ?_ ?_ |(refine p7 ?_;first | refine du ?_ |(refine fu ?_ ?_ (by first | exact fun _ h=>h | exact fun _ h=> .tail _ h | exact fun _ h=> .tail _ (.tail _ h)| exact fun _ h=> .tail _ (.tail _ (.tail _ h)));rotate_left;focus ((((repeat' (first | with_reducible exact ar _ | exact am _ | refine aE ?_ ?_ | refine aG inferInstance ?_ | fail))<;>(try with_reducible rfl)))<;>fail)))| fail));(all_goals ((conv=>arg 4;whnf);try ((first | refine cu ?_ | refine bD ?_);conv=>arg 4;whnf)))
   exact H.go
  ·obtain ⟨l,rfl⟩:∃l,v=l+1:=⟨v-1,by omega⟩
   rw [show (((l+1:Nat):Int)-1)=((l:Nat):Int) by omega]
   have hcn:=cH n l
   have hnm:num n (l+1)=num n l+cnt n l:=rfl
   have hnl:=c7 n (l:=l+1) (m:=hgt n) hv
   (repeat' ((first | refine gC ?_ | refine dO ?_ | skip);(conv=>arg 4;whnf);first |(refine qa ?_;first | refine cu ?_ | refine bD ?_)|(refine pZ ?_;first | refine fD ?_ | refine fK ?_ | refine fx ?_ | refine fC ?_ | refine fA ?_ | refine fk ?_ | refine fI ?_ | refine ft ?_ | refine fF ?_ | fail)|(refine p8 ?_;first | refine sL ?_ | fail)|(refine p9 ?_;first | refine sS ?_ | fail)|(refine p5 ?_;first | refine ng ?_ |(refine sN ?_;intro b)| fail)|(refine p3 ?_;(conv=>arg 4;arg 5;ext C;whnf);first | refine cR ?_ | refine nc ?_)|(refine p4 ?_;(conv=>arg 4;arg 6;ext C;whnf);first | refine mc ?_ | fail)|(refine p6 ?_;first | refine fh ?_ | refine dw ?_)|(refine gN ?_;first |(refine aA (B1 h1 h2 (Nat.le_of_succ_le hv)) ?_;intro x hx;try (conv=>arg 2;simp only [List.nil_append,List.cons_append]))| fail)| exact aD () True.intro rfl (am _)| refine fi ?_ | refine fN ?_ | refine af ?_ ?_ |(refine p7 ?_;first | refine du ?_ |(refine fu ?_ ?_ (by first | exact fun _ h=>h | exact fun _ h=> .tail _ h | exact fun _ h=> .tail _ (.tail _ h)| exact fun _ h=> .tail _ (.tail _ (.tail _ h)));rotate_left;focus ((((repeat' (first | with_reducible exact ar _ | exact am _ | refine aE ?_ ?_ | refine aG inferInstance ?_ | fail))<;>(try with_reducible rfl)))<;>fail)))| fail));(all_goals ((conv=>arg 4;whnf);try ((first | refine cu ?_ | refine bD ?_);conv=>arg 4;whnf)))
   rw [show num n (l+1)-cnt n l=num n l by omega]
   apply q4 [nb,sb,pb] (X:=Nat) (fun j=> [(7, .slice (some ⟨sb,0,none⟩) (tot n) (tot n)),(9,vI 0),(79,vI j)]) (fun j=>j≤cnt n l) (fun j=> [iB nb ((eC n (aK L s) Nod.zero (l+1) j).flatMap aU) 217,iB sb ((eC n (rQ L s) 0 (l+1) j).flatMap cI) 3,iB pb (bW SPrb.zero) 105]) (fun j=>cnt n l-j) 0
   ·exact Nat.zero_le _
   ·rfl
   ·((repeat' (first | with_reducible exact ar _ | exact am _ | refine aE ?_ ?_ | refine aG inferInstance ?_ | fail))<;>(try with_reducible rfl))
   ·intro K2 H2 j hj
    (conv=>arg 2;simp only [List.cons_append,List.nil_append])
    by_cases hlt:j<cnt n l
    ·have hupc:j/4<cnt n (l+1):=by show j/4<jR (cnt n l);unfold jR;omega
     have hpar:(eC n (aK L s) Nod.zero (l+1) j).getD (num n (l+1)+j/4) default=aK L s (l+1) (j/4):=B0 _ hv hupc (Nat.le_refl _)
     have hpl:=d7 (n:=n) (l:=l) (j:=j) (by omega) hlt
     have hpp:=d7 (n:=n) (l:=l+1) (j:=j/4) hv hupc
     have hw4:4*(j/4)+j%4=j:=by omega
     have hE:=h.ent (l:=l) (j:=j/4) (w:=j%4) hv hupc (Nat.mod_lt _ (by decide)) (by rw [hw4];exact hlt)
     rw [hw4] at hE
     have hset1:=rE (f:=aK L s) (z:=Nod.zero) (n:=n) (l:=l) (j:=j) (by omega) hlt
     have hset2:=rE (f:=rQ L s) (z:=0) (n:=n) (l:=l) (j:=j) (by omega) hlt
     have hlU:(eC n (aK L s) Nod.zero (l+1) j).length=tot n:=qP
     have hlV:(eC n (rQ L s) 0 (l+1) j).length=tot n:=qP
     by_cases he:bK L l j=true
     ·have hst:((aK L s (l+1) (j/4)).es.l.getD (j%4) default).st=0:=by
       show ((aK L s (l+1) (j/4)).es.get (j%4)).st=0
       rw [hE];exact (h.ent0 l _).2 he
      have hmt:Nod.mt l j=aK L s l j:=(z7 h.int.ok he).symm
      have hs1:rQ L s l j=1:=if_pos ⟨by rw [hll];omega,he⟩
      rw [←hpar] at hst
      rw [hs1] at hset2
      rw [←hmt] at hset1
      generalize eC n (aK L s) Nod.zero (l+1) j=U at*
      generalize eC n (rQ L s) 0 (l+1) j=V at*
      (repeat' ((first | refine gC ?_ | refine dO ?_ | skip);(conv=>arg 4;whnf);first |(refine qa ?_;first | refine cu ?_ | refine bD ?_)|(refine pZ ?_;first | refine fD ?_ | refine fK ?_ | refine fx ?_ | refine fC ?_ | refine fA ?_ | refine fk ?_ | refine fI ?_ | refine ft ?_ | refine fF ?_ | fail)|(refine p8 ?_;first | refine sL ?_ | fail)|(refine p9 ?_;first | refine sS ?_ | fail)|(refine p5 ?_;first | refine ng ?_ |(refine sN ?_;intro b)| fail)|(refine p3 ?_;(conv=>arg 4;arg 5;ext C;whnf);first | refine cR ?_ | refine nc ?_)|(refine p4 ?_;(conv=>arg 4;arg 6;ext C;whnf);first | refine mc ?_ | fail)|(refine p6 ?_;first | refine fh ?_ | refine dw ?_)|(refine gN ?_;first |(refine aA (wZ (lv:=l) (ix:=j) (by omega) (by omega)) ?_;intro x hx;try (conv=>arg 2;simp only [List.nil_append,List.cons_append]))|(refine aA (wH hst) ?_;intro x hx;try (conv=>arg 2;simp only [List.nil_append,List.cons_append]))| fail)| exact aD () True.intro rfl (am _)| refine fi ?_ | refine fN ?_ | refine af ?_ ?_ |(refine p7 ?_;first | refine du ?_ |(refine fu ?_ ?_ (by first | exact fun _ h=>h | exact fun _ h=> .tail _ h | exact fun _ h=> .tail _ (.tail _ h)| exact fun _ h=> .tail _ (.tail _ (.tail _ h)));rotate_left;focus ((((repeat' (first | with_reducible exact ar _ | exact am _ | refine aE ?_ ?_ | refine aG inferInstance ?_ | fail))<;>(try with_reducible rfl)))<;>fail)))| fail));(all_goals ((conv=>arg 4;whnf);try ((first | refine cu ?_ | refine bD ?_);conv=>arg 4;whnf)))
      refine a5 (j+1) rfl (by omega) ?_ (by omega)
      rw [←hset1,←hset2]
      ((repeat' (first | with_reducible exact ar _ | exact am _ | refine aE ?_ ?_ | refine aG inferInstance ?_ | fail))<;>(try with_reducible rfl))
      all_goals rfl
     ·have he':bK L l j=false:=by simpa using he
      obtain ⟨e1,e2,e3⟩:=h.ent1 he'
      have hst:((aK L s (l+1) (j/4)).es.l.getD (j%4) default).st=s.getD (num n l+j) 0+1:=by
       show ((aK L s (l+1) (j/4)).es.get (j%4)).st=_
       rw [hE];exact e1
      have hch:=HU (q:=q) h (l:=l) (j:=j/4) (w:=j%4) hv hupc (Nat.mod_lt _ (by decide)) (by rw [hw4];exact hlt) (by rw [hw4];exact he')
      rw [hw4] at hch
      have hs1:rQ L s l j=s.getD (num n l+j) 0:=by unfold rQ;rw [hll];exact if_neg (by rw [he'];simp)
      rw [←hpar] at hst hch
      have hsl:=kt (st:=(((eC n (aK L s) Nod.zero (l+1) j).getD (num n (l+1)+j/4) default).es.l.getD (j%4) default).st) (by omega) (by omega)
      rw [hs1,show s.getD (num n l+j) 0=(((eC n (aK L s) Nod.zero (l+1) j).getD (num n (l+1)+j/4) default).es.l.getD (j%4) default).st-1 by omega] at hset2
      generalize eC n (aK L s) Nod.zero (l+1) j=U at*
      generalize eC n (rQ L s) 0 (l+1) j=V at*
      (repeat' ((first | refine gC ?_ | refine dO ?_ | skip);(conv=>arg 4;whnf);first |(refine qa ?_;first | refine cu ?_ | refine bD ?_)|(refine pZ ?_;first | refine fD ?_ | refine fK ?_ | refine fx ?_ | refine fC ?_ | refine fA ?_ | refine fk ?_ | refine fI ?_ | refine ft ?_ | refine fF ?_ | fail)|(refine p8 ?_;first | refine sL ?_ | fail)|(refine p9 ?_;first | refine sS ?_ | fail)|(refine p5 ?_;first | refine ng ?_ |(refine sN ?_;intro b)| fail)|(refine p3 ?_;(conv=>arg 4;arg 5;ext C;whnf);first | refine cR ?_ | refine nc ?_)|(refine p4 ?_;(conv=>arg 4;arg 6;ext C;whnf);first | refine mc ?_ | fail)|(refine p6 ?_;first | refine fh ?_ | refine dw ?_)|(refine gN ?_;first |(refine aA (wZ (lv:=l) (ix:=j) (by omega) (by omega)) ?_;intro x hx;try (conv=>arg 2;simp only [List.nil_append,List.cons_append]))|(refine aA (hsl) ?_;intro x hx;try (conv=>arg 2;simp only [List.nil_append,List.cons_append]))|(refine aA (hch) ?_;intro x hx;try (conv=>arg 2;simp only [List.nil_append,List.cons_append]))| fail)| exact aD () True.intro rfl (am _)| refine fi ?_ | refine fN ?_ | refine af ?_ ?_ |(refine p7 ?_;first | refine du ?_ |(refine fu ?_ ?_ (by first | exact fun _ h=>h | exact fun _ h=> .tail _ h | exact fun _ h=> .tail _ (.tail _ h)| exact fun _ h=> .tail _ (.tail _ (.tail _ h)));rotate_left;focus ((((repeat' (first | with_reducible exact ar _ | exact am _ | refine aE ?_ ?_ | refine aG inferInstance ?_ | fail))<;>(try with_reducible rfl)))<;>fail)))| fail));(all_goals ((conv=>arg 4;whnf);try ((first | refine cu ?_ | refine bD ?_);conv=>arg 4;whnf)))
      refine a5 (j+1) rfl (by omega) ?_ (by omega)
      rw [←hset1,←hset2]
      ((repeat' (first | with_reducible exact ar _ | exact am _ | refine aE ?_ ?_ | refine aG inferInstance ?_ | fail))<;>(try with_reducible rfl))
      all_goals rfl
    ·obtain rfl:j=cnt n l:=by omega
     (repeat' ((first | refine gC ?_ | refine dO ?_ | skip);(conv=>arg 4;whnf);first |(refine qa ?_;first | refine cu ?_ | refine bD ?_)|(refine pZ ?_;first | refine fD ?_ | refine fK ?_ | refine fx ?_ | refine fC ?_ | refine fA ?_ | refine fk ?_ | refine fI ?_ | refine ft ?_ | refine fF ?_ | fail)|(refine p8 ?_;first | refine sL ?_ | fail)|(refine p9 ?_;first | refine sS ?_ | fail)|(refine p5 ?_;first | refine ng ?_ |(refine sN ?_;intro b)| fail)|(refine p3 ?_;(conv=>arg 4;arg 5;ext C;whnf);first | refine cR ?_ | refine nc ?_)|(refine p4 ?_;(conv=>arg 4;arg 6;ext C;whnf);first | refine mc ?_ | fail)|(refine p6 ?_;first | refine fh ?_ | refine dw ?_)|(refine gN ?_;first | refine ai ?_)| exact aD () True.intro rfl (am _)| refine fi ?_ | refine fN ?_ | refine af ?_ ?_ |(refine p7 ?_;first | refine du ?_ |(refine fu ?_ ?_ (by first | exact fun _ h=>h | exact fun _ h=> .tail _ h | exact fun _ h=> .tail _ (.tail _ h)| exact fun _ h=> .tail _ (.tail _ (.tail _ h)));rotate_left;focus ((((repeat' (first | with_reducible exact ar _ | exact am _ | refine aE ?_ ?_ | refine aG inferInstance ?_ | fail))<;>(try with_reducible rfl)))<;>fail)))| fail));(all_goals ((conv=>arg 4;whnf);try ((first | refine cu ?_ | refine bD ?_);conv=>arg 4;whnf)))
     exact H2.go
   ·rw [qq,qq]
    (repeat' ((first | refine gC ?_ | refine dO ?_ | skip);(conv=>arg 4;whnf);first |(refine qa ?_;first | refine cu ?_ | refine bD ?_)|(refine pZ ?_;first | refine fD ?_ | refine fK ?_ | refine fx ?_ | refine fC ?_ | refine fA ?_ | refine fk ?_ | refine fI ?_ | refine ft ?_ | refine fF ?_ | fail)|(refine p8 ?_;first | refine sL ?_ | fail)|(refine p9 ?_;first | refine sS ?_ | fail)|(refine p5 ?_;first | refine ng ?_ |(refine sN ?_;intro b)| fail)|(refine p3 ?_;(conv=>arg 4;arg 5;ext C;whnf);first | refine cR ?_ | refine nc ?_)|(refine p4 ?_;(conv=>arg 4;arg 6;ext C;whnf);first | refine mc ?_ | fail)|(refine p6 ?_;first | refine fh ?_ | refine dw ?_)|(refine gN ?_;first | refine ai ?_)| exact aD () True.intro rfl (am _)| refine fi ?_ | refine fN ?_ | refine af ?_ ?_ |(refine p7 ?_;first | refine du ?_ |(refine fu ?_ ?_ (by first | exact fun _ h=>h | exact fun _ h=> .tail _ h | exact fun _ h=> .tail _ (.tail _ h)| exact fun _ h=> .tail _ (.tail _ (.tail _ h)));rotate_left;focus ((((repeat' (first | with_reducible exact ar _ | exact am _ | refine aE ?_ ?_ | refine aG inferInstance ?_ | fail))<;>(try with_reducible rfl)))<;>fail)))| fail));(all_goals ((conv=>arg 4;whnf);try ((first | refine cu ?_ | refine bD ?_);conv=>arg 4;whnf)))
    refine nF (EH (by omega)) ?_
    (repeat' ((first | refine gC ?_ | refine dO ?_ | skip);(conv=>arg 4;whnf);first |(refine qa ?_;first | refine cu ?_ | refine bD ?_)|(refine pZ ?_;first | refine fD ?_ | refine fK ?_ | refine fx ?_ | refine fC ?_ | refine fA ?_ | refine fk ?_ | refine fI ?_ | refine ft ?_ | refine fF ?_ | fail)|(refine p8 ?_;first | refine sL ?_ | fail)|(refine p9 ?_;first | refine sS ?_ | fail)|(refine p5 ?_;first | refine ng ?_ |(refine sN ?_;intro b)| fail)|(refine p3 ?_;(conv=>arg 4;arg 5;ext C;whnf);first | refine cR ?_ | refine nc ?_)|(refine p4 ?_;(conv=>arg 4;arg 6;ext C;whnf);first | refine mc ?_ | fail)|(refine p6 ?_;first | refine fh ?_ | refine dw ?_)|(refine gN ?_;first | refine ai ?_)| exact aD () True.intro rfl (am _)| refine fi ?_ | refine fN ?_ | refine af ?_ ?_ |(refine p7 ?_;first | refine du ?_ |(refine fu ?_ ?_ (by first | exact fun _ h=>h | exact fun _ h=> .tail _ h | exact fun _ h=> .tail _ (.tail _ h)| exact fun _ h=> .tail _ (.tail _ (.tail _ h)));rotate_left;focus ((((repeat' (first | with_reducible exact ar _ | exact am _ | refine aE ?_ ?_ | refine aG inferInstance ?_ | fail))<;>(try with_reducible rfl)))<;>fail)))| fail));(all_goals ((conv=>arg 4;whnf);try ((first | refine cu ?_ | refine bD ?_);conv=>arg 4;whnf)))
    exact a5 l rfl (by omega) (by ((repeat' (first | with_reducible exact ar _ | exact am _ | refine aE ?_ ?_ | refine aG inferInstance ?_ | fail))<;>(try with_reducible rfl))) (by omega)
 ·have eT:eC n (aK L s) Nod.zero 0 0=bJ L s:=by rw [oq,bJ,hll]
  have eS:eC n (rQ L s) 0 0 0=ra L s:=by rw [oq,ra,hll]
  have hTl:(bJ L s).length=tot n:=by rw [nZ,hll]
  have hSl:(ra L s).length=tot n:=by rw [lh,hll]
  have hmc:=zh (q:=q) (ts:=bJ L s) (tb:=nb) (to:=0) (m:=tot n) (c:=tot n) h1 h2 hTl (by rw [←hll];exact mS h.int.ok)
  rw [eT,eS]
  refine eK (K:=aU) nb (tot n) (tot n) ?_ (hn:=⟨hTl.symm,Nat.le_refl _,by omega⟩)
  refine eK (K:=cI) sb (tot n) (tot n) ?_ (hn:=⟨hSl.symm,Nat.le_refl _,by omega⟩)
  (repeat' ((first | refine gC ?_ | refine dO ?_ | skip);(conv=>arg 4;whnf);first |(refine qa ?_;first | refine cu ?_ | refine bD ?_)|(refine pZ ?_;first | refine fD ?_ | refine fK ?_ | refine fx ?_ | refine fC ?_ | refine fA ?_ | refine fk ?_ | refine fI ?_ | refine ft ?_ | refine fF ?_ | fail)|(refine p8 ?_;first | refine sL ?_ | fail)|(refine p9 ?_;first | refine sS ?_ | fail)|(refine p5 ?_;first | refine ng ?_ |(refine sN ?_;intro b)| fail)|(refine p3 ?_;(conv=>arg 4;arg 5;ext C;whnf);first | refine cR ?_ | refine nc ?_)|(refine p4 ?_;(conv=>arg 4;arg 6;ext C;whnf);first | refine mc ?_ | fail)|(refine p6 ?_;first | refine fh ?_ | refine dw ?_)|(refine gN ?_;first |(refine aA (hmc) ?_;intro x hx;try (conv=>arg 2;simp only [List.nil_append,List.cons_append]))| fail)| exact aD () True.intro rfl (am _)| refine fi ?_ | refine fN ?_ | refine af ?_ ?_ |(refine p7 ?_;first | refine du ?_ |(refine fu ?_ ?_ (by first | exact fun _ h=>h | exact fun _ h=> .tail _ h | exact fun _ h=> .tail _ (.tail _ h)| exact fun _ h=> .tail _ (.tail _ (.tail _ h)));rotate_left;focus ((((repeat' (first | with_reducible exact ar _ | exact am _ | refine aE ?_ ?_ | refine aG inferInstance ?_ | fail))<;>(try with_reducible rfl)))<;>fail)))| fail));(all_goals ((conv=>arg 4;whnf);try ((first | refine cu ?_ | refine bD ?_);conv=>arg 4;whnf)))
  refine BD [6,7,8,9] ?_
  (conv=>arg 4;whnf)
  refine eD (X:=Unit) (fun x=> [(6,vP trb 0),(7, .slice (some ⟨sb,0,none⟩) (tot n) (tot n)),(8,vP pb 0),(9,vI 0)]) (fun _=>True) (fun x=> [iB pb (bW SPrb.zero) 105,iB trb (cy ⟨n,(some ⟨nb,0,none⟩,tot n,tot n)⟩) 128]) (fun _=> []) ?_ ?_
  ·intro K4
   refine uy rfl ?_
   (repeat' ((first | refine gC ?_ | refine dO ?_ | skip);(conv=>arg 4;whnf);first |(refine qa ?_;first | refine cu ?_ | refine bD ?_)|(refine pZ ?_;first | refine fD ?_ | refine fK ?_ | refine fx ?_ | refine fC ?_ | refine fA ?_ | refine fk ?_ | refine fI ?_ | refine ft ?_ | refine fF ?_ | fail)|(refine p8 ?_;first | refine sL ?_ | fail)|(refine p9 ?_;first | refine sS ?_ | fail)|(refine p5 ?_;first | refine ng ?_ |(refine sN ?_;intro b)| fail)|(refine p3 ?_;(conv=>arg 4;arg 5;ext C;whnf);first | refine cR ?_ | refine nc ?_)|(refine p4 ?_;(conv=>arg 4;arg 6;ext C;whnf);first | refine mc ?_ | fail)|(refine p6 ?_;first | refine fh ?_ | refine dw ?_)|(refine MJ ?_;first | refine A5 ?_ | refine q5 ?_)|(refine gN ?_;first | refine ai ?_)| exact aD () True.intro rfl (am _)| refine fi ?_ | refine fN ?_ | refine af ?_ ?_ |(refine p7 ?_;first | refine du ?_ |(refine fu ?_ ?_ (by first | exact fun _ h=>h | exact fun _ h=> .tail _ h | exact fun _ h=> .tail _ (.tail _ h)| exact fun _ h=> .tail _ (.tail _ (.tail _ h)));rotate_left;focus ((((repeat' (first | with_reducible exact ar _ | exact am _ | refine aE ?_ ?_ | refine aG inferInstance ?_ | fail))<;>(try with_reducible rfl)))<;>fail)))| fail));(all_goals ((conv=>arg 4;whnf);try ((first | refine cu ?_ | refine bD ?_);conv=>arg 4;whnf)))
   all_goals exact d9 () True.intro (by ((repeat' (first | with_reducible exact ar _ | exact am _ | refine aE ?_ ?_ | refine aG inferInstance ?_ | fail))<;>(try with_reducible rfl))) (by (repeat' (first | exact fun _ h=>absurd h List.not_mem_nil | refine List.forall_mem_cons.2 ⟨?_, ?_⟩))<;>(try dsimp only)<;>(repeat (first | with_reducible exact List.mem_cons_self | with_reducible apply List.mem_cons_of_mem)))
  intro _ _
  (conv=>arg 2;simp only [List.cons_append,List.nil_append])
  (conv=>arg 3;simp only [List.cons_append,List.nil_append])
  (repeat' ((first | refine gC ?_ | refine dO ?_ | skip);(conv=>arg 4;whnf);first |(refine qa ?_;first | refine cu ?_ | refine bD ?_)|(refine pZ ?_;first | refine fD ?_ | refine fK ?_ | refine fx ?_ | refine fC ?_ | refine fA ?_ | refine fk ?_ | refine fI ?_ | refine ft ?_ | refine fF ?_ | fail)|(refine p8 ?_;first | refine sL ?_ | fail)|(refine p9 ?_;first | refine sS ?_ | fail)|(refine p5 ?_;first | refine ng ?_ |(refine sN ?_;intro b)| fail)|(refine p3 ?_;(conv=>arg 4;arg 5;ext C;whnf);first | refine cR ?_ | refine nc ?_)|(refine p4 ?_;(conv=>arg 4;arg 6;ext C;whnf);first | refine mc ?_ | fail)|(refine p6 ?_;first | refine fh ?_ | refine dw ?_)|(refine gN ?_;first | refine ai ?_)| exact aD () True.intro rfl (am _)| refine fi ?_ | refine fN ?_ | refine af ?_ ?_ |(refine p7 ?_;first | refine du ?_ |(refine fu ?_ ?_ (by first | exact fun _ h=>h | exact fun _ h=> .tail _ h | exact fun _ h=> .tail _ (.tail _ h)| exact fun _ h=> .tail _ (.tail _ (.tail _ h)));rotate_left;focus ((((repeat' (first | with_reducible exact ar _ | exact am _ | refine aE ?_ ?_ | refine aG inferInstance ?_ | fail))<;>(try with_reducible rfl)))<;>fail)))| fail));(all_goals ((conv=>arg 4;whnf);try ((first | refine cu ?_ | refine bD ?_);conv=>arg 4;whnf)))
  exact aD (nb,sb) True.intro rfl (am _) (by (repeat' (first | exact fun _ h=>absurd h List.not_mem_nil | refine List.forall_mem_cons.2 ⟨?_, ?_⟩))<;>(try dsimp only)<;>(repeat (first | with_reducible exact List.mem_cons_self | with_reducible apply List.mem_cons_of_mem)))
end
end Go.Proofs.YtbobhnldhpjdlaaGreatDoor
namespace Go.Proofs.YtbobhnldhpjdlaaGreatDoor
open Go Go.RowKit Go.Cs Go.Cz
set_option maxRecDepth 100000
set_option maxHeartbeats 4000000
section
variable {n:Nat} {k:Key} {d:SDsk} {I:DI} {L:List Rec} {s:List Nat} {dur:List Dig} {cell:Cel} {q:Value×Value}
theorem rV {L:List Rec} {s:List Nat} {n:Nat} (hO:OkM L s) (hll:L.length=n):Ei (tot n) (bJ L s) ((ra L s).map fun (x:Nat)=>(x:Int))=treW L (fls n) (ra L s):=by
 subst hll
 rw [←xH (s:=s)]
 exact ya (xg hO)
theorem Hy (h:DV n k d I L s dur cell):Zp Tryz.prog 39 [vI n,vA (aJ d),vA (aL cell)] [] [Dm d I,Gs q] Nat (fun _=>True) (fun x=> .tuple #[vA (aV ⟨n,(some ⟨x,0,none⟩,tot n,tot n)⟩),vA (bW SPrb.zero),vI 0]) (fun _=> []) (fun x=> [Sl a7 (some ⟨x,0,none⟩) (tot n) (tot n) (treW L (fls n) (ra L s))]):=by
 have h1:=h.int.bl.1
 have h2:=h.int.bl.2
 have hll:=h.int.ll
 have hTl:(bJ L s).length=tot n:=by rw [nZ,hll]
 have hSl:(ra L s).length=tot n:=by rw [lh,hll]
 have hO:=xg h.int.ok
 have hU:UOk n (treW L (fls n) (ra L s)):=by rw [←hll];exact UOk.treW (OkW.fls hO) rfl
 have hof:=fun (a b:Nat)=>H7 (q:=q) (ts:=bJ L s) (s:=ra L s) (tb:=a) (to:=0) (m:=tot n) (c:=tot n) (sb:=b) (so:=0) (ms:=tot n) (cs:=tot n) h1 h2 hTl (by rw [←hll];exact mS h.int.ok) hSl (fun i _=>hO.sl i) (by rw [hTl,rV h.int.ok hll];exact hU)
 rw [hTl,rV h.int.ok hll] at hof
 refine ak fun G=> ?_
 (repeat' ((try refine aw ?_);(conv=>arg 4;whnf);first | refine aO ?_ |(refine sN ?_;intro b)|(refine cw (HG (q:=q) h) ?_;intro x hx;refine bV ?_)| fail));(all_goals refine av ?_)
 obtain ⟨a,b⟩:=x
 dsimp only
 have hof1:=hof a b
 (repeat' ((try refine aw ?_);(conv=>arg 4;whnf);first | refine aO ?_ |(refine sN ?_;intro b)|(refine cw hof1 ?_;intro x hx;refine bV ?_)| fail));(all_goals refine av ?_)
 trace_state
 (repeat' ((try refine aw ?_);(conv=>arg 4;whnf);first | refine az ?_ |(refine sN ?_;intro b)| fail));(all_goals refine av ?_)
 exact aD x True.intro rfl (am _) bu
end
end Go.Proofs.YtbobhnldhpjdlaaGreatDoor
namespace Go.Proofs.YtbobhnldhpjdlaaGreatDoor
open Go Go.RowKit Go.Cs Go.Cz
set_option maxRecDepth 100000
set_option maxHeartbeats 4000000
structure PS where
 n:Nat
 lm:Nat
 rs:Nat
 k:Key
 con:Con
 L:List Rec
 c:List Bool
 s:List Nat
 now:List Dig
 Lc:List Rec
 dur:List Dig
 cell:Cel
 log:List Cel
 al:List UInt64
 mark:Nat
 us:List SUse
structure ML where
 d:SDsk
 I:DI
 lb:Nat
 lc:Nat
 ab:Nat
 tb:Nat
 ua:Option Addr
 uc:Nat
def c8 (p:PS) (x:ML):SSto:=⟨p.n,p.k,x.d,(some ⟨x.lb,0,none⟩,p.log.length,x.lc),⟨(some ⟨x.ab,0,none⟩,p.al.length,p.al.length),p.mark,p.lm,p.rs⟩,⟨p.n,(some ⟨x.tb,0,none⟩,tot p.n,tot p.n)⟩,⟨(x.ua,p.us.length,x.uc)⟩,false⟩
abbrev SFl (p:PS) (x:ML):List Pt:= [Dm x.d x.I,Sl aL (some ⟨x.lb,0,none⟩) p.log.length x.lc p.log,Sl cQ (some ⟨x.ab,0,none⟩) p.al.length p.al.length p.al,Sl a7 (some ⟨x.tb,0,none⟩) (tot p.n) (tot p.n) (treW p.L p.c p.s),Sl bP x.ua p.us.length x.uc p.us]
structure DM (p:PS) (x:ML) (T:Nat):Prop where
 ok:DOk x.d x.I (bas p.n (hgt p.n+1)) (1+24576*T) p.con
 sz:x.d.size=bas p.n (hgt p.n+1)
structure POk (p:PS) (T:Nat):Prop where
 work:Work p.n p.k p.con p.L p.c p.s p.now p.Lc p.dur p.cell
 aok:AOk ⟨(none,0,0),p.mark,p.lm,p.rs⟩ p.al
 shn:p.al.length≤p.n
 log0:0<p.log.length
 logm:p.log.length≤1+2*T
 usm:p.us.length≤T
 hT:T≤1000
 last:p.log.getD (p.log.length-1) default=p.cell
 mkc:p.cell.mark=p.mark
 use:∀i,i<p.us.length→(p.us.getD i default).Range.First≤(p.us.getD i default).Range.Last
 ep:p.cell.ep≤p.log.length
 sec:bas p.n (hgt p.n+1)≤10922
section
variable {p:PS} {M:ML} {T:Nat} {q:Value×Value}
theorem POk.n1 (hP:POk p T):1≤p.n:=hP.work.int.bl.1
theorem POk.n2 (hP:POk p T):p.n≤4096:=hP.work.int.bl.2
theorem POk.tok (hP:POk p T):UOk p.n (treW p.L p.c p.s):=UOk.treW hP.work.ok hP.work.ll
theorem POk.tln (hP:POk p T):(treW p.L p.c p.s).length=tot p.n:=hP.tok.ln
theorem wc (h1:1≤p.n) (hl:0<p.log.length) (hm:p.log.length≤65536) (hla:p.log.getD (p.log.length-1) default=p.cell):Zp Tryz.prog 36 [vA (aB (c8 p M))] [] [Sl aL (some ⟨M.lb,0,none⟩) p.log.length M.lc p.log] Unit (fun _=>True) (fun _=>vA (aL p.cell)) (fun _=> []) (fun _=> []):=by
 unfold c8
 refine ak fun G=> ?_
 rw [←hla]
 (repeat' ((try refine aw ?_);(conv=>arg 4;whnf);first | refine az ?_ |(refine sN ?_;intro b)| exact ax | fail));(all_goals refine av ?_)
theorem E3 (hl:0<p.log.length) (hm:p.log.length≤65536) {y:Cel}:Zp Tryz.prog 124 [vA (aB (c8 p M)),vA (aL y)] [] [Sl aL (some ⟨M.lb,0,none⟩) p.log.length M.lc p.log] (Nat×Nat) (fun _=>True) (fun z=>vA (aB (c8 {p with log:=p.log++ [y]} {M with lb:=z.1,lc:=z.2}))) (fun _=> []) (fun z=> [Sl aL (some ⟨z.1,0,none⟩) (p.log++ [y]).length z.2 (p.log++ [y])]):=by
 unfold c8
 refine ak fun G=> ?_
 refine aS 0 ?_
 intro _ hcl hml _
 (repeat' ((try refine aw ?_);(conv=>arg 4;whnf);first | refine aO ?_ |(refine sN ?_;intro b)| refine ae ?_ | refine af ?_ ?_ | fail));(all_goals refine av ?_)
 rename_i sb cb
 revert b;intro rb
 refine eD (X:=Nat×Nat) (fun z=> [(2,vP sb 0),(4,vP rb 0)]) (fun _=>True) (fun z=> [iB sb (aB (c8 {p with log:=p.log++ [y]} {M with lb:=z.1,lc:=z.2})) 48,iB rb (aB SSto.zero) 48,iN aL 34 (some ⟨z.1,0,none⟩) (p.log.length+1) z.2 80 (p.log++ [y])]) (fun _=> []) ?_ ?_
 ·intro K4
  (refine bh ?_;(conv=>arg 4;whnf);refine bc rfl ?_)
  (repeat' ((try refine aw ?_);(conv=>arg 4;whnf);first | refine aO ?_ |(refine sN ?_;intro b)| refine ae ?_ | refine af ?_ ?_ | fail));(all_goals refine av ?_)
  all_goals (refine Eg ?_;intro g c')
  (repeat' ((try refine aw ?_);(conv=>arg 4;whnf);first | refine aO ?_ |(refine sN ?_;intro b)| refine ae ?_ | refine af ?_ ?_ | fail));(all_goals refine av ?_)
  all_goals (
   refine d9 (g,c') True.intro ?_ bu
   unfold c8
   dsimp only
   rw [List.length_append]
   ((repeat' (first | with_reducible exact ar _ | exact am _ | refine aE ?_ ?_ | refine aX ?_))<;>(try with_reducible rfl))
   all_goals rfl)
 rintro ⟨g,c'⟩ _
 (conv=>arg 2;simp only [List.cons_append,List.nil_append])
 (conv=>arg 3;simp only [List.cons_append,List.nil_append])
 dsimp only
 refine eE (m:=34) (e:=80) aL (some ⟨g,0,none⟩) (p.log.length+1) c' ?_
 rw [show p.log.length+1=(p.log++ [y]).length by simp]
 (repeat' ((try refine aw ?_);(conv=>arg 4;whnf);first | refine aO ?_ |(refine sN ?_;intro b)| refine ae ?_ | refine af ?_ ?_ | fail));(all_goals refine av ?_)
 exact aD (g,c') True.intro rfl (am _) bu
end
end Go.Proofs.YtbobhnldhpjdlaaGreatDoor
namespace Go.Proofs.YtbobhnldhpjdlaaGreatDoor
open Go Go.RowKit Go.Cs Go.Cz
set_option maxRecDepth 100000
set_option maxHeartbeats 4000000
def PS.tak (p:PS) (sd:Nat):PS:={p with al:=p.al.set sd (p.al.getD sd default+1)}
def PS.ext (p:PS):PS:={p with mark:=p.mark+p.rs,cell:=p.cell.rsv p.rs,log:=p.log++ [p.cell.rsv p.rs]}
section
variable {p:PS} {M:ML} {T sd:Nat} {q:Value×Value}
theorem Ah {a0:Sv} (haok:AOk ⟨a0,p.mark,p.lm,p.rs⟩ p.al) (hsd:sd<p.al.length) (hs2:sd<4294967296) (hlt:(p.al.getD sd default).toNat<p.mark):Zp Tryz.prog 74 [vA (aB (c8 p M)),vI sd] [] [Sl cQ (some ⟨M.ab,0,none⟩) p.al.length p.al.length p.al] Nat (fun _=>True) (fun z=> .tuple #[vA (aB (c8 (p.tak sd) {M with ab:=z})),vA (br (jT sd (p.al.getD sd default) hs2)),vI 0]) (fun _=> []) (fun z=> [Sl cQ (some ⟨z,0,none⟩) (p.tak sd).al.length (p.tak sd).al.length (p.tak sd).al]):=by
 have haok1:AOk ⟨(some ⟨M.ab,0,none⟩,p.al.length,p.al.length),p.mark,p.lm,p.rs⟩ p.al:=⟨haok.l1,haok.l8,haok.ml,haok.r1,haok.r2,haok.rl,haok.lm,haok.cm⟩
 have htk:=FJ haok1 hsd hs2 hlt
 have hln:(p.tak sd).al.length=p.al.length:=by unfold PS.tak;simp
 unfold c8
 rw [hln]
 unfold PS.tak
 dsimp only at htk⊢
 refine ak fun G=> ?_
 (repeat' ((try refine aw ?_);(conv=>arg 4;whnf);first | refine az ?_ |(refine sN ?_;intro b)|(refine cw htk ?_;intro x hx;refine bV ?_)| fail));(all_goals refine av ?_)
 exact aD x True.intro rfl (am _) bu
theorem Gz {a0:Sv} (h1:1≤p.n) (hl:0<p.log.length) (hm:p.log.length≤65000) (hla:p.log.getD (p.log.length-1) default=p.cell) (hmk:p.cell.mark=p.mark) (haok:AOk ⟨a0,p.mark,p.lm,p.rs⟩ p.al) (hsd:sd<p.al.length) (hs2:sd<4294967296) (heq:(p.al.getD sd default).toNat=p.mark) (hr:p.mark+p.rs≤p.lm):Zp Tryz.prog 74 [vA (aB (c8 p M)),vI sd] [] [Sl cQ (some ⟨M.ab,0,none⟩) p.al.length p.al.length p.al,Sl aL (some ⟨M.lb,0,none⟩) p.log.length M.lc p.log] (Nat×Nat×Nat) (fun _=>True) (fun z=> .tuple #[vA (aB (c8 (p.ext.tak sd) {M with ab:=z.1,lb:=z.2.1,lc:=z.2.2})),vA (br (jT sd (p.al.getD sd default) hs2)),vI 0]) (fun _=> []) (fun z=> [Sl cQ (some ⟨z.1,0,none⟩) (p.ext.tak sd).al.length (p.ext.tak sd).al.length (p.ext.tak sd).al,Sl aL (some ⟨z.2.1,0,none⟩) (p.ext.tak sd).log.length z.2.2 (p.ext.tak sd).log]):=by
 have haok1:AOk ⟨(some ⟨M.ab,0,none⟩,p.al.length,p.al.length),p.mark,p.lm,p.rs⟩ p.al:=⟨haok.l1,haok.l8,haok.ml,haok.r1,haok.r2,haok.rl,haok.lm,haok.cm⟩
 have htk:=GE haok1 hsd heq
 have hex:=Id haok1 hr
 have hcl:=wc (p:=p) (M:=M) h1 hl (by omega) hla
 have hrs:=HX (y:=p.cell) (k:=p.rs) (lim:=p.lm) haok.r1 (by rw [hmk];exact hr) haok.lm
 have hwi:=fun a=>E3 (p:={p with mark:=p.mark+p.rs}) (M:={M with ab:=a}) (y:=p.cell.rsv p.rs) hl (by dsimp only;omega)
 have hr1:1≤p.rs:=haok.r1
 have htk2:=fun a b c=>Ah (a0:=a0) (p:=p.ext) (M:={M with ab:=a,lb:=b,lc:=c}) (sd:=sd) ⟨haok.l1,haok.l8,hr,haok.r1,haok.r2,haok.rl,haok.lm,fun i hi=>Nat.le_trans (haok.cm i hi) (Nat.le_add_right _ _)⟩ hsd hs2 (by show (p.al.getD sd default).toNat<p.mark+p.rs;omega)
 unfold c8 at hcl⊢
 unfold c8 at hwi
 unfold c8 PS.ext PS.tak at htk2
 unfold PS.ext PS.tak
 dsimp only at hcl hwi htk2 htk hex hrs⊢
 refine ak fun G=> ?_
 (repeat' ((try refine aw ?_);(conv=>arg 4;whnf);first | refine aO ?_ |(refine sN ?_;intro b)|(refine aA htk ?_;intro x hx;refine aH ?_)|(refine cw hex ?_;intro x hx;refine bV ?_)| refine af ?_ ?_ | fail));(all_goals refine av ?_)
 rename_i sb rb nb _ _ nb2
 revert b;intro ab
 refine eD (X:=Nat) (fun z=> [(1,vI sd),(2,vP sb 0),(4,vP rb 0),(5,vP nb 0),(8,vP ab 0),(9,vI 0),(10,vP z 0)]) (fun _=>True) (fun z=> [iB z (aL (p.cell.rsv p.rs)) 80,iB sb (aB ⟨p.n,p.k,M.d,(some ⟨M.lb,0,none⟩,p.log.length,M.lc),⟨(some ⟨M.ab,0,none⟩,p.al.length,p.al.length),p.mark,p.lm,p.rs⟩,⟨p.n,(some ⟨M.tb,0,none⟩,tot p.n,tot p.n)⟩,⟨(M.ua,p.us.length,M.uc)⟩,false⟩) 48,iB ab (aW ⟨(some ⟨x,0,none⟩,p.al.length,p.al.length),p.mark+p.rs,p.lm,p.rs⟩) 40,iB rb (aB SSto.zero) 48,iB nb (br Non.zero) 65]) (fun _=> []) ?_ ?_
 ·intro K4
  (refine bh ?_;(conv=>arg 4;whnf);refine bc rfl ?_)
  (repeat' ((try refine aw ?_);(conv=>arg 4;whnf);first | refine aO ?_ |(refine sN ?_;intro b)|((first | refine aA hcl ?_ | refine aA hrs ?_);intro x hx;refine aH ?_)| refine af ?_ ?_ | fail));(all_goals refine av ?_)
  all_goals (
   revert b;intro zb
   exact d9 zb True.intro cD bu)
 intro zb _
 (conv=>arg 2;simp only [List.cons_append,List.nil_append])
 (conv=>arg 3;simp only [List.cons_append,List.nil_append])
 (repeat' ((try refine aw ?_);(conv=>arg 4;whnf);first | refine aO ?_ |(refine sN ?_;intro b)|((first | refine cw (hwi _) ?_ | refine cw (htk2 _ _ _) ?_);intro x hx;refine bV ?_)| refine af ?_ ?_ | fail));(all_goals refine av ?_)
 rename_i wz _
 exact aD (x,wz.1,wz.2) True.intro rfl (am _) bu
end
end Go.Proofs.YtbobhnldhpjdlaaGreatDoor
namespace Go.Proofs.YtbobhnldhpjdlaaGreatDoor
open Go Go.RowKit Go.Cs Go.Cz
set_option maxRecDepth 100000
set_option maxHeartbeats 4000000
def PS.put (p:PS) (bi:Nat) (xn:Non) (yd:Dig):PS:={p with con:=p.con.put (2*bi+dX p.L p.c bi) (some (cJ p.k xn yd).l),L:=p.L.set bi (cE p.L p.c bi xn (il p.k bi xn (cJ p.k xn yd))),c:=p.c.set bi true,now:=p.now.set bi yd,us:=p.us++ [⟨p.k.enc,⟨xn,0,1⟩⟩]}
section
variable {p:PS} {M:ML} {T T2 bi:Nat} {xn:Non} {yd:Dig} {q:Value×Value}
theorem I8 (hP:POk p T2) (hD:DM p M T) (hT:T≤1000) (hb:bi<p.n):Zp Tryz.prog 75 [vA (aB (c8 p M)),vI bi,vA (br xn),vA (ay yd)] [] [Dm M.d M.I,Sl a7 (some ⟨M.tb,0,none⟩) (tot p.n) (tot p.n) (treW p.L p.c p.s),Sl bP M.ua p.us.length M.uc p.us,Gs q] (SDsk×DI×Nat×Nat) (fun z=>DOk z.1 z.2.1 (bas p.n (hgt p.n+1)) (1+24576*T+1) (p.put bi xn yd).con∧z.1.size=bas p.n (hgt p.n+1)) (fun z=> .tuple #[vA (aB (c8 (p.put bi xn yd) {M with d:=z.1,I:=z.2.1,tb:=z.2.2.1,ua:=some ⟨z.2.2.2,0,none⟩,uc:=p.us.length+1})),vI 0]) (fun _=> []) (fun z=> [Dm z.1 z.2.1,Sl a7 (some ⟨z.2.2.1,0,none⟩) (tot p.n) (tot p.n) (treW (p.put bi xn yd).L (p.put bi xn yd).c p.s),Sl bP (some ⟨z.2.2.2,0,none⟩) (p.put bi xn yd).us.length (p.us.length+1) (p.put bi xn yd).us]):=by
 have h1:=hP.n1
 have h2:=hP.n2
 have hU:=hP.tok
 have hll:=hP.work.ll
 have hT2:=hP.hT
 have hok:=hP.work.ok
 have htg:=FA hok hll hb
 have htl:dX p.L p.c bi≤1:=pM hok (by rw [hll];exact hb)
 have hpt:=Gt (tb:=M.tb) (to:=0) (m:=tot p.n) (c:=tot p.n) (q:=q) hU hb (k:=p.k) (xn:=xn) (yd:=yd)
 rw [Gb hok hll hb,hP.tln] at hpt
 have htg':fM ((treW p.L p.c p.s).getD (bi/4) default) (bi%4)=dX p.L p.c bi:=htg
 rw [htg'] at hpt
 have hsec:2*bi+dX p.L p.c bi<M.I.size:=by
  rw [hD.ok.size];have:=pY p.n (hgt p.n+1);omega
 have hvl:=hD.ok.vl (2*bi+dX p.L p.c bi)
 have hvl2:(M.I.vs.getD (2*bi+dX p.L p.c bi) []).length≤1099511627776:=by
  rw [←hD.ok.cn,DI.con_len] at hvl;omega
 have hchg:=hD.ok.chg
 have hdw:=fun (a:Option Addr) (n c:Nat)=>uJ (d:=M.d) (I:=M.I) (s:=2*bi+dX p.L p.c bi) (a:=a) (n:=n) (c:=c) (l:=(cJ p.k xn yd).l) hD.ok.ok hsec (by omega) hvl2 (by rw [(cJ p.k xn yd).h];decide)
 have husm:=hP.usm
 have hla:=Jk (a:=M.ua) (n:=p.us.length) (c:=M.uc) (us:=p.us) (u:=⟨p.k.enc,⟨xn,0,1⟩⟩) (by omega) hP.use (Nat.zero_le _)
 unfold c8
 refine ak fun G=> ?_
 (repeat' ((try refine aw ?_);(conv=>arg 4;whnf);first | refine aO ?_ |(refine sN ?_;intro b)|(refine cw hpt ?_;intro x hx;refine bV ?_)|(refine aA Iw ?_;intro x hx;refine aH ?_)|((first | refine cw hla ?_ | refine cw (hdw _ _ _) ?_);intro x hx;refine bV ?_)| fail));(all_goals refine av ?_)
 rename_i zt _ _ _ _ _ ub _
 obtain ⟨d',nb,v1,v2⟩:=x
 have hsec2:=hsec
 rw [hD.ok.size] at hsec2
 have hput:=hD.ok.put (d':=d') (nb:=nb) (s:=2*bi+dX p.L p.c bi) (v:=⟨v1,v2,true,(cJ p.k xn yd).l⟩) hsec2 hx.2 (fun _=>by rw [(cJ p.k xn yd).h];decide)
 rw [if_pos (show (⟨v1,v2,true,(cJ p.k xn yd).l⟩:VN).th=true from rfl)] at hput
 have e:(p.us++ [(⟨p.k.enc,⟨xn,0,1⟩⟩:SUse)]).length=p.us.length+1:=by simp
 unfold PS.put
 dsimp only
 rw [e]
 exact aD (d',M.I.put (2*bi+dX p.L p.c bi) nb ⟨v1,v2,true,(cJ p.k xn yd).l⟩,zt.1,ub) ⟨hput,hx.1.trans hD.sz⟩ rfl (am _) bu
end
end Go.Proofs.YtbobhnldhpjdlaaGreatDoor
namespace Go.Proofs.YtbobhnldhpjdlaaGreatDoor
open Go Go.RowKit Go.Cs Go.Cz
set_option maxRecDepth 100000
set_option maxHeartbeats 4000000
theorem HZ {P:Program} {f:FuncId} {args:List Value} {Fi Fi':List Pt} {X X':Type} {p:X→Prop} {p':X'→Prop} {r:X→Value} {r':X'→Value} {Oo:X→List It} {Oo':X'→List It} {Fo:X→List Pt} {Fo':X'→List Pt} (h:Zp P f args [] Fi X p r Oo Fo) (hFi:∀g∈Fi,g∈Fi') (m:X→X')
  (hp:∀x,p x→p' (m x)) (hr:∀x,r x=r' (m x)) (hO:∀x,Wk (Oo x) (Oo' (m x))) (hF:∀x,∀g∈Fo' (m x),g∈Fo x++Fi'):Zp P f args [] Fi' X' p' r' Oo' Fo':=⟨h.en,fun w B hp0=>(h.go w B (hp0.wk (ar _) hFi)).mono (by
 rintro e w' ⟨v,rfl,x,hx,rfl,hp'⟩
 have h1:=Hp.step (G:=⟨w,fps [],B⟩) (L:= []) (O:= []) (w':=w') (F':=Fo x) (L':=Oo x) (by simpa using hp0) hp'.ch hp'.own hp'.nd (fun k hk=>⟨(hp'.fr k hk).1,(hp'.fr k hk).2.1⟩) (by simpa using hp'.st)
 exact ⟨_,rfl,m x,hp x hx,hr x,h1.wk (by simpa using hO x) (hF x)⟩)⟩
def PS.res (p:PS) (sd:Nat):PS:={p with
 mark:=if (p.al.getD sd default).toNat<p.mark then p.mark else p.mark+p.rs
 cell:=if (p.al.getD sd default).toNat<p.mark then p.cell else p.cell.rsv p.rs
 log:=if (p.al.getD sd default).toNat<p.mark then p.log else p.log++ [p.cell.rsv p.rs]}
theorem oT {p:PS} {sd:Nat} (h:(p.al.getD sd default).toNat<p.mark):p.res sd=p:=by unfold PS.res;simp only [if_pos h]
theorem ph {p:PS} {sd:Nat} (h:¬(p.al.getD sd default).toNat<p.mark):p.res sd=p.ext:=by unfold PS.res PS.ext;simp only [if_neg h]
theorem MM {P:Program} {f:FuncId} {args:List Value} {Oi:List It} {Fi Fi':List Pt} {X:Type} {p:X→Prop} {r:X→Value} {Oo:X→List It} {Fo:X→List Pt} (h:Zp P f args Oi Fi X p r Oo Fo) (e:Fi=Fi'):Zp P f args Oi Fi' X p r Oo Fo:=e▸h
section
variable {p:PS} {M:ML} {T sd:Nat} {q:Value×Value}
theorem BK {n:Nat} {k:Key} {con:Con} {L Lc:List Rec} {c:List Bool} {s:List Nat} {now dur:List Dig} {cell:Cel} (h:Work n k con L c s now Lc dur cell) (r:Nat):Work n k con L c s now Lc dur (cell.rsv r):=
 ⟨⟨h.int.ll,h.int.ok,h.int.dl,h.int.nds,h.int.dat,h.int.root,h.int.slot⟩,h.ok,h.ll,h.nl,h.dat,h.old,h.new⟩
theorem POk.up (hP:POk p T) (hT:T<1000):POk p (T+1):=⟨hP.work,hP.aok,hP.shn,hP.log0,by have:=hP.logm;omega,by have:=hP.usm;omega,hT,hP.last,hP.mkc,hP.use,hP.ep,hP.sec⟩
theorem POk.ext (hP:POk p T) (hT:T<1000) (hr:p.mark+p.rs≤p.lm):POk p.ext (T+1):=by
 have hlm:=hP.aok.lm
 dsimp only at hlm
 have hmk:=hP.mkc
 refine ⟨BK hP.work _,⟨hP.aok.l1,hP.aok.l8,hr,hP.aok.r1,hP.aok.r2,hP.aok.rl,hP.aok.lm,fun i hi=>Nat.le_trans (hP.aok.cm i hi) (Nat.le_add_right _ _)⟩,hP.shn, ?_, ?_,Nat.le_succ_of_le hP.usm,hT, ?_, ?_,hP.use, ?_,hP.sec⟩
 ·show 0<(p.log++ [p.cell.rsv p.rs]).length;simp
 ·show (p.log++ [p.cell.rsv p.rs]).length≤_;have:=hP.logm;simp;omega
 ·show (p.log++ [p.cell.rsv p.rs]).getD ((p.log++ [p.cell.rsv p.rs]).length-1) default=p.cell.rsv p.rs;simp [List.getD]
 ·show (p.cell.mark+p.rs)%2^64=p.mark+p.rs;rw [hmk];omega
 ·show p.cell.ep≤(p.log++ [p.cell.rsv p.rs]).length;have:=hP.ep;simp;omega
theorem POk.res (hP:POk p T) (hT:T<1000) (hr:¬(p.al.getD sd default).toNat<p.mark→p.mark+p.rs≤p.lm):POk (p.res sd) (T+1):=by
 by_cases h:(p.al.getD sd default).toNat<p.mark
 ·rw [oT h];exact hP.up hT
 ·rw [ph h];exact hP.ext hT (hr h)
theorem B4 (hP:POk p T) (hsd:sd<p.al.length):((p.res sd).al.getD sd default).toNat<(p.res sd).mark:=by
 by_cases h:(p.al.getD sd default).toNat<p.mark
 ·rw [oT h];exact h
 ·rw [ph h]
  have h1:=hP.aok.cm sd hsd
  have h2:1≤p.rs:=hP.aok.r1
  show (p.al.getD sd default).toNat<p.mark+p.rs
  dsimp only at h1
  omega
theorem POk.tak (hP:POk p T) (hsd:sd<p.al.length) (hlt:(p.al.getD sd default).toNat<p.mark):POk (p.tak sd) T:=by
 have hm:p.mark≤p.lm:=hP.aok.ml
 have hlm:p.lm<18446744073709551616:=hP.aok.lm
 have hln:(p.al.set sd (p.al.getD sd default+1)).length=p.al.length:=by simp
 refine ⟨hP.work,⟨by show 1≤(p.al.set sd _).length;rw [hln];exact hP.aok.l1,by show (p.al.set sd _).length≤8;rw [hln];exact hP.aok.l8,hP.aok.ml,hP.aok.r1,hP.aok.r2,hP.aok.rl,hP.aok.lm,fun i hi=> ?_⟩,by show (p.al.set sd _).length≤_;rw [hln];exact hP.shn,hP.log0,hP.logm,hP.usm,hP.hT,hP.last,hP.mkc,hP.use,hP.ep,hP.sec⟩
 show ((p.al.set sd (p.al.getD sd default+1)).getD i default).toNat≤p.mark
 by_cases e:i=sd
 ·subst e
  have:(p.al.set i (p.al.getD i default+1)).getD i default=p.al.getD i default+1:=by simp [List.getD,hsd]
  rw [this,UInt64.toNat_add]
  show ((p.al.getD i default).toNat+1)%2^64≤_
  omega
 ·have:(p.al.set sd (p.al.getD sd default+1)).getD i default=p.al.getD i default:=by simp [List.getD,List.getElem?_set_ne (Ne.symm e)]
  rw [this]
  exact hP.aok.cm i (by change i<(p.al.set sd _).length at hi;rw [hln] at hi;exact hi)
theorem POk.put {bi:Nat} {xn:Non} {yd:Dig} (hP:POk p T) (hb:bi<p.n) (hu:p.us.length<T):POk (p.put bi xn yd) T:=by
 refine ⟨hP.work.write hb xn yd,hP.aok,hP.shn,hP.log0,hP.logm, ?_,hP.hT,hP.last,hP.mkc,fun i hi=> ?_,hP.ep,hP.sec⟩
 ·show (p.us++ [(⟨p.k.enc,⟨xn,0,1⟩⟩:SUse)]).length≤T;simp;omega
 ·have hi':i<p.us.length+1:=by
   change i<(p.us++ [(⟨p.k.enc,⟨xn,0,1⟩⟩:SUse)]).length at hi;simpa using hi
  show ((p.us++ [(⟨p.k.enc,⟨xn,0,1⟩⟩:SUse)]).getD i default).Range.First≤((p.us++ [(⟨p.k.enc,⟨xn,0,1⟩⟩:SUse)]).getD i default).Range.Last
  by_cases e:i<p.us.length
  ·have:(p.us++ [(⟨p.k.enc,⟨xn,0,1⟩⟩:SUse)]).getD i default=p.us.getD i default:=by simp [List.getD,List.getElem?_append_left e]
   rw [this];exact hP.use i e
  ·have e2:i=p.us.length:=by omega
   subst e2
   simp [List.getD]
theorem dY {d:SDsk} {I:DI} {sz B B':Nat} {con:Con} (h:DOk d I sz B con) (hB:B≤B'):DOk d I sz B' con:=⟨h.ok,h.size,h.cn,Nat.le_trans h.chg hB,fun i=>Nat.le_trans (h.vl i) hB,h.bl⟩
theorem I6 (hP:POk p T) (hsd:sd<p.al.length) (hs2:sd<4294967296) (hr:¬(p.al.getD sd default).toNat<p.mark→p.mark+p.rs≤p.lm):Zp Tryz.prog 74 [vA (aB (c8 p M)),vI sd] [] [Sl cQ (some ⟨M.ab,0,none⟩) p.al.length p.al.length p.al,Sl aL (some ⟨M.lb,0,none⟩) p.log.length M.lc p.log] (Nat×Nat×Nat) (fun _=>True) (fun z=> .tuple #[vA (aB (c8 ((p.res sd).tak sd) {M with ab:=z.1,lb:=z.2.1,lc:=z.2.2})),vA (br (jT sd (p.al.getD sd default) hs2)),vI 0]) (fun _=> []) (fun z=> [Sl cQ (some ⟨z.1,0,none⟩) ((p.res sd).tak sd).al.length ((p.res sd).tak sd).al.length ((p.res sd).tak sd).al,Sl aL (some ⟨z.2.1,0,none⟩) ((p.res sd).tak sd).log.length z.2.2 ((p.res sd).tak sd).log]):=by
 by_cases hlt:(p.al.getD sd default).toNat<p.mark
 ·rw [oT hlt]
  refine HZ (Ah (M:=M) hP.aok hsd hs2 hlt) (by simp) (fun z=>(z,M.lb,M.lc)) (fun _ _=>True.intro) (fun _=>rfl) (fun _=>ar _) (fun x g hg=> ?_)
  rcases List.mem_cons.1 hg with rfl | hg
  ·exact .head _
  ·rcases List.mem_cons.1 hg with rfl | hg
   ·exact .tail _ (.tail _ (.head _))
   ·cases hg
 ·rw [ph hlt]
  have h1:=hP.aok.cm sd hsd
  dsimp only at h1
  have h2:=hP.logm
  have h3:=hP.hT
  exact Gz hP.n1 hP.log0 (by omega) hP.last hP.mkc hP.aok hsd hs2 (by omega) (hr hlt)
end
end Go.Proofs.YtbobhnldhpjdlaaGreatDoor
namespace Go.Proofs.YtbobhnldhpjdlaaGreatDoor
open Go Go.RowKit Go.Cs Go.Cz
set_option maxRecDepth 100000
set_option maxHeartbeats 4000000
instance:Mi Tryz.prog 346:=⟨fun v w=>by kernel_rfl⟩
instance (priority:=2000) {f:Fn} {a b:Array Value} {v u t s:Value} {cs:List Value}:Sb (s::t::u::v:: .func f a b::cs) (4*1) [.func f a b] True:=⟨fun _=>⟨[s,t,u,v],cs,rfl,rfl⟩⟩
theorem cY {v u:SSto}:Zp Tryz.prog 76 [vA (aB v),vA (aB u), .nilIface] [] [] Unit (fun _=>True) (fun _=> .tuple #[vA (aB u),vI 0]) (fun _=> []) (fun _=> []):=by
 refine ak fun G=> ?_
 (repeat' ((try refine aw ?_);(conv=>arg 4;whnf);first | refine az ?_ |(refine sN ?_;intro b)| refine ae ?_ | exact ax | fail));(all_goals refine av ?_)
 refine nF nK ?_
 (repeat' ((try refine aw ?_);(conv=>arg 4;whnf);first | refine az ?_ |(refine sN ?_;intro b)| refine ae ?_ | exact ax | fail));(all_goals refine av ?_)
section
variable {p:PS} {M:ML} {T:Nat} {q:Value×Value}
def PS.wrt (p:PS) (bi:Nat) (yd:Dig) (hs:bi%p.al.length<4294967296):PS:=((p.res (bi%p.al.length)).tak (bi%p.al.length)).put bi (jT (bi%p.al.length) (p.al.getD (bi%p.al.length) default) hs) yd
theorem I4 (hP:POk p T) (hD:DM p M T) (hT:T<1000) {bi c vb ib db nx ad ao:Nat} {l:List UInt8} {u:SSto} (hl:l.length=32) (hb:bi<p.n) (hs2:bi%p.al.length<4294967296) (hr:¬(p.al.getD (bi%p.al.length) default).toNat<p.mark→p.mark+p.rs≤p.lm):Zp Tryz.prog 73 [vP vb 0,vP ib 0,vP db 0,vP nx 0] [iB nx (aB u) 48] [Bk vb (aB (c8 p M)),Bk ib [vI bi],Bk db [.slice (some ⟨ad,ao,none⟩) 32 c],Dm M.d M.I,Sl aL (some ⟨M.lb,0,none⟩) p.log.length M.lc p.log,Sl cQ (some ⟨M.ab,0,none⟩) p.al.length p.al.length p.al,Sl a7 (some ⟨M.tb,0,none⟩) (tot p.n) (tot p.n) (treW p.L p.c p.s),Sl bP M.ua p.us.length M.uc p.us,Sl cB (some ⟨ad,ao,none⟩) 32 c l,Gs q] ML (fun z=>DM (p.wrt bi (Dig.of l) hs2) z (T+1)) (fun z=> .nilIface) (fun z=> [iB nx (aB (c8 (p.wrt bi (Dig.of l) hs2) z)) 48]) (fun z=>SFl (p.wrt bi (Dig.of l) hs2) z):=by
 have h1:=hP.n1
 have hsd:bi%p.al.length<p.al.length:=Nat.mod_lt _ hP.aok.l1
 have hP2:POk ((p.res (bi%p.al.length)).tak (bi%p.al.length)) (T+1):=(hP.res hT hr).tak hsd (B4 hP hsd)
 have htk:=I6 (M:=M) hP hsd hs2 hr
 have hpu:=fun a b c=>MM (Fi':= [Dm M.d M.I,Sl a7 (some ⟨M.tb,0,none⟩) (tot p.n) (tot p.n) (treW p.L p.c p.s),Sl bP M.ua p.us.length M.uc p.us,Gs q]) (I8 (p:=(p.res (bi%p.al.length)).tak (bi%p.al.length)) (M:={M with ab:=a,lb:=b,lc:=c}) (T:=T) (q:=q) (bi:=bi) (xn:=jT (bi%p.al.length) (p.al.getD (bi%p.al.length) default) hs2) (yd:=Dig.of l) hP2 ⟨hD.ok,hD.sz⟩ (by omega) hb) rfl
 generalize hp2:(p.res (bi%p.al.length)).tak (bi%p.al.length)=p2 at htk hpu
 generalize hxn:jT (bi%p.al.length) (p.al.getD (bi%p.al.length) default) hs2=xn at htk hpu
 have hw:p.wrt bi (Dig.of l) hs2=p2.put bi xn (Dig.of l):=by rw [←hp2,←hxn];rfl
 rw [hw]
 have hal1:=hP.aok.l1
 rw [show c8 p M=⟨p.n,p.k,M.d,(some ⟨M.lb,0,none⟩,p.log.length,M.lc),⟨(some ⟨M.ab,0,none⟩,p.al.length,p.al.length),p.mark,p.lm,p.rs⟩,⟨p.n,(some ⟨M.tb,0,none⟩,tot p.n,tot p.n)⟩,⟨(M.ua,p.us.length,M.uc)⟩,false⟩ from rfl]
 refine ak fun G=> ?_
 refine aR (Sl cB (some ⟨ad,ao,none⟩) 32 32 l) (fun w _ hf=>vO (hf (Sl cB (some ⟨ad,ao,none⟩) 32 c l) (by simp))) ?_
 (repeat' ((try refine aw ?_);(conv=>arg 4;whnf);first | refine aO ?_ |(refine sN ?_;intro b)| refine ae ?_ | refine af ?_ ?_ | refine ah ?_ ?_ ?_ | fail));(all_goals refine av ?_)
 refine eD (X:=Nat×Nat×Nat×Nat×Nat) (fun x=> [(0,vP vb 0),(1,vP ib 0),(2,vP db 0),(3,vP nx 0),(4, .nilIface),(5,vP x.1 0),(6,vP x.2.1 0),(7,vI 0)]) (fun _=>True) (fun x=> [iB x.1 (aB (c8 p2 {M with ab:=x.2.2.1,lb:=x.2.2.2.1,lc:=x.2.2.2.2})) 48,iB x.2.1 (br xn) 65,iB nx (aB u) 48]) (fun x=> [Sl cQ (some ⟨x.2.2.1,0,none⟩) p2.al.length p2.al.length p2.al,Sl aL (some ⟨x.2.2.2.1,0,none⟩) p2.log.length x.2.2.2.2 p2.log]) ?_ ?_
 ·intro K4
  (first |(refine bh ?_;(conv=>arg 4;whnf);refine bc rfl ?_))
  (repeat' ((try refine aw ?_);(conv=>arg 4;whnf);first | refine aO ?_ |(refine sN ?_;intro b)|(refine cw htk ?_;intro x hx;refine bV ?_)| refine ae ?_ | refine af ?_ ?_ | refine ah ?_ ?_ ?_ | fail));(all_goals refine av ?_)
  all_goals (
   revert b;intro b2
   first | exact d9 (b2,b,x.1,x.2.1,x.2.2) True.intro cD bu | exact d9 (b,b2,x.1,x.2.1,x.2.2) True.intro cD bu)
 rintro ⟨zs,zn,za,zl,zc⟩ _
 (conv=>arg 2;simp only [List.cons_append,List.nil_append])
 (conv=>arg 3;simp only [List.cons_append,List.nil_append])
 dsimp only
 (repeat' ((try refine aw ?_);(conv=>arg 4;whnf);first | refine aO ?_ |(refine sN ?_;intro b)| refine ae ?_ | refine af ?_ ?_ | refine ah ?_ ?_ ?_ | fail));(all_goals refine av ?_)
 have hpu1:=hpu za zl zc
 refine eD (X:=SDsk×DI×Nat×Nat) (fun x=> [(4, .nilIface),(7,vI 0)]) (fun x=>DOk x.1 x.2.1 (bas p2.n (hgt p2.n+1)) (1+24576*T+1) (p2.put bi xn (Dig.of l)).con∧x.1.size=bas p2.n (hgt p2.n+1)) (fun z=> [iB nx (aB (c8 (p2.put bi xn (Dig.of l)) {M with ab:=za,lb:=zl,lc:=zc,d:=z.1,I:=z.2.1,tb:=z.2.2.1,ua:=some ⟨z.2.2.2,0,none⟩,uc:=p2.us.length+1})) 48]) (fun z=> [Dm z.1 z.2.1,Sl a7 (some ⟨z.2.2.1,0,none⟩) (tot p2.n) (tot p2.n) (treW (p2.put bi xn (Dig.of l)).L (p2.put bi xn (Dig.of l)).c p2.s),Sl bP (some ⟨z.2.2.2,0,none⟩) (p2.put bi xn (Dig.of l)).us.length (p2.us.length+1) (p2.put bi xn (Dig.of l)).us]) ?_ ?_
 ·intro K4
  refine dH [nx] rfl ?_
  (repeat' ((try refine aw ?_);(conv=>arg 4;whnf);first | refine aO ?_ |(refine sN ?_;intro b)|(refine cw hpu1 ?_;intro x hx;refine bV ?_)| refine ae ?_ | refine af ?_ ?_ | refine ah ?_ ?_ ?_ | fail));(all_goals refine av ?_)
  exact d9 x hx (by
   ((repeat' (first | with_reducible exact ar _ | exact am _ | refine aE ?_ ?_ | refine aG inferInstance ?_ | fail))<;>(try with_reducible rfl))
   all_goals rfl) bu
 rintro ⟨zd,zI,zt,zu⟩ hz
 (conv=>arg 2;simp only [List.cons_append,List.nil_append])
 (conv=>arg 3;simp only [List.cons_append,List.nil_append])
 dsimp only at hz⊢
 (repeat' ((try refine aw ?_);(conv=>arg 4;whnf);first | refine aO ?_ |(refine sN ?_;intro b)| refine ae ?_ | refine af ?_ ?_ | refine ah ?_ ?_ ?_ | fail));(all_goals refine av ?_)
 refine aD {M with ab:=za,lb:=zl,lc:=zc,d:=zd,I:=zI,tb:=zt,ua:=some ⟨zu,0,none⟩,uc:=p2.us.length+1} ⟨dY hz.1 (by omega),hz.2⟩ rfl cD ?_
 show ∀f∈([Dm zd zI,Sl aL (some ⟨zl,0,none⟩) p2.log.length zc p2.log,Sl cQ (some ⟨za,0,none⟩) p2.al.length p2.al.length p2.al,Sl a7 (some ⟨zt,0,none⟩) (tot p2.n) (tot p2.n) (treW (p2.put bi xn (Dig.of l)).L (p2.put bi xn (Dig.of l)).c p2.s),Sl bP (some ⟨zu,0,none⟩) (p2.put bi xn (Dig.of l)).us.length (p2.us.length+1) (p2.put bi xn (Dig.of l)).us]:List Pt),f∈_
 exact bu
theorem E6 (hP:POk p T) (hD:DM p M T) (hT:T<1000) {bi c ad ao:Nat} {l:List UInt8} (hl:l.length=32) (hb:bi<p.n) (hs2:bi%p.al.length<4294967296) (hr:¬(p.al.getD (bi%p.al.length) default).toNat<p.mark→p.mark+p.rs≤p.lm):Zp Tryz.prog 12 [vA (aB (c8 p M)),vI bi, .slice (some ⟨ad,ao,none⟩) 32 c] [] [Dm M.d M.I,Sl aL (some ⟨M.lb,0,none⟩) p.log.length M.lc p.log,Sl cQ (some ⟨M.ab,0,none⟩) p.al.length p.al.length p.al,Sl a7 (some ⟨M.tb,0,none⟩) (tot p.n) (tot p.n) (treW p.L p.c p.s),Sl bP M.ua p.us.length M.uc p.us,Sl cB (some ⟨ad,ao,none⟩) 32 c l,Gs q] ML (fun z=>DM (p.wrt bi (Dig.of l) hs2) z (T+1)) (fun z=> .tuple #[vA (aB (c8 (p.wrt bi (Dig.of l) hs2) z)),vI 0]) (fun _=> []) (fun z=>SFl (p.wrt bi (Dig.of l) hs2) z):=by
 have h1:=hP.n1
 have husm:=hP.usm
 have hTT:=hP.hT
 have hw4:=fun vb ib db nx u=>I4 (M:=M) (vb:=vb) (ib:=ib) (db:=db) (nx:=nx) (u:=u) (c:=c) (ad:=ad) (ao:=ao) (q:=q) hP hD hT hl hb hs2 hr
 have hvE:c8 p M=⟨p.n,p.k,M.d,(some ⟨M.lb,0,none⟩,p.log.length,M.lc),⟨(some ⟨M.ab,0,none⟩,p.al.length,p.al.length),p.mark,p.lm,p.rs⟩,⟨p.n,(some ⟨M.tb,0,none⟩,tot p.n,tot p.n)⟩,⟨(M.ua,p.us.length,M.uc)⟩,false⟩:=rfl
 rw [hvE] at hw4⊢
 refine ak fun G=> ?_
 (repeat' ((try refine aw ?_);(conv=>arg 4;whnf);first | refine aO ?_ |(refine sN ?_;intro b)|(refine aA cY ?_;intro x hx;refine aH ?_)| refine ae ?_ | fail));(all_goals refine av ?_)
 rename_i vb ib db rb nx
 revert b;intro fb
 refine bG vb ?_
 refine bG ib ?_
 refine bG db ?_
 refine bG fb ?_
 have hw5:=hw4 vb ib db nx
 refine gJ 6 (bN ?_)
 (repeat' ((try refine aw ?_);(conv=>arg 4;whnf);first | refine aO ?_ |(refine sN ?_;intro b)|(refine da (hw5 _) ?_;intro x hx;refine bV ?_)|(refine aA cY ?_;intro x hx;refine aH ?_)| refine ae ?_ | fail));(all_goals refine av ?_)
 refine bN ?_
 (repeat' ((try refine aw ?_);(conv=>arg 4;whnf);first | refine aO ?_ |(refine sN ?_;intro b)|(refine da (hw5 _) ?_;intro x hx;refine bV ?_)|(refine aA cY ?_;intro x hx;refine aH ?_)| refine ae ?_ | fail));(all_goals refine av ?_)
 refine bN ?_
 (repeat' ((try refine aw ?_);(conv=>arg 4;whnf);first | refine aO ?_ |(refine sN ?_;intro b)|(refine da (hw5 _) ?_;intro x hx;refine bV ?_)|(refine aA cY ?_;intro x hx;refine aH ?_)| refine ae ?_ | fail));(all_goals refine av ?_)
 refine bN ?_
 (repeat' ((try refine aw ?_);(conv=>arg 4;whnf);first | refine aO ?_ |(refine sN ?_;intro b)|(refine da (hw5 _) ?_;intro x hx;refine bV ?_)|(refine aA cY ?_;intro x hx;refine aH ?_)| refine ae ?_ | fail));(all_goals refine av ?_)
 refine bN ?_
 (repeat' ((try refine aw ?_);(conv=>arg 4;whnf);first | refine aO ?_ |(refine sN ?_;intro b)|(refine da (hw5 _) ?_;intro x hx;refine bV ?_)|(refine aA cY ?_;intro x hx;refine aH ?_)| refine ae ?_ | fail));(all_goals refine av ?_)
 refine bN ?_
 (repeat' ((try refine aw ?_);(conv=>arg 4;whnf);first | refine aO ?_ |(refine sN ?_;intro b)|(refine da (hw5 _) ?_;intro x hx;refine bV ?_)|(refine aA cY ?_;intro x hx;refine aH ?_)| refine ae ?_ | fail));(all_goals refine av ?_)
 rename_i zm hzm
 exact aD zm hzm rfl (am _) bu
end
end Go.Proofs.YtbobhnldhpjdlaaGreatDoor
namespace Go.Proofs.YtbobhnldhpjdlaaGreatDoor
open Go Go.RowKit Go.Cs Go.Cz
set_option maxRecDepth 100000
set_option maxHeartbeats 4000000
section
variable {p:PS} {M:ML} {T:Nat} {q:Value×Value}
abbrev iT (p:PS) (M:ML):SSto:=⟨p.n,p.k,M.d,(some ⟨M.lb,0,none⟩,p.log.length,M.lc),⟨(some ⟨M.ab,0,none⟩,p.al.length,p.al.length),p.mark,p.lm,p.rs⟩,⟨p.n,(some ⟨M.tb,0,none⟩,tot p.n,tot p.n)⟩,⟨(M.ua,p.us.length,M.uc)⟩,false⟩
def PS.fls (p:PS):PS:={p with con:=nt p.n p.con p.L p.c p.s,c:=Cs.fls p.n,s:=gL p.n p.c p.s,Lc:=p.L,dur:=p.now,cell:=p.cell.nxt (cq p.L (bZ p.n p.c p.s)),log:=p.log++ [p.cell.nxt (cq p.L (bZ p.n p.c p.s))]}
theorem mD {n:Nat} {ts:List Un}:∀{m:Nat} {y:Nat×List UInt8},y∈di n ts m→∃k,k<m∧y=mN n ts k
  | 0,y,h=>by cases h
  | m+1,y,h=>by
    by_cases hw:iX n ts m=true
    · rw [iq hw] at h
      rcases List.mem_append.1 h with h | h
      · obtain ⟨k,h1,h2⟩:=mD h;exact ⟨k,by omega,h2⟩
      · simp only [List.mem_singleton] at h;exact ⟨m,by omega,h⟩
    · rw [wQ hw] at h
      obtain ⟨k,h1,h2⟩:=mD h;exact ⟨k,by omega,h2⟩
theorem FR {n:Nat} {L:List Rec} {c:List Bool} {s:List Nat} (hok:OkW L c s) (hll:L.length=n) {i:Nat} (hi:i<(di n (treW L c s) (tot n)).length):((di n (treW L c s) (tot n)).getD i default).1<bas n (hgt n+1)∧((di n (treW L c s) (tot n)).getD i default).2.length≤256:=by
  have hm:(di n (treW L c s) (tot n)).getD i default∈di n (treW L c s) (tot n):=by
    rw [←List.getElem_eq_getD (h:=hi)];exact List.getElem_mem hi
  obtain ⟨k,hk,e⟩:=mD hm
  rw [e]
  have h1:=jo hok hll k
  have h2:=o6 n (hgt n+1)
  have h3:tot n=num n (hgt n+1):=rfl
  refine ⟨?_, ?_⟩
  · show ee n k (1-((treW L c s).getD k Un.zero).sl).toNat<_
    unfold ee;omega
  · show (aM ((treW L c s).getD k Un.zero).nd).length≤256
    rw [dN];split<;>omega
theorem IV (hP:POk p T) (hD:DM p M T) (hT:T<1000) {vb nx:Nat}:Zp Tryz.prog 121 [vP vb 0,vP nx 0] [iB nx (aB (iT p M)) 48] [Bk vb (aB (iT p M)),Dm M.d M.I,Sl aL (some ⟨M.lb,0,none⟩) p.log.length M.lc p.log,Sl a7 (some ⟨M.tb,0,none⟩) (tot p.n) (tot p.n) (treW p.L p.c p.s),Gs q] (SDsk×DI×Nat×Nat×Nat) (fun z=>DM p.fls {M with d:=z.1,I:=z.2.1} (T+1)) (fun z=> .nilIface) (fun z=> [iB nx (aB (c8 p.fls {M with d:=z.1,I:=z.2.1,lb:=z.2.2.1,lc:=z.2.2.2.1,tb:=z.2.2.2.2})) 48]) (fun z=> [Dm z.1 z.2.1,Sl aL (some ⟨z.2.2.1,0,none⟩) p.fls.log.length z.2.2.2.1 p.fls.log,Sl a7 (some ⟨z.2.2.2.2,0,none⟩) (tot p.n) (tot p.n) (treW p.fls.L p.fls.c p.fls.s)]):=by
  have h1:=hP.n1
  have h2:=hP.n2
  have hll:=hP.work.ll
  have hok:=hP.work.ok
  have htln:=hP.tln
  have htot:=eR h1 h2
  have hlast:tot p.n-1=num p.n (hgt p.n):=by omega
  have hTT:=hP.hT
  have hlm:=hP.logm
  have hepl:=hP.ep
  have hts:=b9 h2
  have hcl:=wc (p:=p) (M:=M) h1 hP.log0 (by omega) hP.last
  rw [show c8 p M=iT p M from rfl] at hcl
  have hroot:bI (aM ((treW p.L p.c p.s).getD ((treW p.L p.c p.s).length-1) default).nd)=cq p.L (bZ p.n p.c p.s):=by
    rw [htln,hlast];exact FW hok hll
  have hsl:((treW p.L p.c p.s).getD ((treW p.L p.c p.s).length-1) default).sl=((p.cell.ep%2:Nat):Int):=by
    rw [htln,hlast,hP.work.int.slot]
    have:=k7 (c:=p.c) (s:=p.s) hll (l:=hgt p.n) (j:=0) (Nat.le_refl _) (dk h1 _)
    rw [Nat.add_zero] at this
    rw [show (treW p.L p.c p.s).getD (num p.n (hgt p.n)) default=(treW p.L p.c p.s).getD (num p.n (hgt p.n)) Un.zero from rfl,this]
    show ((p.s.getD (num p.L.length (hgt p.n)+0) 0:Nat):Int)=_
    rw [hll];rfl
  have hpl:=JD (tb:=M.tb) (to:=0) (m:=tot p.n) (c:=tot p.n) (q:=q) (cell:=p.cell) hP.tok hsl (by omega)
  rw [hroot] at hpl
  have hpb:=G7 (tb:=M.tb) (to:=0) (m:=tot p.n) (c:=tot p.n) (q:=q) hP.tok
  rw [htln] at hpl hpb
  rw [Fq hok hll] at hpb
  have hwl:=xk p.n (treW p.L p.c p.s) (tot p.n)
  have hap:=fun (vs:List SWri) (g o:Nat) (h0:0<vs.length) (h9:vs.length=(di p.n (treW p.L p.c p.s) (tot p.n)).length)=>IB (d:=M.d) (I:=M.I) (vs:=vs) (l:=di p.n (treW p.L p.c p.s) (tot p.n)) (g:=g) (o:=o) hD.ok (by omega) h0 (by omega) (fun i hi=>FR hok hll hi)
  have hwi:=fun (d:SDsk) (I:DI)=>E3 (p:=p) (M:={M with d:=d,I:=I}) (y:=p.cell.nxt (cq p.L (bZ p.n p.c p.s))) hP.log0 (by omega)
  refine ak fun G=> ?_
  (repeat' ((try refine aw ?_);(conv=>arg 4;whnf);first | refine aO ?_ |(refine sN ?_;intro b)| refine ae ?_ | refine af ?_ ?_ | fail));(all_goals refine av ?_)
  refine eD (X:=List SWri×Nat×Nat×Nat) (fun x=> [(0,vP vb 0),(1,vP nx 0),(2, .nilIface),(3, .slice (some ⟨x.2.1,x.2.2.1,none⟩) x.1.length x.1.length),(4,vP x.2.2.2 0),(5,vI 0)]) (fun x=>0<x.1.length∧x.1.length=(di p.n (treW p.L p.c p.s) (tot p.n)).length) (fun x=> [iB x.2.2.2 (aL (p.cell.nxt (cq p.L (bZ p.n p.c p.s)))) 80,iB nx (aB (iT p M)) 48]) (fun x=> [Sl cx (some ⟨x.2.1,x.2.2.1,none⟩) x.1.length x.1.length x.1,Wm x.1 (di p.n (treW p.L p.c p.s) (tot p.n))]) ?_ ?_
  · intro K4
    (refine bh ?_;(conv=>arg 4;whnf);refine bc rfl ?_)
    (repeat' ((try refine aw ?_);(conv=>arg 4;whnf);first | refine aO ?_ |(refine sN ?_;intro b)|(refine aA hcl ?_;intro x hx;refine aH ?_)|(refine cw hpl ?_;intro x hx;refine bV ?_)| refine ae ?_ | refine af ?_ ?_ | fail));(all_goals refine av ?_)
    all_goals (
      revert b;intro zb
      exact d9 (x.1,x.2.1,x.2.2,zb) hx cD bu)
  rintro ⟨vs,g,o,cb⟩ ⟨hv0,hv1⟩
  dsimp only at hv0 hv1
  (conv=>arg 2;simp only [List.cons_append,List.nil_append])
  (conv=>arg 3;simp only [List.cons_append,List.nil_append])
  dsimp only
  have hap1:=hap vs g o hv0 hv1
  (repeat' ((try refine aw ?_);(conv=>arg 4;whnf);first | refine aO ?_ |(refine sN ?_;intro b)|(refine cw hap1 ?_;intro x hx;refine bV ?_)| refine af ?_ ?_ | fail));(all_goals refine av ?_)
  obtain ⟨zd,zI⟩:=x
  dsimp only at hx⊢
  obtain ⟨hxd,hxs⟩:=hx
  have hwi1:=hwi zd zI
  (repeat' ((try refine aw ?_);(conv=>arg 4;whnf);first | refine aO ?_ |(refine sN ?_;intro b)|(refine cw hwi1 ?_;intro x hx;refine bV ?_)|(refine aA hpb ?_;intro x hx;refine aH ?_)| refine af ?_ ?_ | fail));(all_goals refine av ?_)
  (repeat' ((try refine aw ?_);(conv=>arg 4;whnf);first | refine aO ?_ |(refine sN ?_;intro b)| refine ae ?_ | refine af ?_ ?_ | fail));(all_goals refine av ?_)
  rename_i wz _
  have hTl:(treW p.L (Cs.fls p.n) (gL p.n p.c p.s)).length=tot p.n:=by rw [jt,hll]
  refine eK (K:=a7) (l:=treW p.L (Cs.fls p.n) (gL p.n p.c p.s)) x (tot p.n) (tot p.n) ?_ (hn:=⟨hTl.symm,Nat.le_refl _,by omega⟩)
  refine aD (zd,zI,wz.1,wz.2,x) ⟨dY hxd (by omega),hxs.trans hD.sz⟩ rfl (by
    ((repeat' (first | with_reducible exact ar _ | exact am _ | refine aE ?_ ?_ | fail))<;>(try with_reducible rfl))
    all_goals rfl) ?_
  show ∀f∈([Dm zd zI,Sl aL (some ⟨wz.1,0,none⟩) (p.log++ [p.cell.nxt (cq p.L (bZ p.n p.c p.s))]).length wz.2 (p.log++ [p.cell.nxt (cq p.L (bZ p.n p.c p.s))]),Sl a7 (some ⟨x,0,none⟩) (tot p.n) (tot p.n) (treW p.L (Cs.fls p.n) (gL p.n p.c p.s))]:List Pt),f∈_
  exact bu
theorem Ea (hP:POk p T) (hD:DM p M T) (hT:T<1000):Zp Tryz.prog 34 [vA (aB (c8 p M))] [] [Dm M.d M.I,Sl aL (some ⟨M.lb,0,none⟩) p.log.length M.lc p.log,Sl cQ (some ⟨M.ab,0,none⟩) p.al.length p.al.length p.al,Sl a7 (some ⟨M.tb,0,none⟩) (tot p.n) (tot p.n) (treW p.L p.c p.s),Sl bP M.ua p.us.length M.uc p.us,Gs q] ML (fun z=>DM p.fls z (T+1)) (fun z=> .tuple #[vA (aB (c8 p.fls z)),vI 0]) (fun _=> []) (fun z=>SFl p.fls z):=by
  have h1:=hP.n1
  have hf1:=fun vb nx=>IV (M:=M) (vb:=vb) (nx:=nx) (q:=q) hP hD hT
  rw [show c8 p M=iT p M from rfl]
  refine ak fun G=> ?_
  (repeat' ((try refine aw ?_);(conv=>arg 4;whnf);first | refine aO ?_ |(refine sN ?_;intro b)|(refine aA cY ?_;intro x hx;refine aH ?_)| refine ae ?_ | fail));(all_goals refine av ?_)
  rename_i vb rb nx
  revert b;intro fb
  refine bG vb ?_
  refine bG fb ?_
  have hf2:=hf1 vb nx
  refine gJ 3 (bN ?_)
  (repeat' ((try refine aw ?_);(conv=>arg 4;whnf);first | refine aO ?_ |(refine sN ?_;intro b)|(refine da hf2 ?_;intro x hx;refine bV ?_)|(refine aA cY ?_;intro x hx;refine aH ?_)| refine ae ?_ | fail));(all_goals refine av ?_)
  refine bN ?_
  (repeat' ((try refine aw ?_);(conv=>arg 4;whnf);first | refine aO ?_ |(refine sN ?_;intro b)|(refine da hf2 ?_;intro x hx;refine bV ?_)|(refine aA cY ?_;intro x hx;refine aH ?_)| refine ae ?_ | fail));(all_goals refine av ?_)
  refine bN ?_
  (repeat' ((try refine aw ?_);(conv=>arg 4;whnf);first | refine aO ?_ |(refine sN ?_;intro b)|(refine da hf2 ?_;intro x hx;refine bV ?_)|(refine aA cY ?_;intro x hx;refine aH ?_)| refine ae ?_ | fail));(all_goals refine av ?_)
  rename_i zz hzz
  obtain ⟨zd,zI,zl,zc,zt⟩:=zz
  dsimp only at hzz⊢
  refine aD {M with d:=zd,I:=zI,lb:=zl,lc:=zc,tb:=zt} ⟨hzz.ok,hzz.sz⟩ rfl (am _) ?_
  show ∀f∈([Dm zd zI,Sl aL (some ⟨zl,0,none⟩) p.fls.log.length zc p.fls.log,Sl cQ (some ⟨M.ab,0,none⟩) p.al.length p.al.length p.al,Sl a7 (some ⟨zt,0,none⟩) (tot p.n) (tot p.n) (treW p.fls.L p.fls.c p.fls.s),Sl bP M.ua p.us.length M.uc p.us]:List Pt),f∈_
  exact bu
end
end Go.Proofs.YtbobhnldhpjdlaaGreatDoor
namespace Go.Proofs.YtbobhnldhpjdlaaGreatDoor
open Go Go.RowKit Go.Cs Go.Cz
set_option maxRecDepth 100000
set_option maxHeartbeats 4000000
def opn (n sh lm rs:Nat) (ms:Dig):PS:=⟨n,lm,rs,nv ms,zC n,zL n,Cs.fls n,zS n,zD n,zL n,zD n,gO n, [gO n],List.replicate sh 0,0, []⟩
theorem GX (n:Nat):(zS n).length=tot n:=by simp [zS]
theorem GI {n i:Nat} (hi:i<tot n-1):(zS n).getD i 0=1:=by
 unfold zS
 rw [List.getD_eq_getElem?_getD,List.getElem?_set_ne (by omega),List.getElem?_replicate,if_pos (by omega)];rfl
theorem JO {n:Nat} (h1:1≤n) (h2:n≤4096):ra (zL n) (zS n)=zS n:=by
 have hl:(zL n).length=n:=by simp [zL]
 refine (i6 0 (by rw [hl];exact GX n) fun l j hl' hj=> ?_).symm
 rw [hl] at hl' hj
 unfold rQ
 rw [hl]
 by_cases h:l=hgt n
 ·rw [if_neg (fun hh=>hh.1 h)]
 ·rw [if_pos ⟨h,tc _ _ _⟩]
  have h3:=c7 n (l:=l+1) (m:=hgt n) (by omega)
  have h4:=eR h1 h2
  have h5:num n (l+1)=num n l+cnt n l:=rfl
  exact GI (by omega)
section
variable {n sh fr cl lm rs fw:Nat} {ms:Dig} {q:Value×Value}
theorem AG (h1:1≤n) (h2:n≤4096) (h3:bas n (hgt n+1)≤10922) (hsn:sh≤n) (ha:AOk ⟨(none,sh,sh),0,lm,rs⟩ (List.replicate sh 0)):POk (opn n sh lm rs ms) 0:=
 ⟨zW (nv ms) h1 h2,⟨ha.l1,ha.l8,ha.ml,ha.r1,ha.r2,ha.rl,ha.lm,ha.cm⟩,(by show (List.replicate sh (0:UInt64)).length≤n;simpa using hsn),Nat.zero_lt_one,Nat.le_refl _,Nat.le_refl _,Nat.zero_le _,rfl,rfl,fun i hi=>(by cases hi),Nat.zero_le _,h3⟩
theorem EJ (h1:1≤n) (h2:n≤4096) (h3:bas n (hgt n+1)≤10922) (hsn:sh≤n) (ha:AOk ⟨(none,sh,sh),0,lm,rs⟩ (List.replicate sh 0)):Zp Tryz.prog 10 [vA (bq ⟨n,sh,fr,cl,lm,rs,ms,fw⟩)] [] [Gs q] ML (fun z=>DM (opn n sh lm rs ms) z 0) (fun z=> .tuple #[vA (aB (c8 (opn n sh lm rs ms) z)),vI 0]) (fun _=> []) (fun z=>SFl (opn n sh lm rs ms) z):=by
 refine ak fun G=> ?_
 (repeat' ((try refine aw ?_);(conv=>arg 4;whnf);first | refine aO ?_ |(refine sN ?_;intro b)|(refine aA (kM h1 h2) ?_;intro x hx;refine aH ?_)|((first | refine cw (H1 ha) ?_ | refine cw (IC (q:=q) h1 h2 h3) ?_);intro x hx;refine bV ?_)| refine af ?_ ?_ | fail));(all_goals refine av ?_)
 obtain ⟨d,I⟩:=x
 obtain ⟨hd,hsz⟩:=hx
 dsimp only at hd hsz⊢
 have hI:DV n (nv ms) d I (zL n) (zS n) (zD n) (gO n):=⟨hd.ok,hsz,hd.size,by rw [hd.cn];exact zI (nv ms) h1 h2⟩
 have hwk:=Hy (q:=q) hI
 rw [JO h1 h2] at hwk
 (repeat' ((try refine aw ?_);(conv=>arg 4;whnf);first | refine aO ?_ |(refine sN ?_;intro b)|(refine cw hwk ?_;intro x hx;refine bV ?_)| refine af ?_ ?_ | fail));(all_goals refine av ?_)
 (repeat' ((try refine aw ?_);(conv=>arg 4;whnf);first | refine aO ?_ |(refine sN ?_;intro b)| refine af ?_ ?_ | fail));(all_goals refine av ?_)
 rename_i cfb rsb _ _ ab0 _ alb db cb tbb
 refine eD (X:=Nat) (fun z=> [(2,vP rsb 0),(3,vI 0)]) (fun _=>True) (fun z=> [iB rsb (aB ⟨n,nv ms,d,(some ⟨z,0,none⟩,1,1),⟨(some ⟨ab0,0,none⟩,sh,sh),0,lm,rs⟩,⟨n,(some ⟨x,0,none⟩,tot n,tot n)⟩,⟨(none,0,0)⟩,false⟩) 48,iB z ([gO n].flatMap aL) 80]) (fun _=> []) ?_ ?_
 ·intro K4
  (refine bh ?_;(conv=>arg 4;whnf);refine bc rfl ?_)
  (repeat' ((try refine aw ?_);(conv=>arg 4;whnf);first | refine aO ?_ |(refine sN ?_;intro b)|(refine aA (Bw (q:=q)) ?_;intro x hx;refine aH ?_)| refine af ?_ ?_ | fail));(all_goals refine av ?_)
  all_goals (
   first
   | exact d9 b True.intro (by
     ((repeat' (first | with_reducible exact ar _ | exact am _ | refine aE ?_ ?_ | refine aG inferInstance ?_ | fail))<;>(try with_reducible rfl))
     all_goals rfl) bu
   | fail)
 intro lb _
 (conv=>arg 2;simp only [List.cons_append,List.nil_append])
 (conv=>arg 3;simp only [List.cons_append,List.nil_append])
 refine eK (K:=aL) (l:= [gO n]) lb 1 1 ?_
 (repeat' ((try refine aw ?_);(conv=>arg 4;whnf);first | refine aO ?_ |(refine sN ?_;intro b)| refine af ?_ ?_ | fail));(all_goals refine av ?_)
 refine aR (Sl bP none 0 0 []) (fun w _ _=>⟨rfl,rfl,rfl,rfl⟩) ?_
 refine aD ⟨d,I,lb,1,ab0,x,none,0⟩ ⟨hd,hsz⟩ (by
  have e:(opn n sh lm rs ms).al.length=sh:=List.length_replicate
  unfold c8
  rw [e]
  rfl) (by
  ((repeat' (first | with_reducible exact ar _ | exact am _ | refine aE ?_ ?_ | refine aG inferInstance ?_ | fail))<;>(try with_reducible rfl))
  all_goals rfl) ?_
 have e:(opn n sh lm rs ms).al.length=sh:=List.length_replicate
 unfold SFl
 rw [e]
 show ∀f∈([Dm d I,Sl aL (some ⟨lb,0,none⟩) 1 1 [gO n],Sl cQ (some ⟨ab0,0,none⟩) sh sh (List.replicate sh 0),Sl a7 (some ⟨x,0,none⟩) (tot n) (tot n) (treW (zL n) (fls n) (zS n)),Sl bP none 0 0 []]:List Pt),f∈_
 exact bu
end
end Go.Proofs.YtbobhnldhpjdlaaGreatDoor
namespace Go.Proofs.YtbobhnldhpjdlaaGreatDoor
open Go Go.RowKit Go.Cs Go.Cz
set_option maxRecDepth 100000
set_option maxHeartbeats 4000000
section
variable {n:Nat} {k:Key} {d:SDsk} {I:DI} {L:List Rec} {s:List Nat} {dur:List Dig} {cell:Cel} {q:Value×Value} {bi:Nat}
theorem JK {pb c:Nat} (h:DV n k d I L s dur cell) (hb:bi<n):Zp Tryz.prog 46 [vI n,vA (ay cell.root),vA (dy ⟨bi,(some ⟨pb,0,none⟩,(cK n L s bi).length,c)⟩)] [] [Sl aU (some ⟨pb,0,none⟩) (cK n L s bi).length c (cK n L s bi),Gs q] Unit (fun _=>True) (fun _=> .tuple #[vA (bY (L.getD bi Rec.zero)),vI 0]) (fun _=> []) (fun _=> []):=by
 have h1:=h.int.bl.1
 have h2:=h.int.bl.2
 have h5:=a8 n
 obtain ⟨hlp,hl0⟩:=mz (n:=n) (L:=L) (s:=s) (bi:=bi)
 have hpl:=jr n bi
 have hwk:=fun ab=>HP (pb:=pb) (c:=c) (ab:=ab) (q:=q) h hb
 have hlst:=iE h.int.ok h.int.ll hb (aK L s (hgt n) 0) (i:=hgt n) (Nat.le_refl _) (by rw [eV h.int hb])
 have hlv:=fun i (hi:i<(cK n L s bi).length)=>u6 h hb hi
 have hl2:ky bi (cK n L s bi)=L.getD bi Rec.zero:=hlst
 unfold ky at hl2
 refine ak fun G=> ?_
 by_cases hfull:(cK n L s bi).length=hgt n+1
 ·have e0:=hlv (hgt n) (by omega)
  have e1:=(h.nd (l:=hgt n-hgt n) (j:=idx bi (hgt n-hgt n)) (by omega) (bm hb _)).2.1
  rw [←e0,Nat.sub_self] at e1
  rw [hfull,Nat.add_sub_cancel,if_pos (show ((cK n L s bi).getD (hgt n) Nod.zero).lv=0 from e1)] at hl2
  (repeat' ((try refine aw ?_);(conv=>arg 4;whnf);first | refine az ?_ |(refine sN ?_;intro b)|(refine cw (sy h1 h2 hb) ?_;intro x hx;refine bV ?_)|((first | refine aA (hwk _) ?_ | refine aA tM ?_);intro x hx;refine aH ?_)| fail));(all_goals refine av ?_)
  refine aD () True.intro ?_ (am _) bu
  rw [←hl2];rfl
 ·have hi:(cK n L s bi).length-1<(cK n L s bi).length:=by omega
  have e0:=hlv ((cK n L s bi).length-1) hi
  have e1:=(h.nd (l:=hgt n-((cK n L s bi).length-1)) (j:=idx bi (hgt n-((cK n L s bi).length-1))) (by omega) (bm hb _)).2.1
  rw [←e0] at e1
  rw [if_neg (show ¬((cK n L s bi).getD ((cK n L s bi).length-1) Nod.zero).lv=0 from fun hh=>by
   have hh2:((cK n L s bi).getD ((cK n L s bi).length-1) default).lv=0:=hh
   omega)] at hl2
  (repeat' ((try refine aw ?_);(conv=>arg 4;whnf);first | refine az ?_ |(refine sN ?_;intro b)|(refine cw (sy h1 h2 hb) ?_;intro x hx;refine bV ?_)|((first | refine aA (hwk _) ?_ | refine aA tM ?_);intro x hx;refine aH ?_)| fail));(all_goals refine av ?_)
  refine aD () True.intro ?_ (am _) bu
  rw [←hl2];rfl
end
end Go.Proofs.YtbobhnldhpjdlaaGreatDoor
namespace Go.Proofs.YtbobhnldhpjdlaaGreatDoor
open Go Go.RowKit Go.Cs Go.Cz
set_option maxRecDepth 100000
set_option maxHeartbeats 4000000
theorem Lx {P:Program} {G G0:Gc} {O O0:List It} {F F0:List Pt} {ops:Array Oper} {m i:Nat} {C:Value→Pt} {T b A A' z:Nat} {vs:List Value} {p:Prop} [hs:Sz P T z true] [hb:Ab O0 F0 b A vs p] (hA:A'=A) (h:Tr G O F (C (vA vs))) (hp:p) (hl:vs.length=z) (hc:gu (bw ops) m i=true:=by kernel_rfl):Tr G O F (Dt P ops (Hp G0 O0 F0) m i (fun C=>Rl P T (.pointer (some ⟨b,A',none⟩)) C) C):=by
 subst hA
 have hv:Lv true vs (vA vs):=inferInstance
 exact mc (g:=true) h hp (.inr hl) hc
theorem IP {a c:Cel} (h:a.ep<2^63) (he:c=a.nxt c.root):Zp Tryz.prog 38 [vA (aL a),vA (aL c)] [] [] Unit (fun _=>True) (fun _=> .int .u8 ((1:Nat):Int)) (fun _=> []) (fun _=> []):=by
 have hn:=wX (y:=a) (d:=c.root) h
 rw [←he] at hn
 refine ak fun G=> ?_
 (repeat' ((try refine aw ?_);(conv=>arg 4;whnf);first | refine az ?_ |(refine sN ?_;intro b)|(refine au ?_ ?_<;>intro h<;>try contradiction)|(refine aA hn ?_;intro x hx;refine aH ?_)| exact ax | fail));(all_goals refine av ?_)
theorem Jv {a c:Cel} (h:a.ep<2^63) (hr:c.root=a.root) (he:c.ep=a.ep) (hm:a.mark<c.mark):Zp Tryz.prog 38 [vA (aL a),vA (aL c)] [] [] Unit (fun _=>True) (fun _=> .int .u8 ((2:Nat):Int)) (fun _=> []) (fun _=> []):=by
 have hn:=wX (y:=a) (d:=c.root) h
 have hne:¬a.nxt c.root=c:=fun hh=>by
  have:=congrArg Cel.ep hh
  rw [he] at this
  change (a.ep+1)%2^64=a.ep at this
  omega
 have hac:(⟨a.root,a.ep,c.mark,a.hep,c.hmk⟩:Cel)=c:=by cases c;cases a;simp only at hr he;subst hr;subst he;rfl
 refine ak fun G=> ?_
 (repeat' ((try refine aw ?_);(conv=>arg 4;whnf);first | refine az ?_ |(refine sN ?_;intro b)|(refine au ?_ ?_<;>intro h<;>try contradiction)|(refine aA hn ?_;intro x hx;refine aH ?_)| exact ax | fail));(all_goals refine av ?_)
def Stp (a c:Cel):Prop:=a.ep<2^63∧(c=a.nxt c.root∨(c.root=a.root∧c.ep=a.ep∧a.mark<c.mark))
theorem IO {a c:Cel} (h:Stp a c):∃kd:Nat,(kd=1∨kd=2)∧Zp Tryz.prog 38 [vA (aL a),vA (aL c)] [] [] Unit (fun _=>True) (fun _=> .int .u8 ((kd:Nat):Int)) (fun _=> []) (fun _=> []):=by
 obtain ⟨h1,h2 |⟨h2,h3,h4⟩⟩:=h
 ·exact ⟨1, .inl rfl,IP h1 h2⟩
 ·exact ⟨2, .inr rfl,Jv h1 h2 h3 h4⟩
theorem EO {n c a:Nat} {l:List Cel} {q:Value×Value} (h1:1≤n) (h2:n≤4096) (hl:0<l.length) (hlm:l.length≤65536) (h0:l.getD 0 default=gO n) (hs:∀i,i+1<l.length→Stp (l.getD i default) (l.getD (i+1) default)):Zp Tryz.prog 50 [vI n, .slice (some ⟨a,0,none⟩) l.length c] [] [Sl aL (some ⟨a,0,none⟩) l.length c l,Gs q] Unit (fun _=>True) (fun _=> .tuple #[vI 0,vI 0]) (fun _=> []) (fun _=> []):=by
 refine ak fun G=> ?_
 (repeat' ((try refine aw ?_);(conv=>arg 4;whnf);first | refine aO ?_ |(refine sN ?_;intro b)|(refine aA (DX (q:=q) h1 h2) ?_;intro x hx;refine aH ?_)| refine ae ?_ | refine ai ?_ | exact ax |(refine aj rfl ?_;intro D lL)| fail));(all_goals refine av ?_)
 refine aR (Bk a (aL (l.getD 0 default))) (fun w _ hf=>by
  have hS:Sl aL (some ⟨a,0,none⟩) l.length c l w:=hf _ (.head _)
  have hA:=Sl.at_ hS
  obtain ⟨y,ys,rfl⟩:∃y ys,l=y::ys:=by
   cases l with
   | nil=>simp at hl
   | cons y ys=>exact ⟨y,ys,rfl⟩
  have:=At.sub hA 0 (aL y) (by rw [List.drop_zero,List.flatMap_cons];exact List.take_left' rfl)
  show At w a 0 _
  simpa using this) ?_
 (first | refine bF rfl rfl ?_ |(refine bh ?_;(conv=>arg 4;whnf);refine bc rfl ?_))
 (repeat' ((try refine aw ?_);(conv=>arg 4;whnf);first | refine aO ?_ |(refine sN ?_;intro b)| refine ae ?_ | refine ai ?_ | exact ax |(refine aj rfl ?_;intro D lL)| fail));(all_goals refine av ?_)
 (conv=>arg 4;arg 6;ext C;whnf)
 refine Lx (A:=0) (vs:=aL (l.getD 0 default)) rfl ?_ True.intro (CL.len _)
 (repeat' ((try refine aw ?_);(conv=>arg 4;whnf);first | refine aO ?_ |(refine sN ?_;intro b)| refine ae ?_ | refine ai ?_ | exact ax |(refine aj rfl ?_;intro D lL)| fail));(all_goals refine av ?_)
 (conv=>arg 4;arg 5;ext C;whnf)
 refine cR ?_ (qK h0)
 (repeat' ((try refine aw ?_);(conv=>arg 4;whnf);first | refine aO ?_ |(refine sN ?_;intro b)| refine ae ?_ | refine ai ?_ | exact ax |(refine aj rfl ?_;intro D lL)| fail));(all_goals refine av ?_)
 rename_i ib eb fb
 revert b;intro sb
 refine bG sb ?_
 refine dh [] (X:=Nat) (fun i=> [(3,vI i)]) (fun i=>1≤i∧i≤l.length) (fun i=> []) (fun i=>l.length-i) 1 ⟨Nat.le_refl _,hl⟩ rfl cD ?_
 intro i hi
 (conv=>arg 2;simp only [List.cons_append,List.nil_append])
 by_cases hlt:i<l.length
 ·obtain ⟨j,rfl⟩:∃j,i=j+1:=⟨i-1,by omega⟩
  obtain ⟨kd,hkd,hfo⟩:=IO (hs j hlt)
  (repeat' ((try refine aw ?_);(conv=>arg 4;whnf);first | refine az ?_ |(refine sN ?_;intro b)|(refine aA hfo ?_;intro x hx;refine aH ?_)| refine ae ?_ | refine ai ?_ | exact ax |(refine aj rfl ?_;intro D lL)| fail));(all_goals refine av ?_)
  exact jV (j+1+1) ⟨by omega,by omega⟩ cD (by omega)
 ·obtain rfl:i=l.length:=by omega
  (repeat' ((try refine aw ?_);(conv=>arg 4;whnf);first | refine az ?_ |(refine sN ?_;intro b)| refine ae ?_ | refine ai ?_ | exact ax |(refine aj rfl ?_;intro D lL)| fail));(all_goals refine av ?_)
end Go.Proofs.YtbobhnldhpjdlaaGreatDoor
