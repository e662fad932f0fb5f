/- Lemmas and walks: what each function does, by its own code. No condition beyond those of each statement. -/
import Derived.Test.YtbobhnldhpjdlaaGreatDoorP13
import Derived.Test.YtbobhnldhpjdlaaGreatDoorP17
import Derived.Test.YtbobhnldhpjdlaaGreatDoorP22
import Derived.Test.YtbobhnldhpjdlaaGreatDoorP29
import Derived.Test.YtbobhnldhpjdlaaGreatDoorP30
set_option linter.all false
set_option linter.unusedVariables false
namespace Go.Proofs.YtbobhnldhpjdlaaGreatDoor
open Go Go.RowKit Go.Cs Go.Cz
set_option maxRecDepth 100000
set_option maxHeartbeats 4000000
theorem LX {x:UInt8}:Zp Tryz.prog 349 [vb x] [] [] (Nat×Nat) (fun _=>True) (fun r=> .slice (some ⟨r.1,0,none⟩) 8 r.2) (fun _=> []) (fun r=> [Sl cI (some ⟨r.1,0,none⟩) 8 r.2 (sQ x)]):=by
 have hx:=x.toNat_lt
 refine ak fun G=> ?_
 (repeat' ((try refine aw ?_);(conv=>arg 4;whnf);first | refine aO ?_ |(refine sN ?_;intro b)|(refine aa ?_;intro g c')| fail));(all_goals refine av ?_)
 refine cN (X:=Nat×Option Addr×Nat) (fun r=> [(3, .slice r.2.1 r.1 r.2.2),(4,vI r.1)]) (fun r=>r.1≤8∧(0<r.1→∃g,r.2.1=some ⟨g,0,none⟩)) (fun r=> [iN cI 1 r.2.1 r.1 r.2.2 3 ((sQ x).take r.1)]) (fun r=>8-r.1) (0,none,0) ⟨Nat.zero_le _,fun h=>absurd h (Nat.lt_irrefl _)⟩ rfl (by (((repeat' (first | with_reducible exact ar _ | exact am _ | refine aX ?_ | refine qT rfl ?_))<;>(try with_reducible rfl)))) ?_
 rintro ⟨i,s1,d1⟩ ⟨hi,hs⟩
 dsimp only at hi hs⊢
 by_cases h:i<8
 ·have hl:i<(sQ x).length:=by simpa using h
  have e:(x>>>UInt8.ofNat i).toNat%2=(sQ x).getD i default:=by
   rw [UInt8.toNat_shiftRight]
   simp [sQ,List.getD_eq_getElem?_getD,h,Nat.shiftRight_eq_div_pow,Nat.mod_eq_of_lt h,Nat.mod_eq_of_lt (show i<256 by omega)]
  (repeat' ((try refine aw ?_);(conv=>arg 4;whnf);first | refine aO ?_ |(refine sN ?_;intro b)|(refine aa ?_;intro g c')| fail));(all_goals refine av ?_)
  rw [e,show List.take i (sQ x)++ [(sQ x).getD i default]=List.take (i+1) (sQ x) by rw [List.take_succ_eq_append_getElem hl];simp [List.getD_eq_getElem?_getD,h]]
  exact jV (i+1,some ⟨g,0,none⟩,c') ⟨h,fun _=>⟨g,rfl⟩⟩ cD (by dsimp only;omega) bu
 ·obtain rfl:i=8:=by omega
  obtain ⟨g,rfl⟩:=hs (by decide)
  rw [List.take_of_length_le (by simp)]
  refine L5 (K:=cI) (m:=1) (n:=8) (c:=d1) (e:=3) g ?_
  intro rs _ _
  refine kz cI (sQ x) g 8 d1 ?_
  (repeat' ((try refine aw ?_);(conv=>arg 4;whnf);first | refine aO ?_ |(refine sN ?_;intro b)|(refine aa ?_;intro g c')| fail));(all_goals refine av ?_)
  exact aD (g,d1) True.intro rfl (am _) bu
theorem MC {u v:UInt8}:Zp Tryz.prog 347 [vb u,vb v] [] [] Unit (fun _=>True) (fun _=>vb (z8 u v)) (fun _=> []) (fun _=> []):=by
 refine ak fun G=> ?_
 (repeat' ((try refine aw ?_);(conv=>arg 4;whnf);first | refine aO ?_ |(refine sN ?_;intro b)|(refine cw LX ?_;intro x hx;refine bV ?_)| fail));(all_goals refine av ?_)
 rename_i xuq hxu
 obtain ⟨guq,duq⟩:=xuq
 obtain ⟨gvq,dvq⟩:=x
 dsimp only
 revert b;intro pbk
 have hU:=y1 u
 have hV:=y1 v
 have hUl:=ui u
 have hVl:=ui v
 rw [z8]
 generalize sQ u=U at*
 generalize sQ v=V at*
 refine cN (X:=Nat) (fun i=> [(8,vI i)]) (fun i=>i≤8) (fun i=> [iB pbk ((uY U V i).flatMap cI) 3]) (fun i=>8-i) 0 (Nat.zero_le _) rfl (ar _) ?_
 intro i hi
 by_cases h:i<8
 ·have hb:=yr U V i
  have hl:=oa U V i
  (repeat' ((try refine aw ?_);(conv=>arg 4;whnf);first | refine aO ?_ |(refine sN ?_;intro b)| fail));(all_goals refine av ?_)
  refine cN (X:=Nat) (fun k=> [(9,vI k)]) (fun k=>k≤8) (fun k=> [iB pbk ((xN U V i (uY U V i) k).flatMap cI) 3]) (fun k=>8-k) 0 (Nat.zero_le _) rfl (ar _) ?_
  intro k hk
  by_cases h2:k<8
  ·have hl2:(xN U V i (uY U V i) k).length=15:=by rw [om,hl]
   have hb2:=A7 (x:=U) (y:=V) (i:=i) hb k (i+k)
   have hm:U.getD i default*V.getD k default≤1:=Nat.le_trans (Nat.mul_le_mul (hU i) (hV k)) (by decide)
   (repeat' ((try refine aw ?_);(conv=>arg 4;whnf);first | refine aO ?_ |(refine sN ?_;intro b)| fail));(all_goals refine av ?_)
   refine bF rfl rfl ?_
   (repeat' ((try refine aw ?_);(conv=>arg 4;whnf);first | refine aO ?_ |(refine sN ?_;intro b)| fail));(all_goals refine av ?_)
   rw [show (xN U V i (uY U V i) k).set (i+k) (((xN U V i (uY U V i) k).getD (i+k) default+U.getD i default*V.getD k default)%2)=xN U V i (uY U V i) (k+1) from rfl]
   refine a5 (k+1) rfl ?_ cD ?_
   ·omega
   ·omega
  ·obtain rfl:k=8:=by omega
   rw [show xN U V i (uY U V i) 8=uY U V (i+1) from rfl]
   (repeat' ((try refine aw ?_);(conv=>arg 4;whnf);first | refine aO ?_ |(refine sN ?_;intro b)| fail));(all_goals refine av ?_)
   refine a5 (i+1) rfl ?_ cD ?_
   ·omega
   ·omega
 have hb:=yr U V i
 have hl:=oa U V i
 obtain rfl:i=8:=by omega
 generalize uY U V 8=P0 at*
 (repeat' ((try refine aw ?_);(conv=>arg 4;whnf);first | refine aO ?_ |(refine sN ?_;intro b)| fail));(all_goals refine av ?_)
 refine cN (X:=Nat) (fun t=> [(10,vI (14-t))]) (fun t=>t≤7) (fun t=> [iB pbk ((mI P0 t).flatMap cI) 3]) (fun t=>7-t) 0 (Nat.zero_le _) rfl (ar _) ?_
 intro t ht
 have hb2:=ym hb t
 have hl2:=uh P0 t
 by_cases h3:t<7
 ·by_cases h4:(mI P0 t).getD (14-t) default=1
  ·have b5a:=hb2 (14-t-4)
   have b5b:=(hb2.fl (14-t-4)) (14-t-5)
   have b5c:=((hb2.fl (14-t-4)).fl (14-t-5)) (14-t-7)
   have b5d:=(((hb2.fl (14-t-4)).fl (14-t-5)).fl (14-t-7)) (14-t-8)
   have l5a:=kS (mI P0 t) (14-t-4)
   have l5b:=kS (mK (mI P0 t) (14-t-4)) (14-t-5)
   have l5c:=kS (mK (mK (mI P0 t) (14-t-4)) (14-t-5)) (14-t-7)
   have es:mI P0 (t+1)=mK (mK (mK (mK (mI P0 t) (14-t-4)) (14-t-5)) (14-t-7)) (14-t-8):=by rw [mI,if_pos h4]
   have hl2':(mI P0 t).length=15:=by rw [hl2,hl]
   generalize mI P0 t=q0w at*
   (repeat' ((try refine aw ?_);(conv=>arg 4;whnf);first | refine aO ?_ |(refine sN ?_;intro b)| fail));(all_goals refine av ?_)
   rw [show q0w.set (14-t-4) (1-q0w.getD (14-t-4) default)=mK q0w (14-t-4) from rfl]
   generalize mK q0w (14-t-4)=q1w at*
   (repeat' ((try refine aw ?_);(conv=>arg 4;whnf);first | refine aO ?_ |(refine sN ?_;intro b)| fail));(all_goals refine av ?_)
   rw [show q1w.set (14-t-5) (1-q1w.getD (14-t-5) default)=mK q1w (14-t-5) from rfl]
   generalize mK q1w (14-t-5)=q2w at*
   (repeat' ((try refine aw ?_);(conv=>arg 4;whnf);first | refine aO ?_ |(refine sN ?_;intro b)| fail));(all_goals refine av ?_)
   rw [show q2w.set (14-t-7) (1-q2w.getD (14-t-7) default)=mK q2w (14-t-7) from rfl]
   generalize mK q2w (14-t-7)=q3w at*
   (repeat' ((try refine aw ?_);(conv=>arg 4;whnf);first | refine aO ?_ |(refine sN ?_;intro b)| fail));(all_goals refine av ?_)
   rw [show q3w.set (14-t-8) (1-q3w.getD (14-t-8) default)=mK q3w (14-t-8) from rfl,←es]
   refine a5 (t+1) rfl ?_ cD ?_
   ·omega
   ·omega
  ·have es:mI P0 (t+1)=mI P0 t:=by rw [mI,if_neg h4]
   (repeat' ((try refine aw ?_);(conv=>arg 4;whnf);first | refine aO ?_ |(refine sN ?_;intro b)| fail));(all_goals refine av ?_)
   refine a5 (t+1) rfl ?_ (by rw [es];(((repeat' (first | with_reducible exact ar _ | exact am _ | fail))<;>(try with_reducible rfl)))) ?_
   ·omega
   ·omega
 obtain rfl:t=7:=by omega
 generalize mI P0 7=Q at*
 have hQl:Q.length=15:=by rw [hl2,hl]
 (repeat' ((try refine aw ?_);(conv=>arg 4;whnf);first | refine aO ?_ |(refine sN ?_;intro b)| fail));(all_goals refine av ?_)
 refine cN (X:=Nat) (fun t=> [(11,vI (xG Q t)),(12,if t<8 then vI (7-t) else .int .i64 (-1))]) (fun t=>t≤8) (fun t=> [iB pbk (Q.flatMap cI) 3]) (fun t=>8-t) 0 (Nat.zero_le _) rfl cD ?_
 intro t ht
 have ho:=AI hb2 t
 have ho2:xG Q t<256:=Nat.lt_of_lt_of_le ho (Nat.pow_le_pow_right (by decide) ht)
 have h1:=hb2 (7-t)
 by_cases h:t<8
 ·simp only [if_pos h]
  (repeat' ((try refine aw ?_);(conv=>arg 4;whnf);first | refine aO ?_ |(refine sN ?_;intro b)| fail));(all_goals refine av ?_)
  refine nF (EH (by omega)) ?_
  (repeat' ((try refine aw ?_);(conv=>arg 4;whnf);first | refine aO ?_ |(refine sN ?_;intro b)| fail));(all_goals refine av ?_)
  refine a5 (t+1) ?_ ?_ cD ?_
  ·show _=_
   by_cases h2:t+1<8
   ·simp only [if_pos h2]
    have e:((7-t:Nat):Int)-1=((7-(t+1):Nat):Int):=by omega
    rw [e];rfl
   ·simp only [if_neg h2]
    have e:((7-t:Nat):Int)-1= -1:=by omega
    rw [e];rfl
  ·exact h
  ·omega
 ·simp only [if_neg h]
  (repeat' ((try refine aw ?_);(conv=>arg 4;whnf);first | refine aO ?_ |(refine sN ?_;intro b)| fail));(all_goals refine av ?_)
  obtain rfl:t=8:=by omega
  refine aD () True.intro ?_ (am _)
  have e:(UInt8.ofNat (xG Q 8)).toNat=xG Q 8:=by show xG Q 8%256=_;omega
  show Value.int .u8 ((xG Q 8:Nat):Int)=Value.int .u8 (((UInt8.ofNat (xG Q 8)).toNat:Nat):Int)
  rw [e]
end Go.Proofs.YtbobhnldhpjdlaaGreatDoor
namespace Go.Proofs.YtbobhnldhpjdlaaGreatDoor
open Go Go.RowKit Go.Cs Go.Cz
set_option maxRecDepth 100000
set_option maxHeartbeats 4000000
instance:Zc Tryz.prog 542 (bE (List.replicate 176 0)):=⟨by kernel_rfl,fun w=>by kernel_rfl⟩
instance (priority:=low) {l:List UInt8} {j k:Nat}:Sb (bE l) (j+k*1) [.int .u8 ((l.getD (j+k*1) default).toNat:Int)] (j+k*1<l.length):=⟨fun h=>by
 rw [bL]
 have:=BT (K:=cB) (m:=1) default h
 rwa [Nat.mul_one (j+k*1)] at this⟩
instance (priority:=3000) {O:List It} {F:List Pt} {b:Nat} {l:List UInt8} {j k:Nat} {p:Prop} [h:Ab O F b 0 (bE l) p]:Ab O F b (0+j+k*1) [.int .u8 ((l.getD (0+j+k*1) default).toNat:Int)] (p∧0+j+k*1<l.length):=⟨fun hp=>by
 have h1:=BT (K:=cB) (m:=1) default hp.2
 rw [←bL,Nat.mul_one (0+j+k*1),show 0+j+k*1=j+k*1 by omega] at h1
 have h2:=LW (h.ab hp.1) h1
 rw [show 0+(j+k*1)=0+j+k*1 by omega] at h2
 rw [show 0+j+k*1=j+k*1 by omega] at h2⊢
 exact h2⟩
instance (priority:=low) {l:List UInt8} {j k:Nat} {y:UInt8}:Ub (bE l) (j+k*1) [.int .u8 (y.toNat:Int)] (bE (l.set (j+k*1) y)) (j+k*1<l.length):=⟨fun h=>by
 rw [bL,bL]
 have:=j6 (K:=cB) (m:=1) y h
 rwa [Nat.mul_one (j+k*1)] at this⟩
theorem Nn {l:List UInt8} {j:Nat} (h:j+4≤l.length):Sub (bE l) j (bE [l.getD j default,l.getD (j+1) default,l.getD (j+2) default,l.getD (j+3) default]):=by
 refine ⟨bE (l.take j),bE (l.drop (j+4)), ?_,by simp;omega⟩
 have e:l=l.take j++ [l.getD j default,l.getD (j+1) default,l.getD (j+2) default,l.getD (j+3) default]++l.drop (j+4):=by
  conv=>lhs;rw [←List.take_append_drop j l,List.drop_eq_getElem_cons (by omega:j<l.length),List.drop_eq_getElem_cons (by omega:j+1<l.length),List.drop_eq_getElem_cons (by omega:j+1+1<l.length),List.drop_eq_getElem_cons (by omega:j+1+1+1<l.length)]
  simp [List.getD_eq_getElem?_getD,show j<l.length by omega,show j+1<l.length by omega,show j+2<l.length by omega,show j+3<l.length by omega]
 conv=>lhs;rw [e]
 simp [bE]
theorem LO {key:B16}:Zp Tryz.prog 343 [vA (dE key)] [] [] Unit (fun _=>True) (fun _=>vA (bE (mo key 176))) (fun _=> []) (fun _=> []):=by
 have hk16:=key.h
 refine ak fun G=> ?_
 (repeat' ((try refine aw ?_);(conv=>arg 4;whnf);first | refine aO ?_ |(refine sN ?_;intro b)|(refine aA HL ?_;intro x hx;refine aH ?_)| exact ax | fail));(all_goals refine av ?_)
 revert b;intro tbx
 rename_i kbx rbx
 revert b;intro wbx
 have ht:=sc
 have hts:=Cr
 generalize sF=TR at*
 refine dh [wbx] (X:=Nat) (fun i=> [(5,vb (rj 2 ((i-1)/4))),(6,vI i)]) (fun i=>i≤44) (fun i=> [iB wbx (bE (mo key (4*i))) 542]) (fun i=>44-i) 0 (Nat.zero_le _) (by show _=_;rw [show (0-1)/4=0 from rfl,Mp];rfl) (by rw [show 4*0=0 from rfl,BW];(((repeat' (first | with_reducible exact ar _ | exact am _ | refine aE ?_ ?_ | fail))<;>(try with_reducible rfl)))) ?_
 intro i hi
 (conv=>arg 2;simp only [List.cons_append,List.nil_append])
 by_cases h:i<44
 ·by_cases h4:i<4
  ·(repeat' ((try refine aw ?_);(conv=>arg 4;whnf);first | refine aO ?_ |(refine sN ?_;intro b)| exact ax | fail));(all_goals refine av ?_)
   refine dh [wbx] (X:=Nat) (fun k=> [(7,vI k)]) (fun k=>k≤4) (fun k=> [iB wbx (bE (mo key (4*i+k))) 542]) (fun k=>4-k) 0 (Nat.zero_le _) rfl (by (((repeat' (first | with_reducible exact ar _ | exact am _ | refine aE ?_ ?_ | fail))<;>(try with_reducible rfl)))<;>rfl) ?_
   intro k hk
   (conv=>arg 2;simp only [List.cons_append,List.nil_append])
   have hwl:=iG key (4*i+k)
   by_cases h5:k<4
   ·(repeat' ((try refine aw ?_);(conv=>arg 4;whnf);first | refine aO ?_ |(refine sN ?_;intro b)| exact ax | fail));(all_goals refine av ?_)
    refine bF rfl rfl ?_
    (repeat' ((try refine aw ?_);(conv=>arg 4;whnf);first | refine aO ?_ |(refine sN ?_;intro b)| exact ax | fail));(all_goals refine av ?_)
    rw [show 0+i*4+k*1=4*i+k by omega,nA (by omega) (by rw [show (4*i+k)/4=i by omega,show (4*i+k)%4=k by omega,Nm h4])]
    refine a5 (k+1) rfl ?_ (by (((repeat' (first | with_reducible exact ar _ | exact am _ | refine aE ?_ ?_ | fail))<;>(try with_reducible rfl)))<;>rfl) ?_
    ·omega
    ·omega
   ·obtain rfl:k=4:=by omega
    (repeat' ((try refine aw ?_);(conv=>arg 4;whnf);first | refine aO ?_ |(refine sN ?_;intro b)| exact ax | fail));(all_goals refine av ?_)
    refine a5 (i+1) ?_ ?_ (by (((repeat' (first | with_reducible exact ar _ | exact am _ | refine aE ?_ ?_ | fail))<;>(try with_reducible rfl)))<;>rfl) ?_
    ·show _=_
     rw [show (i+1-1)/4=(i-1)/4 by omega];rfl
    ·omega
    ·omega
  have hS:Sub (bE (mo key (4*i))) ((i-1)*4) (bE [kb key (i-1) 0,kb key (i-1) 1,kb key (i-1) 2,kb key (i-1) 3]):=by
   have h0:=Nn (l:=mo key (4*i)) (j:=4*(i-1)+0) (by rw [iG];omega)
   rw [jH (by omega) (by omega) (by omega),show 4*(i-1)+0+1=4*(i-1)+1 from rfl,show 4*(i-1)+0+2=4*(i-1)+2 from rfl,show 4*(i-1)+0+3=4*(i-1)+3 from rfl,jH (by omega) (by omega) (by omega),jH (by omega) (by omega) (by omega),jH (by omega) (by omega) (by omega)] at h0
   rwa [show (i-1)*4=4*(i-1)+0 by omega]
  have x0:=([kb key (i-1) 0,kb key (i-1) 1,kb key (i-1) 2,kb key (i-1) 3].getD 0 default).toNat_lt
  have x1:=([kb key (i-1) 0,kb key (i-1) 1,kb key (i-1) 2,kb key (i-1) 3].getD 1 default).toNat_lt
  have x2:=([kb key (i-1) 0,kb key (i-1) 1,kb key (i-1) 2,kb key (i-1) 3].getD 2 default).toNat_lt
  have x3:=([kb key (i-1) 0,kb key (i-1) 1,kb key (i-1) 2,kb key (i-1) 3].getD 3 default).toNat_lt
  obtain ⟨f0,hf0⟩:∃f,f=rj 2 ((i-1)/4):=⟨_,rfl⟩
  by_cases hm:i%4=0
  ·have k1:=MC (u:=f0) (v:=2)
   obtain ⟨f1,hf1⟩:∃f,f=z8 f0 2:=⟨_,rfl⟩
   rw [←hf1] at k1
   have hf2:f1=rj 2 ((i+1-1)/4):=by rw [hf1,hf0,An (by omega),show (i+1-1)/4=(i-1)/4+1 by omega]
   have hT:=fun k (hk:k<4)=>JJ (key:=key) (i:=i) (k:=k) (by omega) hm hk
   rw [←hf0] at hT⊢
   (repeat' ((try refine aw ?_);(conv=>arg 4;whnf);first | refine aO ?_ |(refine sN ?_;intro b)| exact ax | fail));(all_goals refine av ?_)
   (conv=>arg 4;whnf)
   refine sL (hb:=(⟨fun _=>LW (j:=(i-1)*4) ((inferInstance:Ab _ _ wbx 0 (bE (mo key (4*i))) True).ab True.intro) hS⟩:Ab _ _ wbx (0+(i-1)*4) (bE [kb key (i-1) 0,kb key (i-1) 1,kb key (i-1) 2,kb key (i-1) 3]) True)) ?_ True.intro
   (repeat' ((try refine aw ?_);(conv=>arg 4;whnf);first | refine aO ?_ |(refine sN ?_;intro b)| exact ax | fail));(all_goals refine av ?_)
   refine bF rfl rfl ?_
   (repeat' ((try refine aw ?_);(conv=>arg 4;whnf);first | refine aO ?_ |(refine sN ?_;intro b)| exact ax | fail));(all_goals refine av ?_)
   (repeat' ((try refine aw ?_);(conv=>arg 4;whnf);first | refine aO ?_ |(refine sN ?_;intro b)|(refine aA k1 ?_;intro x hx;refine aH ?_)| exact ax | fail));(all_goals refine av ?_)
   rw [hts,hts,hts,hts]
   simp only [List.getD_cons_zero,List.getD_cons_succ]
   rw [show ((((List.replicate 4 (0:UInt8)).set 0 (fU (kb key (i-1) 1)^^^f0)).set 1 (fU (kb key (i-1) 2))).set 2 (fU (kb key (i-1) 3))).set 3 (fU (kb key (i-1) 0))= [fU (kb key (i-1) 1)^^^f0,fU (kb key (i-1) 2),fU (kb key (i-1) 3),fU (kb key (i-1) 0)] from rfl]
   refine dh [wbx] (X:=Nat) (fun k=> [(9,vI k)]) (fun k=>k≤4) (fun k=> [iB wbx (bE (mo key (4*i+k))) 542]) (fun k=>4-k) 0 (Nat.zero_le _) rfl (by (((repeat' (first | with_reducible exact ar _ | exact am _ | refine aE ?_ ?_ | fail))<;>(try with_reducible rfl)))<;>rfl) ?_
   intro k hk
   (conv=>arg 2;simp only [List.cons_append,List.nil_append])
   have hwl:=iG key (4*i+k)
   by_cases h5:k<4
   ·have hg:(mo key (4*i+k)).getD (0+(i-4)*4+k*1) default=kb key (i-4) k:=by rw [show 0+(i-4)*4+k*1=4*(i-4)+k by omega];exact jH (by omega) h5 (by omega)
    (repeat' ((try refine aw ?_);(conv=>arg 4;whnf);first | refine aO ?_ |(refine sN ?_;intro b)| exact ax | fail));(all_goals refine av ?_)
    refine bF rfl rfl ?_
    (repeat' ((try refine aw ?_);(conv=>arg 4;whnf);first | refine aO ?_ |(refine sN ?_;intro b)| exact ax | fail));(all_goals refine av ?_)
    rw [hg,hT k h5,show 0+i*4+k*1=4*i+k by omega,nA (by omega) (by rw [show (4*i+k)/4=i by omega,show (4*i+k)%4=k by omega])]
    refine a5 (k+1) rfl ?_ (by (((repeat' (first | with_reducible exact ar _ | exact am _ | refine aE ?_ ?_ | fail))<;>(try with_reducible rfl)))<;>rfl) ?_
    ·omega
    ·omega
   ·obtain rfl:k=4:=by omega
    (repeat' ((try refine aw ?_);(conv=>arg 4;whnf);first | refine aO ?_ |(refine sN ?_;intro b)| exact ax | fail));(all_goals refine av ?_)
    refine a5 (i+1) ?_ ?_ (by (((repeat' (first | with_reducible exact ar _ | exact am _ | refine aE ?_ ?_ | fail))<;>(try with_reducible rfl)))<;>rfl) ?_
    ·show _=_
     rw [←hf2];rfl
    ·omega
    ·omega
  ·have hT:=fun k (hk:k<4)=>JP (key:=key) (i:=i) (k:=k) (by omega) hm hk
   have hf2:f0=rj 2 ((i+1-1)/4):=by rw [hf0,show (i+1-1)/4=(i-1)/4 by omega]
   rw [←hf0]
   (repeat' ((try refine aw ?_);(conv=>arg 4;whnf);first | refine aO ?_ |(refine sN ?_;intro b)| exact ax | fail));(all_goals refine av ?_)
   (conv=>arg 4;whnf)
   refine sL (hb:=(⟨fun _=>LW (j:=(i-1)*4) ((inferInstance:Ab _ _ wbx 0 (bE (mo key (4*i))) True).ab True.intro) hS⟩:Ab _ _ wbx (0+(i-1)*4) (bE [kb key (i-1) 0,kb key (i-1) 1,kb key (i-1) 2,kb key (i-1) 3]) True)) ?_ True.intro
   (repeat' ((try refine aw ?_);(conv=>arg 4;whnf);first | refine aO ?_ |(refine sN ?_;intro b)| exact ax | fail));(all_goals refine av ?_)
   refine dh [wbx] (X:=Nat) (fun k=> [(9,vI k)]) (fun k=>k≤4) (fun k=> [iB wbx (bE (mo key (4*i+k))) 542]) (fun k=>4-k) 0 (Nat.zero_le _) rfl (by (((repeat' (first | with_reducible exact ar _ | exact am _ | refine aE ?_ ?_ | fail))<;>(try with_reducible rfl)))<;>rfl) ?_
   intro k hk
   (conv=>arg 2;simp only [List.cons_append,List.nil_append])
   have hwl:=iG key (4*i+k)
   by_cases h5:k<4
   ·have hg:(mo key (4*i+k)).getD (0+(i-4)*4+k*1) default=kb key (i-4) k:=by rw [show 0+(i-4)*4+k*1=4*(i-4)+k by omega];exact jH (by omega) h5 (by omega)
    (repeat' ((try refine aw ?_);(conv=>arg 4;whnf);first | refine aO ?_ |(refine sN ?_;intro b)| exact ax | fail));(all_goals refine av ?_)
    refine bF rfl rfl ?_
    (repeat' ((try refine aw ?_);(conv=>arg 4;whnf);first | refine aO ?_ |(refine sN ?_;intro b)| exact ax | fail));(all_goals refine av ?_)
    rw [hg,hT k h5,show 0+i*4+k*1=4*i+k by omega,nA (by omega) (by rw [show (4*i+k)/4=i by omega,show (4*i+k)%4=k by omega])]
    refine a5 (k+1) rfl ?_ (by (((repeat' (first | with_reducible exact ar _ | exact am _ | refine aE ?_ ?_ | fail))<;>(try with_reducible rfl)))<;>rfl) ?_
    ·omega
    ·omega
   ·obtain rfl:k=4:=by omega
    (repeat' ((try refine aw ?_);(conv=>arg 4;whnf);first | refine aO ?_ |(refine sN ?_;intro b)| exact ax | fail));(all_goals refine av ?_)
    refine a5 (i+1) ?_ ?_ (by (((repeat' (first | with_reducible exact ar _ | exact am _ | refine aE ?_ ?_ | fail))<;>(try with_reducible rfl)))<;>rfl) ?_
    ·show _=_
     rw [←hf2];rfl
    ·omega
    ·omega
 ·obtain rfl:i=44:=by omega
  have hW:=iG key (4*44)
  rw [show mo key 176=mo key (4*44) from rfl]
  generalize mo key (4*44)=W at*
  (repeat' ((try refine aw ?_);(conv=>arg 4;whnf);first | refine aO ?_ |(refine sN ?_;intro b)| exact ax | fail));(all_goals refine av ?_)
end Go.Proofs.YtbobhnldhpjdlaaGreatDoor
