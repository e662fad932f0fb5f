/- Lemmas and walks: what each function does, by its own code. No condition beyond those of each statement. -/
import Derived.Test.YtbobhnldhpjdlaaGreatDoorP5
import Derived.Test.YtbobhnldhpjdlaaGreatDoorQ1
import Derived.Test.YtbobhnldhpjdlaaGreatDoorP15
import Derived.Test.YtbobhnldhpjdlaaGreatDoorP34
import Derived.Test.YtbobhnldhpjdlaaGreatDoorP41
import Derived.Test.YtbobhnldhpjdlaaGreatDoorP46
import Derived.Test.YtbobhnldhpjdlaaGreatDoorP48
import Derived.Test.YtbobhnldhpjdlaaGreatDoorP12
import Derived.Test.YtbobhnldhpjdlaaGreatDoorProg
set_option linter.all false
set_option linter.unusedVariables false
namespace Go.Proofs.YtbobhnldhpjdlaaGreatDoor
open Go Go.RowKit Go.Cs Go.Cz
set_option maxRecDepth 100000
instance:Ni 1 1:=⟨rfl⟩
instance:Ni 2 2:=⟨rfl⟩
instance:Ni 4 4:=⟨rfl⟩
instance:Ix Tryz.prog 82 138 35 none:=⟨by kernel_rfl,by kernel_rfl⟩
instance:Zk Tryz.prog 138 Rec bY (Rec.zero) 35 56:=⟨.agg (bY Rec.zero).toArray,by kernel_rfl,by kernel_rfl⟩
instance:Zc Tryz.prog 142 (dy SMpr.zero):=⟨by kernel_rfl,fun w=>by kernel_rfl⟩
instance:Fu Tryz.prog 6 Tryz.f6:=⟨Tryz.func6⟩
instance:Fu Tryz.prog 37 Tryz.f37:=⟨Tryz.func37⟩
instance:Fu Tryz.prog 44 Tryz.f44:=⟨Tryz.func44⟩
instance:Fu Tryz.prog 47 Tryz.f47:=⟨Tryz.func47⟩
end Go.Proofs.YtbobhnldhpjdlaaGreatDoor
namespace Go.Cs
open Go Go.RowKit
section
variable {L:List Rec} {S:List Nat} {b n:Nat}
theorem recs_n (hn:L.length=n):i3 n (bJ L S)=L:=by subst hn;exact s6
end
end Go.Cs
namespace Go.Proofs.YtbobhnldhpjdlaaGreatDoor
open Go Go.RowKit Go.Cs Go.Cz
set_option maxRecDepth 100000
set_option maxHeartbeats 4000000
theorem z_eqB {a1 a2:Option Addr} {n1 n2 c1 c2:Nat} {l:List Dig} (h0:0<l.length) (h1:l.length≤4096):Zp Tryz.prog 37 [.slice a1 n1 c1, .slice a2 n2 c2] [] [Sl ay a1 n1 c1 l,Sl ay a2 n2 c2 l] Unit (fun _=>True) (fun _=> .bool true) (fun _=> []) (fun _=> []):=by
 refine ak fun G=> ?_
 refine aS 0 ?_
 intro hn hcl hml hal
 refine aS 1 ?_
 intro hn2 hcl2 hml2 hal2
 obtain ⟨b1,o1,rfl⟩:=hal (by omega) (by decide)
 obtain ⟨b2,o2,rfl⟩:=hal2 (by omega) (by decide)
 subst hn
 subst hn2
 (repeat' ((try refine aw ?_);(conv=>arg 4;whnf);first | refine az ?_ |(refine sN ?_;intro b)|(refine sC ?_ ?_<;>intro h)|(refine au ?_ ?_<;>intro h<;>try contradiction)|(refine aa ?_;intro g c')| refine ae ?_ | refine ai ?_ | exact ax |(refine aj rfl ?_;intro D lL)| refine af ?_ ?_ | refine ah ?_ ?_ ?_ | fail));(all_goals refine av ?_)
 refine dh [] (X:=Nat) (fun i=> [(5,vI i)]) (fun i=>i≤l.length) (fun _=> []) (fun i=>l.length-i) 0 (Nat.zero_le _) rfl cD ?_
 intro i hi
 (conv=>arg 2;simp only [List.cons_append,List.nil_append])
 by_cases hlt:i<l.length
 ·(repeat' ((try refine aw ?_);(conv=>arg 4;whnf);first | refine az ?_ |(refine sN ?_;intro b)|(refine sC ?_ ?_<;>intro h)|(refine au ?_ ?_<;>intro h<;>try contradiction)|(refine aa ?_;intro g c')| refine ae ?_ | refine ai ?_ | exact ax |(refine aj rfl ?_;intro D lL)| refine af ?_ ?_ | refine ah ?_ ?_ ?_ | fail));(all_goals refine av ?_)
  (conv=>arg 4;arg 5;ext C;whnf)
  refine cR ?_ (qK rfl)
  (repeat' ((try refine aw ?_);(conv=>arg 4;whnf);first | refine az ?_ |(refine sN ?_;intro b)|(refine sC ?_ ?_<;>intro h)|(refine au ?_ ?_<;>intro h<;>try contradiction)|(refine aa ?_;intro g c')| refine ae ?_ | refine ai ?_ | exact ax |(refine aj rfl ?_;intro D lL)| refine af ?_ ?_ | refine ah ?_ ?_ ?_ | fail));(all_goals refine av ?_)
  exact jV (i+1) hlt cD (by omega) bu
 ·obtain rfl:i=l.length:=by omega
  (repeat' ((try refine aw ?_);(conv=>arg 4;whnf);first | refine az ?_ |(refine sN ?_;intro b)|(refine sC ?_ ?_<;>intro h)|(refine au ?_ ?_<;>intro h<;>try contradiction)|(refine aa ?_;intro g c')| refine ae ?_ | refine ai ?_ | exact ax |(refine aj rfl ?_;intro D lL)| refine af ?_ ?_ | refine ah ?_ ?_ ?_ | fail));(all_goals refine av ?_)
section
variable {n tb to m c:Nat} {ts:List Nod} {q:Value×Value}
theorem z_mRc (h1:1≤n) (h2:n≤4096) (ht:ts.length=tot n) (hT:l6 n ts=0):Zp Tryz.prog 44 [vA (cy ⟨n,(some ⟨tb,to,none⟩,m,c)⟩)] [] [Sl aU (some ⟨tb,to,none⟩) m c ts,Gs q] Nat (fun _=>True) (fun b=> .tuple #[.slice (some ⟨b,0,none⟩) n n,vI 0]) (fun _=> []) (fun b=> [Sl bY (some ⟨b,0,none⟩) n n (i3 n ts)]):=by
 have hck:=zh (tb:=tb) (to:=to) (m:=m) (c:=c) (q:=q) h1 h2 ht hT
 refine ak fun G=> ?_
 (repeat' ((try refine aw ?_);(conv=>arg 4;whnf);first | refine aO ?_ |(refine sN ?_;intro b)|(refine sC ?_ ?_<;>intro h)|(refine au ?_ ?_<;>intro h<;>try contradiction)|(refine aa ?_;intro g c')|(refine aA hck ?_;intro x hx;refine aH ?_)| refine ae ?_ | refine ai ?_ | exact ax |(refine aj rfl ?_;intro D lL)| refine af ?_ ?_ | refine ah ?_ ?_ ?_ | fail));(all_goals refine av ?_)
 revert b;intro rb
 refine aS 0 ?_
 intro hn hcl hml hal
 have hts:=eR h1 h2
 refine dh [rb] (X:=Nat) (fun i=> [(17,vI i)]) (fun i=>i≤n) (fun i=> [iB rb ((((i3 n ts).take i)++List.replicate (n-i) Rec.zero).flatMap bY) 138]) (fun i=>n-i) 0 (Nat.zero_le _) rfl (by
  ((repeat' (first | with_reducible exact ar _ | exact am _ | refine aE ?_ ?_ | refine aG inferInstance ?_ | refine aX ?_))<;>(try with_reducible rfl))
  all_goals simp) ?_
 intro i hi
 (conv=>arg 2;simp only [List.cons_append,List.nil_append])
 by_cases hlt:i<n
 ·have hi4:i/4<m:=by
   have h9:i/4<cnt n 0:=bm hlt 0
   have h8:=dV (n:=n) (l:=0) (j:=i/4) (Nat.zero_le _) h9
   have h7:num n 0=0:=rfl
   omega
  have hy:(ts.getD (i/4) default).rs.l.getD (i%4) default=(i3 n ts).getD i Rec.zero:=(yc hlt).symm
  have hU:Ub ((((i3 n ts).take i)++List.replicate (n-i) Rec.zero).flatMap bY) (0+i*35) (bY ((ts.getD (i/4) default).rs.l.getD (i%4) default)) ((((i3 n ts).take (i+1))++List.replicate (n-(i+1)) Rec.zero).flatMap bY) True:=⟨fun _=>by
   rw [Nat.zero_add,hy]
   have hl:i<(((i3 n ts).take i)++List.replicate (n-i) Rec.zero).length:=by simp [eO];omega
   have h8:=j6 (K:=bY) (m:=35) ((i3 n ts).getD i Rec.zero) hl
   have e:(((i3 n ts).take i)++List.replicate (n-i) Rec.zero).set i ((i3 n ts).getD i Rec.zero)=((i3 n ts).take (i+1))++List.replicate (n-(i+1)) Rec.zero:=by
    have hL:i<(i3 n ts).length:=by rw [eO];exact hlt
    rw [List.set_append_right _ _ (by simp;omega),List.length_take,Nat.min_eq_left (by omega),Nat.sub_self,show n-i=(n-(i+1))+1 by omega,List.replicate_succ,←List.getElem_eq_getD (h:=hL)]
    show _++(i3 n ts)[i]::List.replicate (n-(i+1)) Rec.zero=_
    rw [List.take_succ_eq_append_getElem hL,List.append_assoc];rfl
   rwa [e] at h8⟩
  (repeat' ((try refine aw ?_);(conv=>arg 4;whnf);first | refine az ?_ |(refine sN ?_;intro b)|(refine sC ?_ ?_<;>intro h)|(refine au ?_ ?_<;>intro h<;>try contradiction)|(refine aa ?_;intro g c')| refine ae ?_ | refine ai ?_ | exact ax |(refine aj rfl ?_;intro D lL)| refine af ?_ ?_ | refine ah ?_ ?_ ?_ | fail));(all_goals refine av ?_)
  exact jV (i+1) hlt cD (by omega) bu
 ·have hrl:=eO n ts
  obtain rfl:n=i:=by omega
  rw [show n-n=0 by omega,List.replicate_zero,List.append_nil,List.take_of_length_le (by rw [eO];omega)]
  refine eK (K:=bY) (l:=i3 n ts) rb n n ?_
  (repeat' ((try refine aw ?_);(conv=>arg 4;whnf);first | refine az ?_ |(refine sN ?_;intro b)|(refine sC ?_ ?_<;>intro h)|(refine au ?_ ?_<;>intro h<;>try contradiction)|(refine aa ?_;intro g c')| refine ae ?_ | refine ai ?_ | exact ax |(refine aj rfl ?_;intro D lL)| refine af ?_ ?_ | refine ah ?_ ?_ ?_ | fail));(all_goals refine av ?_)
  exact aD rb True.intro rfl (am _) bu
end
end Go.Proofs.YtbobhnldhpjdlaaGreatDoor
namespace Go.Proofs.YtbobhnldhpjdlaaGreatDoor
open Go Go.RowKit Go.Cs Go.Cz
set_option maxRecDepth 100000
set_option maxHeartbeats 40000000
def regC (k:Nat):Code→Option (Array Oper)
 | .region i ops _=>if i=k then some ops else none
 | .seq a b=>(regC k a).or (regC k b)
 | .cond _ a b=>(regC k a).or (regC k b)
 | .block _ c=>regC k c
 | .loop c=>regC k c
 | .scope c=>regC k c
 | .rangeFunc _ _ _ c=>regC k c
 | _=>none
def opsF (f:Func) (k:Nat):Array Oper:=(f.body.bind (regC k)).getD #[]
theorem t_ops {P:Program} {ro:Option Nat} {n id:Nat} {ops ops':Array Oper} {ds:List Deferred} {σ:Fm} {K:Kt} {G:Gc} {O:List It} {F:List Pt} (e:ops=ops') (h:Tr G O F (Dw P ro n id ops' ds σ K)):Tr G O F (Dw P ro n id ops ds σ K):=by subst e;exact h
end Go.Proofs.YtbobhnldhpjdlaaGreatDoor
namespace Go.Proofs.YtbobhnldhpjdlaaGreatDoor
open Go Go.RowKit Go.Cs Go.Cz
set_option maxRecDepth 100000
set_option maxHeartbeats 4000000
section
variable {n:Nat} {k:Key} {d:SDsk} {I:DI} {L:List Rec} {s:List Nat} {dur:List Dig} {cell:Cel} {q:Value×Value} {bi tb m c:Nat}
theorem z_mPr (h:DV n k d I L s dur cell) (hb:bi<n):Zp Tryz.prog 47 [vA (cy ⟨n,(some ⟨tb,0,none⟩,m,c)⟩),vI bi] [] [Sl aU (some ⟨tb,0,none⟩) m c (bJ L s),Gs q] (Option Addr) (fun _=>True) (fun x=> .tuple #[vA (dy ⟨bi,(x,(cK n L s bi).length,(cK n L s bi).length)⟩),vI 0]) (fun _=> []) (fun _=> []):=by
 have h1:=h.int.bl.1
 have h2:=h.int.bl.2
 have h5:=a8 n
 have hll:=h.int.ll
 have hTl:(bJ L s).length=tot n:=by rw [nZ,hll]
 have hT:l6 n (bJ L s)=0:=by rw [←hll];exact mS h.int.ok
 have htl:=b9 h2
 obtain ⟨hlp,hl0⟩:=mz (n:=n) (L:=L) (s:=s) (bi:=bi)
 have hpl:=jr n bi
 have hnd:=fun i (hi:i<(cK n L s bi).length)=>u6 h hb hi
 have hem:=fun i (hi:i<(cK n L s bi).length) (hi2:i+1<hgt n+1)=>lQ (s:=s) (L:=L) hb hi hi2
 generalize hA:cK n L s bi=A at hlp hl0 hnd hem
 refine ak fun G=> ?_
 refine aS 0 ?_
 intro hn hc hm ha
 subst hn
 have hval:=GK (tb:=tb) (to:=0) (m:=(bJ L s).length) (c:=c) (q:=q) h1 h2 hTl hT
 (repeat' ((try refine aw ?_);(conv=>arg 4;whnf);first | refine aO ?_ |(refine sN ?_;intro b)|(refine sC ?_ ?_<;>intro h)|(refine au ?_ ?_<;>intro h<;>try contradiction)|(refine aa ?_;intro g c')|((first | refine cw hval ?_ | refine cw (sy h1 h2 hb) ?_);intro x hx;refine bV ?_)| refine ae ?_ | refine ai ?_ | exact ax |(refine aj rfl ?_;intro D lL)| refine af ?_ ?_ | refine ah ?_ ?_ ?_ | fail));(all_goals refine av ?_)
 rename_i tx ob lx hlx lb
 revert b;intro pb
 obtain ⟨s1,s2⟩:=lx
 refine dh [pb] (X:=Nat×Option Addr×Nat) (fun x=> [(37,vI x.1)]) (fun x=>x.1≤A.length∧(x.1=A.length→A.length=hgt n+1)) (fun x=> [iB pb (dy ⟨bi,(x.2.1,x.1,x.2.2)⟩) 142,iN aU 274 x.2.1 x.1 x.2.2 217 (A.take x.1)]) (fun x=>A.length-x.1) (0,none,0) ⟨Nat.zero_le _,fun e=>absurd e (by dsimp only;omega)⟩ rfl (by ((repeat' (first | with_reducible exact ar _ | exact am _ | refine aE ?_ ?_ | refine aG inferInstance ?_ | refine aX ?_ | refine qT rfl ?_))<;>(try with_reducible rfl))) ?_
 rintro ⟨i,a,c1⟩ ⟨hi,hfin⟩
 (conv=>arg 2;simp only [List.cons_append,List.nil_append])
 dsimp only at hi hfin⊢
 by_cases hlt:i<A.length
 ·have hAi:=hnd i hlt
  have hj:=bm hb (hgt n-i)
  have hpg:=lR (n:=n) (i:=bi) (k:=i) (by omega)
  have hpL:((ec n bi).getD i default).Level=hgt n-i:=by rw [show (ec n bi).getD i default=_ from hpg]
  have hpI:((ec n bi).getD i default).Index=idx bi (hgt n-i):=by rw [show (ec n bi).getD i default=_ from hpg]
  have hcn:=cH n (hgt n-i)
  have hnum:=sJ (n:=n) (l:=((ec n bi).getD i default).Level) (j:=((ec n bi).getD i default).Index) (s1:=s1) (s2:=s2) h2 (by omega) (by omega)
  have hK:num n ((ec n bi).getD i default).Level+((ec n bi).getD i default).Index=num n (hgt n-i)+idx bi (hgt n-i):=by rw [hpL,hpI]
  have hKl:=dV (n:=n) (l:=hgt n-i) (j:=idx bi (hgt n-i)) (by omega) hj
  have hKg:(bJ L s).getD (num n (hgt n-i)+idx bi (hgt n-i)) default=A.getD i default:=by
   rw [hAi];subst hll;exact gi (by omega) hj
  rw [hK] at hnum
  generalize num n (hgt n-i)+idx bi (hgt n-i)=K at hnum hKl hKg
  by_cases hend:i+1=hgt n+1
  ·(repeat' ((try refine aw ?_);(conv=>arg 4;whnf);first | refine az ?_ |(refine sN ?_;intro b)|(refine sC ?_ ?_<;>intro h)|(refine au ?_ ?_<;>intro h<;>try contradiction)|(refine aa ?_;intro g c')|(refine aA hnum ?_;intro x hx;refine aH ?_)| refine ae ?_ | refine ai ?_ | exact ax |(refine aj rfl ?_;intro D lL)| refine af ?_ ?_ | refine ah ?_ ?_ ?_ | fail));(all_goals refine av ?_)
   all_goals (
    refine a5 (i+1,some ⟨g,0,none⟩,c') rfl ⟨hlt,fun e=>by dsimp only at e;omega⟩ ?_ (by dsimp only;omega)
    dsimp only
    rw [List.take_succ_eq_append_getElem hlt,List.getElem_eq_getD (h:=hlt) default,←hKg]
    ((repeat' (first | with_reducible exact ar _ | exact am _ | refine aE ?_ ?_ | refine aG inferInstance ?_ | refine aX ?_))<;>(try with_reducible rfl)))
  ·have hee:=hem i hlt (by omega)
   obtain ⟨l,hl⟩:∃l,hgt n-i=l+1:=⟨hgt n-i-1,by omega⟩
   have hl2:hgt n-(i+1)=l:=by omega
   rw [hl2] at hee
   rw [hl] at hAi hpL hpI hj hcn
   have hpg2:=lR (n:=n) (i:=bi) (k:=i+1) (by omega)
   have hpI2:((ec n bi).getD (i+1) default).Index=idx bi l:=by rw [show (ec n bi).getD (i+1) default=_ from hpg2,hl2]
   have hcn2:=cH n l
   have hjl:=bm hb l
   have hix:4*idx bi (l+1)+idx bi l%4=idx bi l:=hJ bi l
   have hE:=h.ent (l:=l) (j:=idx bi (l+1)) (w:=idx bi l%4) (by omega) hj (Nat.mod_lt _ (by decide)) (by rw [hix];exact bm hb l)
   rw [hix,←hAi,←hKg] at hE
   have hE2:((bJ L s).getD K default).es.l.getD (((ec n bi).getD (i+1) default).Index%4) default=cX L s l (idx bi l):=by rw [hpI2];exact hE
   by_cases hlen:i+1=A.length
   ·have he:=hee.2 hlen
    have hst:(((bJ L s).getD K default).es.l.getD (((ec n bi).getD (i+1) default).Index%4) default).st=0:=by rw [hE2];exact (h.ent0 l _).2 he
    (repeat' ((try refine aw ?_);(conv=>arg 4;whnf);first | refine az ?_ |(refine sN ?_;intro b)|(refine sC ?_ ?_<;>intro h)|(refine au ?_ ?_<;>intro h<;>try contradiction)|(refine aa ?_;intro g c')|(refine aA hnum ?_;intro x hx;refine aH ?_)| refine ae ?_ | refine ai ?_ | exact ax |(refine aj rfl ?_;intro D lL)| refine af ?_ ?_ | refine ah ?_ ?_ ?_ | fail));(all_goals refine av ?_)
    have e1:A.take i++ [(bJ L s).getD K default]=A:=by
     rw [hKg,←List.getElem_eq_getD (h:=hlt) default,←List.take_succ_eq_append_getElem hlt,hlen,List.take_length]
    all_goals (
     refine eE (m:=274) (e:=217) aU (some ⟨g,0,none⟩) (i+1) c' ?_
     refine aS 0 ?_
     intro _ hc0 hm0 _
     (repeat' ((try refine aw ?_);(conv=>arg 4;whnf);first | refine az ?_ |(refine sN ?_;intro b)|(refine sC ?_ ?_<;>intro h)|(refine au ?_ ?_<;>intro h<;>try contradiction)|(refine aa ?_;intro g c')| refine ae ?_ | refine ai ?_ | exact ax |(refine aj rfl ?_;intro D lL)| refine af ?_ ?_ | refine ah ?_ ?_ ?_ | fail));(all_goals refine av ?_)
     rw [hlen]
     exact aD (some ⟨g,0,none⟩) True.intro rfl (am _) bu)
   ·have he:bK L l (idx bi l)=false:=by
     cases hq:bK L l (idx bi l) with
     | false=>rfl
     | true=>exact absurd (hee.1 hq) hlen
    obtain ⟨e1,e2,e3⟩:=h.ent1 he
    have hst:¬(((bJ L s).getD K default).es.l.getD (((ec n bi).getD (i+1) default).Index%4) default).st=0:=by rw [hE2,e1];omega
    (repeat' ((try refine aw ?_);(conv=>arg 4;whnf);first | refine az ?_ |(refine sN ?_;intro b)|(refine sC ?_ ?_<;>intro h)|(refine au ?_ ?_<;>intro h<;>try contradiction)|(refine aa ?_;intro g c')|(refine aA hnum ?_;intro x hx;refine aH ?_)| refine ae ?_ | refine ai ?_ | exact ax |(refine aj rfl ?_;intro D lL)| refine af ?_ ?_ | refine ah ?_ ?_ ?_ | fail));(all_goals refine av ?_)
    all_goals (
     refine a5 (i+1,some ⟨g,0,none⟩,c') rfl ⟨hlt,fun e=>by dsimp only at e;omega⟩ ?_ (by dsimp only;omega)
     dsimp only
     rw [List.take_succ_eq_append_getElem hlt,List.getElem_eq_getD (h:=hlt) default,←hKg]
     ((repeat' (first | with_reducible exact ar _ | exact am _ | refine aE ?_ ?_ | refine aG inferInstance ?_ | refine aX ?_))<;>(try with_reducible rfl)))
 ·obtain rfl:i=A.length:=by omega
  refine eE (m:=274) (e:=217) aU a A.length c1 ?_
  refine aS 0 ?_
  intro _ _ _ ha0
  obtain ⟨b1,o1,rfl⟩:=ha0 (by omega) (by decide)
  have hfi:=hfin rfl
  (repeat' ((try refine aw ?_);(conv=>arg 4;whnf);first | refine az ?_ |(refine sN ?_;intro b)|(refine sC ?_ ?_<;>intro h)|(refine au ?_ ?_<;>intro h<;>try contradiction)|(refine aa ?_;intro g c')| refine ae ?_ | refine ai ?_ | exact ax |(refine aj rfl ?_;intro D lL)| refine af ?_ ?_ | refine ah ?_ ?_ ?_ | fail));(all_goals refine av ?_)
  exact aD (some ⟨b1,o1,none⟩) True.intro rfl (am _) bu
end
end Go.Proofs.YtbobhnldhpjdlaaGreatDoor
namespace Go.Proofs.YtbobhnldhpjdlaaGreatDoor
open Go Go.RowKit Go.Cs Go.Cz
set_option maxRecDepth 100000
set_option maxHeartbeats 40000000
section
variable {q:Value×Value} {p:PS} {M:ML} {sb ab kb an dn:Nat} {la:Option Addr} {lc:Nat} {G:Gc}
theorem z_rcvT (h1:1≤p.n) (hl0:0<p.log.length) (hlm:p.log.length≤65536) (hla:p.log.getD (p.log.length-1) default=p.cell)
  (hDV:DV p.n p.k M.d M.I p.Lc p.s p.dur p.cell) (K4:Kt):Tr G [] [Sl ay la p.n lc p.dur,Bk sb (aB (c8 p M)),Bk ab (cf ⟨(some ⟨an,0,none⟩,p.n,p.n),(some ⟨dn,0,none⟩,p.n,p.n)⟩),Bk kb (bC p.k),Dm M.d M.I,Sl aL (some ⟨M.lb,0,none⟩) p.log.length M.lc p.log,Sl ay (some ⟨dn,0,none⟩) p.n p.n p.dur,Gs q]
  (Dw Tryz.prog none 197 5 (opsF Tryz.f6 5) [] [(3,vP sb 0),(4,vP ab 0),(5, .bool true),(6,vI p.n),(7,vP kb 0),(8, .slice la p.n lc),(9,vI 0),(10,vI 0)]
   (LE (X:=Nat×Nat×Nat×Nat) (fun x=> [(3,vP sb 0),(4,vP ab 0),(5, .bool true),(6,vI p.n),(7,vP kb 0),(8, .slice la p.n lc),(9,vI 0),(10,vI 0),(11,vP x.1 0),(12, .slice (some ⟨x.2.2.2,0,none⟩) (tot p.n) (tot p.n)),(13,vP x.2.1 0),(14,vI 0)]) (fun _=>True) (fun x=> [iB x.1 (cy ⟨p.n,(some ⟨x.2.2.1,0,none⟩,tot p.n,tot p.n)⟩) 128,iB x.2.1 (bW SPrb.zero) 105]) (fun x=> [Sl aU (some ⟨x.2.2.1,0,none⟩) (tot p.n) (tot p.n) (bJ p.Lc p.s)]) G [Sl ay la p.n lc p.dur,Bk sb (aB (c8 p M)),Bk ab (cf ⟨(some ⟨an,0,none⟩,p.n,p.n),(some ⟨dn,0,none⟩,p.n,p.n)⟩),Bk kb (bC p.k),Dm M.d M.I,Sl aL (some ⟨M.lb,0,none⟩) p.log.length M.lc p.log,Sl ay (some ⟨dn,0,none⟩) p.n p.n p.dur,Gs q] [] K4)):=by
 have hdk:=HY (p:=p) (M:=M)
 have hcl:=wc (p:=p) (M:=M) h1 hl0 hlm hla
 have htr:=HG (q:=q) hDV
 (conv=>arg 4;arg 5;whnf)
 refine gM [] [Bk sb (aB (c8 p M))] (am _) bu rfl ?_
 (repeat' ((try refine aw ?_);(conv=>arg 4;whnf);first | refine yH ?_ |(refine sN ?_;intro b)|(refine sC ?_ ?_<;>intro h)|(refine au ?_ ?_<;>intro h<;>try contradiction)|(refine aa ?_;intro g c')|((first | refine aA hdk ?_ | refine aA hcl ?_);intro x hx;refine aH ?_)|(refine cw htr ?_;intro x hx;refine bV ?_)| refine ai ?_ | exact ax |(refine aj rfl ?_;intro D lL)| refine af ?_ ?_ | refine ah ?_ ?_ ?_ | fail));(all_goals refine av ?_)
 all_goals first
  |(rename_i b1;first | exact d9 (b,b1,x.1,x.2) True.intro cD bu | exact d9 (b1,b,x.1,x.2) True.intro cD bu)
  |(rename_i b1 _ _;first | exact d9 (b,b1,x.1,x.2) True.intro cD bu | exact d9 (b1,b,x.1,x.2) True.intro cD bu)
  |(rename_i b1 _ _ _ _;first | exact d9 (b,b1,x.1,x.2) True.intro cD bu | exact d9 (b1,b,x.1,x.2) True.intro cD bu)
end
section
variable {q:Value×Value} {p:PS} {M:ML} {sb ab kb an dn nb tb cb rb r1 q1 gb i:Nat} {pv:Option Addr} {G:Gc}
theorem z_rcvP (h1:1≤p.n) (hl0:0<p.log.length) (hlm:p.log.length≤65536) (hla:p.log.getD (p.log.length-1) default=p.cell)
  (hDV:DV p.n p.k M.d M.I p.Lc p.s p.dur p.cell) (hlt:i<p.n) (K4:Kt):Tr G [] [Bk rb (ay p.cell.root),Sl bY (some ⟨cb,0,none⟩) p.n p.n p.Lc,Bk tb (cy ⟨p.n,(some ⟨nb,0,none⟩,tot p.n,tot p.n)⟩),Sl aU (some ⟨nb,0,none⟩) (tot p.n) (tot p.n) (bJ p.Lc p.s),Bk sb (aB (c8 p M)),Bk ab (cf ⟨(some ⟨an,0,none⟩,p.n,p.n),(some ⟨dn,0,none⟩,p.n,p.n)⟩),Bk kb (bC p.k),Dm M.d M.I,Sl aL (some ⟨M.lb,0,none⟩) p.log.length M.lc p.log,Sl ay (some ⟨dn,0,none⟩) p.n p.n p.dur,Gs q]
  (Dw Tryz.prog none 197 13 (opsF Tryz.f6 13) [] [(19,vI i),(120, .bool false),(17, .slice (some ⟨cb,0,none⟩) p.n p.n),(15,vP rb 0),(11,vP tb 0),(7,vP kb 0),(6,vI p.n),(4,vP ab 0),(3,vP sb 0)]
   (LE (X:=Nat×Nat) (fun x=> [(3,vP sb 0),(4,vP ab 0),(6,vI p.n),(7,vP kb 0),(11,vP tb 0),(15,vP rb 0),(17, .slice (some ⟨cb,0,none⟩) p.n p.n),(120, .bool false),(19,vI i),(20, .slice (some ⟨x.1,0,none⟩) x.2 x.2),(22,vI 0)]) (fun _=>True) (fun x=> []) (fun x=> [Sl aU (some ⟨x.1,0,none⟩) x.2 x.2 (cK p.n p.Lc p.s i)]) G [Bk rb (ay p.cell.root),Sl bY (some ⟨cb,0,none⟩) p.n p.n p.Lc,Bk tb (cy ⟨p.n,(some ⟨nb,0,none⟩,tot p.n,tot p.n)⟩),Sl aU (some ⟨nb,0,none⟩) (tot p.n) (tot p.n) (bJ p.Lc p.s),Bk sb (aB (c8 p M)),Bk ab (cf ⟨(some ⟨an,0,none⟩,p.n,p.n),(some ⟨dn,0,none⟩,p.n,p.n)⟩),Bk kb (bC p.k),Dm M.d M.I,Sl aL (some ⟨M.lb,0,none⟩) p.log.length M.lc p.log,Sl ay (some ⟨dn,0,none⟩) p.n p.n p.dur,Gs q] [] K4)):=by
 have hdk:=HY (p:=p) (M:=M)
 have hcl:=wc (p:=p) (M:=M) h1 hl0 hlm hla
 have hpt:=D9 (q:=q) (bi:=i) hDV hlt
 have hpt':Zp Tryz.prog 45 [vI p.n,vA (aJ M.d),vA (aL p.cell),vI i] [] [Dm M.d M.I,Gs q] (Nat×Nat) (fun _=>True) (fun x=> .tuple #[.slice (some ⟨x.1,0,none⟩) x.2 x.2,vA (bW SPrb.zero),vI 0]) (fun _=> []) (fun x=> [Sl aU (some ⟨x.1,0,none⟩) x.2 x.2 (cK p.n p.Lc p.s i)]):=hpt
 (conv=>arg 4;arg 5;whnf)
 refine gM [] [Bk sb (aB (c8 p M))] (am _) bu rfl ?_
 (repeat' ((try refine aw ?_);(conv=>arg 4;whnf);first | refine yH ?_ |(refine sN ?_;intro b)|(refine sC ?_ ?_<;>intro h)|(refine au ?_ ?_<;>intro h<;>try contradiction)|(refine aa ?_;intro g c')|((first | refine aA hdk ?_ | refine aA hcl ?_);intro x hx;refine aH ?_)|(refine cw hpt' ?_;intro x hx;refine bV ?_)| refine ai ?_ | exact ax |(refine aj rfl ?_;intro D lL)| refine af ?_ ?_ | refine ah ?_ ?_ ?_ | fail));(all_goals refine av ?_)
 all_goals exact d9 x True.intro cD bu
theorem z_rcvD {T:Nat} (h1:1≤p.n) (h2:p.n≤4096) (hM:DM p M T)
  (hDV:DV p.n p.k M.d M.I p.Lc p.s p.dur p.cell) (hlt:i<p.n) (K4:Kt):Tr G [] [Bk q1 (dy ⟨i,(pv,(cK p.n p.Lc p.s i).length,(cK p.n p.Lc p.s i).length)⟩),Bk r1 (bY (p.Lc.getD i Rec.zero)),Sl aU (some ⟨gb,0,none⟩) (cK p.n p.Lc p.s i).length (cK p.n p.Lc p.s i).length (cK p.n p.Lc p.s i),Bk rb (ay p.cell.root),Sl bY (some ⟨cb,0,none⟩) p.n p.n p.Lc,Bk tb (cy ⟨p.n,(some ⟨nb,0,none⟩,tot p.n,tot p.n)⟩),Sl aU (some ⟨nb,0,none⟩) (tot p.n) (tot p.n) (bJ p.Lc p.s),Bk sb (aB (c8 p M)),Bk ab (cf ⟨(some ⟨an,0,none⟩,p.n,p.n),(some ⟨dn,0,none⟩,p.n,p.n)⟩),Bk kb (bC p.k),Dm M.d M.I,Sl aL (some ⟨M.lb,0,none⟩) p.log.length M.lc p.log,Sl ay (some ⟨dn,0,none⟩) p.n p.n p.dur,Gs q]
  (Dw Tryz.prog none 197 16 (opsF Tryz.f6 16) [] [(26,vI 0),(25,vP q1 0),(24,vI 0),(23,vP r1 0),(22,vI 0),(20, .slice (some ⟨gb,0,none⟩) (cK p.n p.Lc p.s i).length (cK p.n p.Lc p.s i).length),(19,vI i),(120, .bool false),(17, .slice (some ⟨cb,0,none⟩) p.n p.n),(15,vP rb 0),(11,vP tb 0),(7,vP kb 0),(6,vI p.n),(4,vP ab 0),(3,vP sb 0)]
   (LE (X:=Nat) (fun x=> [(3,vP sb 0),(4,vP ab 0),(6,vI p.n),(7,vP kb 0),(11,vP tb 0),(15,vP rb 0),(17, .slice (some ⟨cb,0,none⟩) p.n p.n),(120, .bool false),(19,vI i),(20, .slice (some ⟨gb,0,none⟩) (cK p.n p.Lc p.s i).length (cK p.n p.Lc p.s i).length),(22,vI 0),(23,vP r1 0),(24,vI 0),(25,vP q1 0),(26,vI 0),(27,vP x 0),(29,vI 0)]) (fun _=>True) (fun x=> [iB x (ay (p.dur.getD i Dig.zero)) 52]) (fun x=> []) G [Bk q1 (dy ⟨i,(pv,(cK p.n p.Lc p.s i).length,(cK p.n p.Lc p.s i).length)⟩),Bk r1 (bY (p.Lc.getD i Rec.zero)),Sl aU (some ⟨gb,0,none⟩) (cK p.n p.Lc p.s i).length (cK p.n p.Lc p.s i).length (cK p.n p.Lc p.s i),Bk rb (ay p.cell.root),Sl bY (some ⟨cb,0,none⟩) p.n p.n p.Lc,Bk tb (cy ⟨p.n,(some ⟨nb,0,none⟩,tot p.n,tot p.n)⟩),Sl aU (some ⟨nb,0,none⟩) (tot p.n) (tot p.n) (bJ p.Lc p.s),Bk sb (aB (c8 p M)),Bk ab (cf ⟨(some ⟨an,0,none⟩,p.n,p.n),(some ⟨dn,0,none⟩,p.n,p.n)⟩),Bk kb (bC p.k),Dm M.d M.I,Sl aL (some ⟨M.lb,0,none⟩) p.log.length M.lc p.log,Sl ay (some ⟨dn,0,none⟩) p.n p.n p.dur,Gs q] [] K4)):=by
 have hdk:=HY (p:=p) (M:=M)
 have hll:=hDV.int.ll
 have hld:=EB (d:=M.d) (I:=M.I) (k:=p.k) (bi:=i) (q:=q) h1 h2 hlt hM.ok.ok hM.sz hM.ok.size (hDV.int.ok.rc i (by rw [hll];exact hlt)) (hDV.int.dat i hlt)
 (conv=>arg 4;arg 5;whnf)
 refine gM [] [Bk sb (aB (c8 p M)),Bk kb (bC p.k),Bk r1 (bY (p.Lc.getD i Rec.zero))] (am _) bu rfl ?_
 (repeat' ((try refine aw ?_);(conv=>arg 4;whnf);first | refine yH ?_ |(refine sN ?_;intro b)|(refine sC ?_ ?_<;>intro h)|(refine au ?_ ?_<;>intro h<;>try contradiction)|(refine aa ?_;intro g c')|((first | refine aA hdk ?_ | refine aA hld ?_);intro x hx;refine aH ?_)| refine ai ?_ | exact ax |(refine aj rfl ?_;intro D lL)| refine af ?_ ?_ | refine ah ?_ ?_ ?_ | fail));(all_goals refine av ?_)
 all_goals first
  |(rename_i b1;first | exact d9 b True.intro cD bu | exact d9 b1 True.intro cD bu)
  |(rename_i b1 _ _;first | exact d9 b True.intro cD bu | exact d9 b1 True.intro cD bu)
  |(rename_i b1 _ _ _ _;first | exact d9 b True.intro cD bu | exact d9 b1 True.intro cD bu)
end
end Go.Proofs.YtbobhnldhpjdlaaGreatDoor
namespace Go.Proofs.YtbobhnldhpjdlaaGreatDoor
open Go Go.RowKit Go.Cs Go.Cz
set_option maxRecDepth 100000
set_option maxHeartbeats 4000000
theorem L7 {P:Program} {O:List It} {F:List Pt} {T i o E m:Nat} {cs vs:List Value} {p:Prop} [h:Fo P T i o E] [hE:Sz P E m true] [hs:Sb cs o vs p] (hp:p) (hl:vs.length=m):Yv P O F (Ak.fd T (vA cs) i) (vA vs):=tv (hs.sb hp) hl
section
variable {ad:Addr}
theorem z_rcv {xb:UInt8} {oa:Option Addr} {m c:Nat} {zs:List (UInt8×UInt8×UInt8)}:Zp Tryz.prog 6 [vA (iC ⟨xb.toNat,(oa,m,c)⟩)] [] [Sl yF oa m c zs,Gs (qE ad)] Unit (fun _=>True) (fun _=> .bool true) (fun _=> []) (fun _=> []):=by
 have hm20:=Nat.mod_lt xb.toNat (show 0<20 by decide)
 have hpl:=Ir (ad:=ad) (xb:=xb) (oa:=oa) (m:=m) (c:=c) (zs:=zs)
 generalize hn:1+xb.toNat%20=n at hpl
 refine ak fun G=> ?_
 (repeat' ((try refine aw ?_);(conv=>arg 4;whnf);first | refine aO ?_ |(refine sN ?_;intro b)|(refine sC ?_ ?_<;>intro h)|(refine au ?_ ?_<;>intro h<;>try contradiction)|(refine aa ?_;intro g c')|(refine cw hpl ?_;intro x hx;refine bV ?_)| refine ai ?_ | exact ax |(refine aj rfl ?_;intro D lL)| refine af ?_ ?_ | refine ah ?_ ?_ ?_ | fail));(all_goals refine av ?_)
 revert x;rintro ⟨p,M,T,an,dn⟩ ⟨hPl,hT,hM⟩
 dsimp only at hPl hT hM⊢
 rename_i sb
 revert b;intro ab
 have hPn:=hPl.hn
 have hP:=hPl.ok
 have hK:Zp Tryz.prog 13 [vA (ay (ii 2))] [] [Gs (qE ad)] Unit (fun _=>True) (fun _=>vA (bC p.k)) (fun _=> []) (fun _=> []):=by rw [hPl.hk];exact Bw
 (repeat' ((try refine aw ?_);(conv=>arg 4;whnf);first | refine aO ?_ |(refine sN ?_;intro b)|(refine sC ?_ ?_<;>intro h)|(refine au ?_ ?_<;>intro h<;>try contradiction)|(refine aa ?_;intro g c')|((first | refine aA Jg ?_ | refine aA hK ?_);intro x hx;refine aH ?_)| refine ai ?_ | exact ax |(refine aj rfl ?_;intro D lL)| refine af ?_ ?_ | refine ah ?_ ?_ ?_ | fail));(all_goals refine av ?_)
 revert b;intro kb
 refine bG sb ?_
 refine bG ab ?_
 refine bG kb ?_
 subst hPn
 have h1:=hP.n1
 have h2:=hP.n2
 have htl:=b9 h2
 have hDV:DV p.n p.k M.d M.I p.Lc p.s p.dur p.cell:=⟨hM.ok.ok,hM.sz,hM.ok.size,by rw [hM.ok.cn];exact hP.work.int⟩
 have hll:=hDV.int.ll
 have hdl:=hDV.int.dl
 have hdk:=HY (p:=p) (M:=M)
 have hlm:=hP.logm
 have hcl:=wc (p:=p) (M:=M) h1 hP.log0 (by omega) hP.last
 have hal:=Fg (q:=qE ad) hDV
 have htr:=HG (q:=qE ad) hDV
 have hTl:(bJ p.Lc p.s).length=tot p.n:=by rw [nZ,hll]
 have hT0:l6 p.n (bJ p.Lc p.s)=0:=by rw [←hll];exact mS hDV.int.ok
 have htot:=eR h1 h2
 have hlg:(bJ p.Lc p.s).getD ((bJ p.Lc p.s).length-1) default=aK p.Lc p.s (hgt p.n) 0:=by
  rw [hTl,show tot p.n-1=num p.n (hgt p.n)+0 by omega,←hll]
  exact gi (Nat.le_refl _) (dk (by omega) _)
 obtain ⟨f1,f2,f3,f4⟩:=hDV.nd (Nat.le_refl _) (dk h1 (hgt p.n))
 have hrt:=fun (tb:Nat)=>Mt (n:=p.n) (ts:=bJ p.Lc p.s) (tb:=tb) (to:=0) (m:=tot p.n) (c:=tot p.n) (q:=qE ad) h1 h2 hTl hT0 (by rw [hlg];exact f1)
 rw [hlg,hDV.rootD] at hrt
 have hrc:=fun (tb:Nat)=>z_mRc (n:=p.n) (ts:=bJ p.Lc p.s) (tb:=tb) (to:=0) (m:=tot p.n) (c:=tot p.n) (q:=qE ad) h1 h2 hTl hT0
 rw [recs_n hll] at hrc
 refine zp [Bk sb (aB (c8 p M)),Bk ab (cf ⟨(some ⟨an,0,none⟩,p.n,p.n),(some ⟨dn,0,none⟩,p.n,p.n)⟩),Bk kb (bC p.k),Dm M.d M.I,Sl aL (some ⟨M.lb,0,none⟩) p.log.length M.lc p.log,Sl ay (some ⟨dn,0,none⟩) p.n p.n p.dur,Gs (qE ad)] bu ?_
 refine eD (X:=Option Addr×Nat) (fun x=> [(3,vP sb 0),(4,vP ab 0),(5, .bool true),(6,vI p.n),(7,vP kb 0),(8, .slice x.1 p.n x.2),(9,vI 0),(10,vI 0)]) (fun _=>True) (fun x=> []) (fun x=> [Sl ay x.1 p.n x.2 p.dur]) ?_ ?_
 ·intro K4
  (first | refine bF rfl rfl ?_ |(refine bh ?_;(conv=>arg 4;whnf);refine bc rfl ?_))
  (repeat' ((try refine aw ?_);(conv=>arg 4;whnf);first | refine aO ?_ |(refine sN ?_;intro b)|(refine sC ?_ ?_<;>intro h)|(refine au ?_ ?_<;>intro h<;>try contradiction)|(refine aa ?_;intro g c')|((first | refine aA hdk ?_ | refine aA hcl ?_);intro x hx;refine aH ?_)|(refine cw hal ?_;intro x hx;refine bV ?_)| refine ai ?_ | exact ax |(refine aj rfl ?_;intro D lL)| refine af ?_ ?_ | refine ah ?_ ?_ ?_ | fail));(all_goals refine av ?_)
  all_goals (
   obtain ⟨xa,xm,xc⟩:=x
   dsimp only at hx
   subst hx
   exact d9 (xa,xc) True.intro cD bu)
 rintro ⟨la,lc⟩ _
 (conv=>arg 3;simp only [List.cons_append,List.nil_append])
 dsimp only
 (repeat' ((try refine aw ?_);(conv=>arg 4;whnf);first | refine aO ?_ |(refine sN ?_;intro b)|(refine sC ?_ ?_<;>intro h)|(refine au ?_ ?_<;>intro h<;>try contradiction)|(refine aa ?_;intro g c')| refine ai ?_ | exact ax |(refine aj rfl ?_;intro D lL)| refine af ?_ ?_ | refine ah ?_ ?_ ?_ | fail));(all_goals refine av ?_)
 refine eD (X:=Nat×Nat×Nat×Nat) (fun x=> [(3,vP sb 0),(4,vP ab 0),(5, .bool true),(6,vI p.n),(7,vP kb 0),(8, .slice la p.n lc),(9,vI 0),(10,vI 0),(11,vP x.1 0),(12, .slice (some ⟨x.2.2.2,0,none⟩) (tot p.n) (tot p.n)),(13,vP x.2.1 0),(14,vI 0)]) (fun _=>True) (fun x=> [iB x.1 (cy ⟨p.n,(some ⟨x.2.2.1,0,none⟩,tot p.n,tot p.n)⟩) 128,iB x.2.1 (bW SPrb.zero) 105]) (fun x=> [Sl aU (some ⟨x.2.2.1,0,none⟩) (tot p.n) (tot p.n) (bJ p.Lc p.s)]) ?_ ?_
 ·intro K4
  exact t_ops (by kernel_rfl) (z_rcvT h1 hP.log0 (by omega) hP.last hDV K4)
 rintro ⟨tb,pb,nb,lb⟩ _
 (conv=>arg 2;simp only [List.cons_append,List.nil_append])
 (conv=>arg 3;simp only [List.cons_append,List.nil_append])
 dsimp only
 refine bG tb ?_
 refine bG pb ?_
 have hrt1:=hrt nb
 have hrc1:=hrc nb
 (repeat' ((try refine aw ?_);(conv=>arg 4;whnf);first | refine aO ?_ |(refine sN ?_;intro b)|(refine sC ?_ ?_<;>intro h)|(refine au ?_ ?_<;>intro h<;>try contradiction)|(refine aa ?_;intro g c')|(refine aA hrt1 ?_;intro x hx;refine aH ?_)|(refine cw hrc1 ?_;intro x hx;refine bV ?_)| refine ai ?_ | exact ax |(refine aj rfl ?_;intro D lL)| refine af ?_ ?_ | refine ah ?_ ?_ ?_ | fail));(all_goals refine av ?_)
 revert b;intro rb
 refine bG rb ?_
 revert x;intro cb
 have heq:=z_eqB (a1:=la) (a2:=some ⟨dn,0,none⟩) (n1:=p.n) (n2:=p.n) (c1:=lc) (c2:=p.n) (l:=p.dur) (by omega) (by omega)
 refine eD (X:=Unit) (fun x=> [(3,vP sb 0),(4,vP ab 0),(6,vI p.n),(7,vP kb 0),(11,vP tb 0),(15,vP rb 0),(17, .slice (some ⟨cb,0,none⟩) p.n p.n),(120, .bool false)]) (fun _=>True) (fun x=> []) (fun x=> []) ?_ ?_
 ·intro K4
  refine gM [] [Bk ab (cf ⟨(some ⟨an,0,none⟩,p.n,p.n),(some ⟨dn,0,none⟩,p.n,p.n)⟩),Bk pb (bW SPrb.zero),Bk rb (ay p.cell.root),Bk sb (aB (c8 p M)),Bk tb (cy ⟨p.n,(some ⟨nb,0,none⟩,tot p.n,tot p.n)⟩),Sl ay la p.n lc p.dur,Sl ay (some ⟨dn,0,none⟩) p.n p.n p.dur,Sl aL (some ⟨M.lb,0,none⟩) p.log.length M.lc p.log] (am _) bu rfl ?_
  (repeat' ((try refine aw ?_);(conv=>arg 4;whnf);first | refine yH ?_ |(refine sN ?_;intro b)|(refine sC ?_ ?_<;>intro h)|(refine au ?_ ?_<;>intro h<;>try contradiction)|(refine aa ?_;intro g c')|((first | refine aA heq ?_ | refine aA hcl ?_);intro x hx;refine aH ?_)| refine ai ?_ | exact ax |(refine aj rfl ?_;intro D lL)| refine af ?_ ?_ | refine ah ?_ ?_ ?_ | fail));(all_goals refine av ?_)
  (conv=>arg 4;arg 5;ext C;whnf)
  refine cR ?_ (yV rfl)
  (repeat' ((try refine aw ?_);(conv=>arg 4;whnf);first | refine yH ?_ |(refine sN ?_;intro b)|(refine sC ?_ ?_<;>intro h)|(refine au ?_ ?_<;>intro h<;>try contradiction)|(refine aa ?_;intro g c')|((first | refine aA heq ?_ | refine aA hcl ?_);intro x hx;refine aH ?_)| refine ai ?_ | exact ax |(refine aj rfl ?_;intro D lL)| refine af ?_ ?_ | refine ah ?_ ?_ ?_ | fail));(all_goals refine av ?_)
  (conv=>arg 4;arg 5;ext C;whnf)
  refine cR ?_ (L7 (m:=32) True.intro (CL.len _))
  (repeat' ((try refine aw ?_);(conv=>arg 4;whnf);first | refine yH ?_ |(refine sN ?_;intro b)|(refine sC ?_ ?_<;>intro h)|(refine au ?_ ?_<;>intro h<;>try contradiction)|(refine aa ?_;intro g c')|((first | refine aA heq ?_ | refine aA hcl ?_);intro x hx;refine aH ?_)| refine ai ?_ | exact ax |(refine aj rfl ?_;intro D lL)| refine af ?_ ?_ | refine ah ?_ ?_ ?_ | fail));(all_goals refine av ?_)
  (conv=>arg 4;arg 5;ext C;whnf)
  refine cR ?_ (qK rfl)
  (repeat' ((try refine aw ?_);(conv=>arg 4;whnf);first | refine yH ?_ |(refine sN ?_;intro b)|(refine sC ?_ ?_<;>intro h)|(refine au ?_ ?_<;>intro h<;>try contradiction)|(refine aa ?_;intro g c')|((first | refine aA heq ?_ | refine aA hcl ?_);intro x hx;refine aH ?_)| refine ai ?_ | exact ax |(refine aj rfl ?_;intro D lL)| refine af ?_ ?_ | refine ah ?_ ?_ ?_ | fail));(all_goals refine av ?_)
  all_goals exact d9 () True.intro cD bu
 intro _ _
 (conv=>arg 3;simp only [List.cons_append,List.nil_append])
 (repeat' ((try refine aw ?_);(conv=>arg 4;whnf);first | refine aO ?_ |(refine sN ?_;intro b)|(refine sC ?_ ?_<;>intro h)|(refine au ?_ ?_<;>intro h<;>try contradiction)|(refine aa ?_;intro g c')| refine ai ?_ | exact ax |(refine aj rfl ?_;intro D lL)| refine af ?_ ?_ | refine ah ?_ ?_ ?_ | fail));(all_goals refine av ?_)
 refine zp [Bk rb (ay p.cell.root),Sl bY (some ⟨cb,0,none⟩) p.n p.n p.Lc,Bk tb (cy ⟨p.n,(some ⟨nb,0,none⟩,tot p.n,tot p.n)⟩),Sl aU (some ⟨nb,0,none⟩) (tot p.n) (tot p.n) (bJ p.Lc p.s),Bk sb (aB (c8 p M)),Bk ab (cf ⟨(some ⟨an,0,none⟩,p.n,p.n),(some ⟨dn,0,none⟩,p.n,p.n)⟩),Bk kb (bC p.k),Dm M.d M.I,Sl aL (some ⟨M.lb,0,none⟩) p.log.length M.lc p.log,Sl ay (some ⟨dn,0,none⟩) p.n p.n p.dur,Gs (qE ad)] bu ?_
 refine dh [] (X:=Nat) (fun i=> [(19,vI i)]) (fun i=>i≤p.n) (fun _=> []) (fun i=>p.n-i) 0 (Nat.zero_le _) rfl cD ?_
 intro i hi
 (conv=>arg 2;simp only [List.cons_append,List.nil_append])
 by_cases hlt:i<p.n
 ·have hpt:=D9 (q:=qE ad) (bi:=i) hDV hlt
  have hpt':Zp Tryz.prog 45 [vI p.n,vA (aJ M.d),vA (aL p.cell),vI i] [] [Dm M.d M.I,Gs (qE ad)] (Nat×Nat) (fun _=>True) (fun x=> .tuple #[.slice (some ⟨x.1,0,none⟩) x.2 x.2,vA (bW SPrb.zero),vI 0]) (fun _=> []) (fun x=> [Sl aU (some ⟨x.1,0,none⟩) x.2 x.2 (cK p.n p.Lc p.s i)]):=hpt
  have hmp:=z_mPr (q:=qE ad) (bi:=i) (tb:=nb) (m:=tot p.n) (c:=tot p.n) hDV hlt
  have hld:=EB (d:=M.d) (I:=M.I) (k:=p.k) (bi:=i) (q:=qE ad) h1 h2 hlt hM.ok.ok hM.sz hM.ok.size (hDV.int.ok.rc i (by rw [hll];exact hlt)) (hDV.int.dat i hlt)
  (repeat' ((try refine aw ?_);(conv=>arg 4;whnf);first | refine aO ?_ |(refine sN ?_;intro b)|(refine sC ?_ ?_<;>intro h)|(refine au ?_ ?_<;>intro h<;>try contradiction)|(refine aa ?_;intro g c')| refine ai ?_ | exact ax |(refine aj rfl ?_;intro D lL)| refine af ?_ ?_ | refine ah ?_ ?_ ?_ | fail));(all_goals refine av ?_)
  refine eD (X:=Nat×Nat) (fun x=> [(3,vP sb 0),(4,vP ab 0),(6,vI p.n),(7,vP kb 0),(11,vP tb 0),(15,vP rb 0),(17, .slice (some ⟨cb,0,none⟩) p.n p.n),(120, .bool false),(19,vI i),(20, .slice (some ⟨x.1,0,none⟩) x.2 x.2),(22,vI 0)]) (fun _=>True) (fun x=> []) (fun x=> [Sl aU (some ⟨x.1,0,none⟩) x.2 x.2 (cK p.n p.Lc p.s i)]) ?_ ?_
  ·intro K4
   refine BD [3,4,6,7,11,15,17,120,19] ?_
   (conv=>arg 4;whnf)
   exact t_ops (by kernel_rfl) (z_rcvP h1 hP.log0 (by omega) hP.last hDV hlt K4)
  rintro ⟨gb,gm⟩ _
  (conv=>arg 3;simp only [List.cons_append,List.nil_append])
  dsimp only
  refine aS 0 ?_
  intro hgm _ _ _
  subst hgm
  have hvf:=JK (pb:=gb) (c:=(cK p.n p.Lc p.s i).length) (q:=qE ad) (bi:=i) hDV hlt
  (repeat' ((try refine aw ?_);(conv=>arg 4;whnf);first | refine aO ?_ |(refine sN ?_;intro b)|(refine sC ?_ ?_<;>intro h)|(refine au ?_ ?_<;>intro h<;>try contradiction)|(refine aa ?_;intro g c')|((first | refine aA hvf ?_ | refine aA hmp ?_);intro x hx;refine aH ?_)| refine ai ?_ | exact ax |(refine aj rfl ?_;intro D lL)| refine af ?_ ?_ | refine ah ?_ ?_ ?_ | fail));(all_goals refine av ?_)
  rename_i r1
  revert b;intro q1
  refine bG r1 ?_
  refine bG q1 ?_
  revert x;intro pv
  refine eD (X:=Nat) (fun x=> [(3,vP sb 0),(4,vP ab 0),(6,vI p.n),(7,vP kb 0),(11,vP tb 0),(15,vP rb 0),(17, .slice (some ⟨cb,0,none⟩) p.n p.n),(120, .bool false),(19,vI i),(20, .slice (some ⟨gb,0,none⟩) (cK p.n p.Lc p.s i).length (cK p.n p.Lc p.s i).length),(22,vI 0),(23,vP r1 0),(24,vI 0),(25,vP q1 0),(26,vI 0),(27,vP x 0),(29,vI 0)]) (fun _=>True) (fun x=> [iB x (ay (p.dur.getD i Dig.zero)) 52]) (fun x=> []) ?_ ?_
  ·intro K4
   refine BD [3,4,6,7,11,15,17,120,19,20,22,23,24,25,26] ?_
   (conv=>arg 4;whnf)
   exact t_ops (by kernel_rfl) (z_rcvD h1 h2 hM hDV hlt K4)
  intro db _
  (conv=>arg 2;simp only [List.cons_append,List.nil_append])
  (conv=>arg 3;simp only [List.cons_append,List.nil_append])
  refine bG db ?_
  (repeat' ((try refine aw ?_);(conv=>arg 4;whnf);first | refine aO ?_ |(refine sN ?_;intro b)|(refine sC ?_ ?_<;>intro h)|(refine au ?_ ?_<;>intro h<;>try contradiction)|(refine aa ?_;intro g c')| refine ai ?_ | exact ax |(refine aj rfl ?_;intro D lL)| refine af ?_ ?_ | refine ah ?_ ?_ ?_ | fail));(all_goals refine av ?_)
  refine eD (X:=Unit) (fun x=> [(3,vP sb 0),(4,vP ab 0),(6,vI p.n),(7,vP kb 0),(11,vP tb 0),(15,vP rb 0),(17, .slice (some ⟨cb,0,none⟩) p.n p.n),(120, .bool false),(19,vI i),(195, .bool false)]) (fun _=>True) (fun x=> []) (fun x=> []) ?_ ?_
  ·intro K4
   refine gM [] [Bk db (ay (p.dur.getD i Dig.zero)),Bk r1 (bY (p.Lc.getD i Rec.zero)),Bk q1 (dy ⟨i,(pv,(cK p.n p.Lc p.s i).length,(cK p.n p.Lc p.s i).length)⟩),Bk ab (cf ⟨(some ⟨an,0,none⟩,p.n,p.n),(some ⟨dn,0,none⟩,p.n,p.n)⟩),Sl bY (some ⟨cb,0,none⟩) p.n p.n p.Lc,Sl ay (some ⟨dn,0,none⟩) p.n p.n p.dur] (am _) bu rfl ?_
   (repeat' ((try refine aw ?_);(conv=>arg 4;whnf);first | refine yH ?_ |(refine sN ?_;intro b)|(refine sC ?_ ?_<;>intro h)|(refine au ?_ ?_<;>intro h<;>try contradiction)|(refine aa ?_;intro g c')| refine ai ?_ | exact ax |(refine aj rfl ?_;intro D lL)| refine af ?_ ?_ | refine ah ?_ ?_ ?_ | fail));(all_goals refine av ?_)
   (conv=>arg 4;arg 5;ext C;whnf)
   refine cR ?_ (qK rfl)
   (repeat' ((try refine aw ?_);(conv=>arg 4;whnf);first | refine yH ?_ |(refine sN ?_;intro b)|(refine sC ?_ ?_<;>intro h)|(refine au ?_ ?_<;>intro h<;>try contradiction)|(refine aa ?_;intro g c')| refine ai ?_ | exact ax |(refine aj rfl ?_;intro D lL)| refine af ?_ ?_ | refine ah ?_ ?_ ?_ | fail));(all_goals refine av ?_)
   (conv=>arg 4;arg 5;ext C;whnf)
   refine cR ?_ (qK rfl)
   (repeat' ((try refine aw ?_);(conv=>arg 4;whnf);first | refine yH ?_ |(refine sN ?_;intro b)|(refine sC ?_ ?_<;>intro h)|(refine au ?_ ?_<;>intro h<;>try contradiction)|(refine aa ?_;intro g c')| refine ai ?_ | exact ax |(refine aj rfl ?_;intro D lL)| refine af ?_ ?_ | refine ah ?_ ?_ ?_ | fail));(all_goals refine av ?_)
   all_goals exact d9 () True.intro cD bu
  intro _ _
  (conv=>arg 3;simp only [List.cons_append,List.nil_append])
  (repeat' ((try refine aw ?_);(conv=>arg 4;whnf);first | refine aO ?_ |(refine sN ?_;intro b)|(refine sC ?_ ?_<;>intro h)|(refine au ?_ ?_<;>intro h<;>try contradiction)|(refine aa ?_;intro g c')| refine ai ?_ | exact ax |(refine aj rfl ?_;intro D lL)| refine af ?_ ?_ | refine ah ?_ ?_ ?_ | fail));(all_goals refine av ?_)
  exact jV (i+1) hlt cD (by omega) bu
 ·obtain rfl:i=p.n:=by omega
  (repeat' ((try refine aw ?_);(conv=>arg 4;whnf);first | refine aO ?_ |(refine sN ?_;intro b)|(refine sC ?_ ?_<;>intro h)|(refine au ?_ ?_<;>intro h<;>try contradiction)|(refine aa ?_;intro g c')|(refine aA LK ?_;intro x hx;refine aH ?_)| refine ai ?_ | exact ax |(refine aj rfl ?_;intro D lL)| refine af ?_ ?_ | refine ah ?_ ?_ ?_ | fail));(all_goals refine av ?_)
end
end Go.Proofs.YtbobhnldhpjdlaaGreatDoor
namespace Go.Proofs.YtbobhnldhpjdlaaGreatDoor
open Go Go.RowKit Go.Cs Go.Cz
theorem c_TopRecovered {a:Option Addr} {m c:Nat} {zs:List (UInt8×UInt8×UInt8)} (k:Nat) (W:World) (hm:Ms yF 3 0 W.heap.size W a m c zs) (h1:k<256) (hg:∃ad,HD ad W):
  Calls Tryz.prog 6 #[.agg ([.int .u8 ((k:Nat):Int), .slice a m c]:List Value).toArray] W (Ret fun v W'=>v= .bool true∧Ext W W'):=GT (fun _ _=>z_rcv) hm h1 hg
end Go.Proofs.YtbobhnldhpjdlaaGreatDoor
