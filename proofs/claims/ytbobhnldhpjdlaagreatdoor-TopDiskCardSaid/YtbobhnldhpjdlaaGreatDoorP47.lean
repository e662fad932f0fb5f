/- Lemmas and walks: what each function does, by its own code. No condition beyond those of each statement. -/
import Derived.Test.YtbobhnldhpjdlaaGreatDoorP12
import Derived.Test.YtbobhnldhpjdlaaGreatDoorP13
import Derived.Test.YtbobhnldhpjdlaaGreatDoorP17
import Derived.Test.YtbobhnldhpjdlaaGreatDoorP24
import Derived.Test.YtbobhnldhpjdlaaGreatDoorP25
import Derived.Test.YtbobhnldhpjdlaaGreatDoorP36
import Derived.Test.YtbobhnldhpjdlaaGreatDoorP43
import Derived.Test.YtbobhnldhpjdlaaGreatDoorP46
set_option linter.all false
set_option linter.unusedVariables false
namespace Go.Proofs.YtbobhnldhpjdlaaGreatDoor
open Go Go.RowKit Go.Cs Go.Cz
structure TOk (m:Nat) (T:List (List SRrv)) (B:Nat):Prop where
 len:T.length=m
 ne:∀s,s<T.length→T.getD s []≠ []
 le:∀s,(T.getD s []).length≤B
 bl:∀s,s<T.length→(ek T s).B.length≤256
theorem gk {T:List (List SRrv)} {k:Nat} {v:SRrv} {s:Nat} (h:s<T.length):ek (eP T k v T.length) s=if s=k then v else ek T s:=by
 unfold ek
 rw [lp h]
 by_cases e:s=k
 ·rw [if_pos e,if_pos e];simp
 ·rw [if_neg e,if_neg e]
theorem TOk.put {m:Nat} {T:List (List SRrv)} {B:Nat} (h:TOk m T B) {k:Nat} {v:SRrv} (hv:v.B.length≤256):TOk m (eP T k v T.length) (B+1):=by
 refine ⟨by rw [mA];exact h.len,fun s hs=> ?_,fun s=> ?_,fun s hs=> ?_⟩
 ·rw [mA] at hs
  rw [lp hs]
  split
  ·simp
  ·exact h.ne s hs
 ·by_cases hs:s<T.length
  ·rw [lp hs]
   have:=h.le s
   split
   ·simp;exact this
   ·omega
  ·have:(eP T k v T.length).getD s []= []:=by rw [List.getD_eq_getElem?_getD,List.getElem?_eq_none (by simp;omega)];rfl
   rw [this];exact Nat.zero_le _
 ·rw [mA] at hs
  rw [gk hs]
  split
  ·exact hv
  ·exact h.bl s hs
theorem TOk.mono {m:Nat} {T:List (List SRrv)} {B C:Nat} (h:TOk m T B) (hb:B≤C):TOk m T C:=⟨h.len,h.ne,fun s=>Nat.le_trans (h.le s) hb,h.bl⟩
theorem nJ {m s:Nat} (h:s<m):(List.replicate m [SRrv.zero]).getD s []= [SRrv.zero]:=by simp [List.getD_eq_getElem?_getD,h]
theorem TOk.zero (m:Nat):TOk m (List.replicate m [SRrv.zero]) 1:=by
 refine ⟨by simp,fun s hs=> ?_,fun s=> ?_,fun s hs=> ?_⟩
 ·rw [nJ (by simpa using hs)];simp
 ·by_cases h:s<m
  ·rw [nJ h];simp
  ·have:(List.replicate m [SRrv.zero]).getD s []= []:=by rw [List.getD_eq_getElem?_getD,List.getElem?_eq_none (by simp;omega)];rfl
   rw [this];exact Nat.zero_le _
 ·unfold ek;rw [nJ (by simpa using hs)];simp
def j5 (K:Key) (T:List (List SRrv)) (L:List Rec) (i:Nat):Prop:=∀j,j<i→(L.getD j Rec.zero).st=0∨∃d:Dig,ek T (2*j+((L.getD j Rec.zero).st-1))=⟨true,d.l⟩∧(L.getD j Rec.zero).tag=il K j (L.getD j Rec.zero).non d
def sP (n:Nat) (T:List (List SRrv)) (L:List Rec) (s:List Nat) (P:Nat→Nat→Prop):Prop:=∀l j,P l j→l≤hgt n→j<cnt n l→(l=hgt n∨bK L l j=false)→ek T (bas n l+2*j+s.getD (num n l+j) 0)=⟨true,aM (aK L s l j)⟩
theorem gb {α:Type} {L:List α} {r d:α} {j:Nat} (h:j<L.length):(L++ [r]).getD j d=L.getD j d:=by simp [List.getD_eq_getElem?_getD,List.getElem?_append_left h]
theorem gg {α:Type} {L:List α} {r d:α} {j:Nat} (h:j=L.length):(L++ [r]).getD j d=r:=by subst h;simp
theorem lC {L:List Rec} {r:Rec} {i:Nat} (h:∀j,j<i→bS (L.getD j Rec.zero)=0) (hL:L.length=i) (hr:bS r=0):∀j,j<i+1→bS ((L++ [r]).getD j Rec.zero)=0:=fun j hj=>by
 by_cases e:j<i
 ·rw [gb (by omega)];exact h j e
 ·rw [gg (by omega)];exact hr
theorem j5.skip {K:Key} {T:List (List SRrv)} {L:List Rec} {r:Rec} {i:Nat} (h:j5 K T L i) (hL:L.length=i) (hr:r.st=0):j5 K T (L++ [r]) (i+1):=fun j hj=>by
 by_cases e:j<i
 ·rw [gb (by omega)];exact h j e
 ·rw [gg (by omega)];exact .inl hr
theorem j5.put {K:Key} {T:List (List SRrv)} {L:List Rec} {r:Rec} {i:Nat} {d:Dig} (h:j5 K T L i) (hL:L.length=i) (hc:∀j,j<i→bS (L.getD j Rec.zero)=0) (hr:r.st≠0) (hr2:r.st≤2) (ht:r.tag=il K i r.non d) (hs:2*i+1<T.length):
  j5 K (eP T (2*i+(r.st-1)) ⟨true,d.l⟩ T.length) (L++ [r]) (i+1):=fun j hj=>by
 by_cases e:j<i
 ·rw [gb (by omega)]
  have h2:(L.getD j Rec.zero).st≤2:=by
   have:=hc j e;unfold bS at this;split at this;cases this;omega
  rcases h j e with g |⟨d',g1,g2⟩
  ·exact .inl g
  ·refine .inr ⟨d', ?_,g2⟩
   rw [gk (by omega),if_neg (by omega)];exact g1
 ·rw [gg (by omega)]
  obtain rfl:j=i:=by omega
  exact .inr ⟨d,by rw [gk (by omega),if_pos rfl],ht⟩
theorem IW {n l j l' j' t t':Nat} (hj:j<cnt n l) (hj':j'<cnt n l') (ht:t≤1) (ht':t'≤1) (h:¬(l=l'∧j=j')):bas n l+2*j+t≠bas n l'+2*j'+t':=by
 rcases Nat.lt_trichotomy l l' with g | g | g
 ·have:=AQ n (l:=l+1) (m:=l') (by omega);simp only [bas] at this;omega
 ·subst g;omega
 ·have:=AQ n (l:=l'+1) (m:=l) (by omega);simp only [bas] at this;omega
theorem sP.put {n:Nat} {T:List (List SRrv)} {L:List Rec} {s:List Nat} {P Q:Nat→Nat→Prop} {l j:Nat} (h:sP n T L s P) (hl:l≤hgt n) (hj:j<cnt n l) (hs:∀i,s.getD i 0≤1) (hT:bas n (hgt n+1)≤T.length) (hQ:∀a b,Q a b→P a b∨(a=l∧b=j)):
  sP n (eP T (bas n l+2*j+s.getD (num n l+j) 0) ⟨true,aM (aK L s l j)⟩ T.length) L s Q:=fun a b hab ha hb he=>by
 have hlt:bas n a+2*b+s.getD (num n a+b) 0<T.length:=by
  have:=AQ n (l:=a+1) (m:=hgt n+1) (by omega)
  have h2:=hs (num n a+b)
  simp only [bas] at this hT;omega
 rw [gk hlt]
 by_cases e:a=l∧b=j
 ·obtain ⟨rfl,rfl⟩:=e;rw [if_pos rfl]
 ·rw [if_neg (IW hb hj (hs _) (hs _) e)]
  rcases hQ a b hab with g | g
  ·exact h a b g ha hb he
  ·exact absurd g e
theorem j5.node {K:Key} {n:Nat} {T:List (List SRrv)} {L:List Rec} {k:Nat} {v:SRrv} (h:j5 K T L n) (hL:∀j,j<n→bS (L.getD j Rec.zero)=0) (hk:2*n≤k) (hT:2*n≤T.length):j5 K (eP T k v T.length) L n:=fun j hj=>by
 have h2:(L.getD j Rec.zero).st≤2:=by
  have:=hL j hj;unfold bS at this;split at this;cases this;omega
 rcases h j hj with g |⟨d',g1,g2⟩
 ·exact .inl g
 ·refine .inr ⟨d', ?_,g2⟩
  rw [gk (by omega),if_neg (by omega)];exact g1
structure VOk (n:Nat) (K:Key) (cell:Cel) (T:List (List SRrv)) (L:List Rec) (s:List Nat):Prop where
 h1:1≤n
 h2:n≤20
 tok:TOk (bas n (hgt n+1)) T 1000
 ll:L.length=n
 ok:OkM L s
 dat:j5 K T L n
 nds:sP n T L s (fun _ _=>True)
 root:cell.root=cq L s
 slot:cell.ep%2=s.getD (num n (hgt n)) 0
theorem mR {α:Type} {P:Nat→α→Prop} {d:α}:∀{n:Nat},(∀i,i<n→∃v,P i v)→∃l:List α,l.length=n∧∀i,i<n→P i (l.getD i d)
 | 0,_=>⟨[],rfl,fun i h=>absurd h (Nat.not_lt_zero _)⟩
 | n+1,h=>by
  obtain ⟨l,h1,h2⟩:=mR (d:=d) (n:=n) (fun i hi=>h i (by omega))
  obtain ⟨v,hv⟩:=h n (by omega)
  refine ⟨l++ [v],by simp [h1],fun i hi=> ?_⟩
  by_cases e:i<n
  ·rw [gb (by omega)];exact h2 i e
  ·rw [gg (by omega),show i=n by omega];exact hv
def eQ (T:List (List SRrv)):Con:=fun s=>if s<T.length∧(ek T s).There=true then [some (ek T s).B] else []
theorem VOk.intact {n:Nat} {K:Key} {cell:Cel} {T:List (List SRrv)} {L:List Rec} {s:List Nat} (h:VOk n K cell T L s):∃dur,Intact n K (eQ T) L s dur cell:=by
 have hlen:=h.tok.len
 have htop:∀k b,k<T.length→ek T k=⟨true,b⟩→(eQ T).top k=some b:=fun k b hk e=>by
  unfold Con.top eQ
  rw [if_pos ⟨hk,by rw [e]⟩,e];rfl
 obtain ⟨dur,d1,d2⟩:=mR (P:=fun i v=>Hold K (eQ T) i (L.getD i Rec.zero) v) (d:=Dig.zero) (n:=n) (fun i hi=>by
  have h2:(L.getD i Rec.zero).st≤2:=by
   have:=h.ok.rc i (by rw [h.ll];exact hi);unfold bS at this;split at this;cases this;omega
  rcases h.dat i hi with g |⟨d,g1,g2⟩
  ·exact ⟨Dig.zero, .inl ⟨g,rfl⟩⟩
  ·by_cases g:(L.getD i Rec.zero).st=0
   ·exact ⟨Dig.zero, .inl ⟨g,rfl⟩⟩
   ·refine ⟨cJ K (L.getD i Rec.zero).non d, .inr ⟨g, ?_, ?_⟩⟩
    ·rw [n7]
     refine htop _ _ ?_ g1
     have:=pY n (hgt n+1)
     omega
    ·rw [n7];exact g2)
 refine ⟨dur,h.ll,h.ok,d1,fun l j hl hj he=> ?_,d2,h.root,h.slot⟩
 refine htop _ _ ?_ (h.nds l j True.intro hl hj he)
 have:=AQ n (l:=l+1) (m:=hgt n+1) (by omega)
 have h3:=h.ok.sl (num n l+j)
 simp only [bas] at this hlen
 omega
end Go.Proofs.YtbobhnldhpjdlaaGreatDoor
namespace Go.Proofs.YtbobhnldhpjdlaaGreatDoor
open Go Go.RowKit Go.Cs Go.Cz
set_option maxRecDepth 100000
set_option maxHeartbeats 4000000
instance {x:Key} {y:B16}:Ub (bC x) 0 (dE y) (bC ⟨y,x.mac⟩) True:=⟨fun _=>⟨[],dE x.enc,ay x.mac,by simp [bC],rfl,by simp,by simp [bC]⟩⟩
instance {x:Key} {y:Dig}:Ub (bC x) 16 (ay y) (bC ⟨x.enc,y⟩) True:=⟨fun _=>⟨dE x.enc,ay x.mac, [],by simp [bC],by simp,by simp,by simp [bC]⟩⟩
theorem yJ {V:SLvl}:Zp Tryz.prog 29 [vA (an V)] [] [] Unit (fun _=>True) (fun _=>vA (bC ⟨V.Enc,V.Mac⟩)) (fun _=> []) (fun _=> []):=by
 obtain ⟨n,e,m,r,cl,⟨b1,b2,b3⟩,⟨r1,r2,rr3⟩,⟨s1,s2,s3⟩⟩:=V
 refine ak fun G=> ?_
 (repeat' ((try refine aw ?_);(conv=>arg 4;whnf);first | refine aO ?_ |(refine sN ?_;intro b)| exact ax | fail));(all_goals refine av ?_)
theorem MV {P:Program} {G:Gc} {O:List It} {F:List Pt} {C:Value→Pt} {S T E m:TypeId} {l:List UInt8} [hs:Su P S] [hd:Ix P T E m none] [he:Ik P E .u8] (hl:l.length≤65536) (k:∀b c,l.length≤c→Tr G O (Sl cB (some ⟨b,0,none⟩) l.length c l::F) (C (.slice (some ⟨b,0,none⟩) l.length c))):Tr G O F (Rv P (.cvt S T (jc l)) C):=
 MG (s:=⟨l.toArray⟩) (fun b c hc=>k b c hc) (fun w=>⟨by have:=grownCap_le_maxLen w l.length 0 E (Nat.le_trans hl (by decide));exact this,grownCap_ge w l.length 0 E⟩)
def lE (T:List (List SRrv)) (i:Nat):Con:=fun s=>if s<i∧s<T.length∧(ek T s).There=true then [some (ek T s).B] else []
theorem yM (T:List (List SRrv)):lE T T.length=eQ T:=by
 funext s;unfold lE eQ
 by_cases h:s<T.length
 ·simp [h]
 ·simp [h]
theorem Ej {T:List (List SRrv)} {i:Nat} (h:¬(ek T i).There=true):lE T (i+1)=lE T i:=by
 funext s;unfold lE
 by_cases e:s=i
 ·subst e;simp [h]
 ·exact ite_congr (propext ⟨fun g=>⟨by omega,g.2⟩,fun g=>⟨by omega,g.2⟩⟩) (fun _=>rfl) (fun _=>rfl)
theorem Eo {T:List (List SRrv)} {i:Nat} (hi:i<T.length) (h:(ek T i).There=true):lE T (i+1)=(lE T i).put i (some (ek T i).B):=by
 funext s;unfold lE Con.put
 by_cases e:s=i
 ·subst e;simp [h,hi]
 ·rw [if_neg e];exact ite_congr (propext ⟨fun g=>⟨by omega,g.2⟩,fun g=>⟨by omega,g.2⟩⟩) (fun _=>rfl) (fun _=>rfl)
theorem gz {d:SDsk} {I:DI} {sz B C:Nat} {con:Con} (h:DOk d I sz B con) (hb:B≤C):DOk d I sz C con:=⟨h.ok,h.size,h.cn,Nat.le_trans h.chg hb,fun i=>Nat.le_trans (h.vl i) hb,h.bl⟩
theorem J2 {V:SLvl} {S:List Sv} {T:List (List SRrv)} {m:Nat} (hT:TOk m T 1000) (h1:1≤m) (h2:m≤10922):Zp Tryz.prog 23 [vA (an V)] [] [Sl cS V.Ref.L.1 V.Ref.L.2.1 V.Ref.L.2.2 S,iw S T] (SDsk×DI) (fun x=>DOk x.1 x.2 m m (eQ T)∧x.1.size=m) (fun x=>vA (aJ x.1)) (fun _=> []) (fun x=> [Dm x.1 x.2]):=by
 obtain ⟨n,e,mcc,⟨ra1,rn1,rc1⟩,cl,⟨b1,b2,b3⟩,⟨r1,r2,rr3⟩,⟨s1,s2,s3⟩⟩:=V
 dsimp only
 have hTl:=hT.len
 refine ak fun G=> ?_
 refine f5 (p:=S.length=T.length) (fun w _ h=>(h (iw S T) (by simp)).1) fun hST=> ?_
 refine aS 0 ?_
 intro hsn hsc hsm hsa
 rw [hST,hTl] at hsn
 have hsn2:=hsn.symm
 subst hsn2
 (repeat' ((try refine aw ?_);(conv=>arg 4;whnf);first | refine aO ?_ |(refine sN ?_;intro b)|(refine cw (IE (n:=m) h1 h2) ?_;intro x hx;refine bV ?_)| fail));(all_goals refine av ?_)
 obtain ⟨cb,xb⟩:=x
 dsimp only
 rename_i vbk rbk
 refine bG vbk ?_
 revert b;intro tbk
 have hD0:=Ck (n:=m) (cb:=cb) (x:=xb) h1 h2
 refine w6 [tbk] (X:=Nat×SDsk×DI) (fun x=> [(5,vI x.1)]) (fun x=>x.1≤m∧DOk x.2.1 x.2.2 m x.1 (lE T x.1)∧x.2.1.size=m) (fun x=> [iB tbk (aJ x.2.1) 36]) (fun x=> [Dm x.2.1 x.2.2]) (fun x=>m-x.1) (0,⟨m,0,(some ⟨xb,0,none⟩,(m+63)/64,(m+63)/64)⟩,qn m cb) ⟨Nat.zero_le _,by
  have e0:lE T 0=fun _=> []:=by funext s;unfold lE;rw [if_neg (by omega)]
  rw [e0];exact hD0,rfl⟩ rfl cD bu ?_
 rintro ⟨i,⟨dzz,dg,daa,dn,dc⟩,I⟩ ⟨hi,hD,hds⟩
 (conv=>arg 3;simp only [List.cons_append,List.nil_append])
 (conv=>arg 2;simp only [List.cons_append,List.nil_append])
 dsimp only at hi hD hds⊢
 by_cases hlt:i<m
 ·have hL:=Mg (s:=(ra1,m,rc1)) (S:=S) (T:=T) (i:=i) (by omega) (hT.ne i (by omega))
  dsimp only at hL
  have hbl:=hT.bl i (by omega)
  by_cases hth:(ek T i).There=true
  ·(repeat' ((try refine aw ?_);(conv=>arg 4;whnf);first | refine aO ?_ |(refine sN ?_;intro b)|(refine aA hL ?_;intro x hx;refine aH ?_)| fail));(all_goals refine av ?_)
   rw [hth]
   (repeat' ((try refine aw ?_);(conv=>arg 4;whnf);first | refine aO ?_ |(refine sN ?_;intro b)| fail));(all_goals refine av ?_)
   refine MV (Nat.le_trans hbl (by decide)) ?_
   intro sbk sc0 hsc0
   have hvl:(I.vs.getD i []).length≤1099511627776:=by rw [←DI.con_len,hD.cn];exact Nat.le_trans (hD.vl i) (by omega)
   have hwr:=uJ (d:=⟨dzz,dg,(daa,dn,dc)⟩) (I:=I) (s:=i) (a:=some ⟨sbk,0,none⟩) (n:=(ek T i).B.length) (c:=sc0) (l:=(ek T i).B) hD.ok (by rw [hD.size];exact hlt) (Nat.le_trans hD.chg (by omega)) hvl hbl
   (repeat' ((try refine aw ?_);(conv=>arg 4;whnf);first | refine aO ?_ |(refine sN ?_;intro b)|(refine cw hwr ?_;intro x hx;refine bV ?_)| fail));(all_goals refine av ?_)
   obtain ⟨d',nb,v1,v2⟩:=x
   dsimp only at hx⊢
   have hD2:=hD.put (d':=d') (v:=⟨v1,v2,true,(ek T i).B⟩) (nb:=nb) hlt hx.2 (fun _=>hbl)
   rw [if_pos (show (⟨v1,v2,true,(ek T i).B⟩:VN).th=true from rfl),←Eo (by omega) hth] at hD2
   exact eU (i+1,d',I.put i nb ⟨v1,v2,true,(ek T i).B⟩) ⟨hlt,hD2,hx.1.trans hds⟩ cD (by dsimp only;omega) bu
  ·(repeat' ((try refine aw ?_);(conv=>arg 4;whnf);first | refine aO ?_ |(refine sN ?_;intro b)|(refine aA hL ?_;intro x hx;refine aH ?_)| fail));(all_goals refine av ?_)
   rw [show (ek T i).There=false by simpa using hth]
   (repeat' ((try refine aw ?_);(conv=>arg 4;whnf);first | refine aO ?_ |(refine sN ?_;intro b)| fail));(all_goals refine av ?_)
   exact eU (i+1,⟨dzz,dg,(daa,dn,dc)⟩,I) ⟨hlt,by dsimp only;rw [Ej hth];exact gz hD (by omega),hds⟩ cD (by dsimp only;omega) bu
 ·obtain rfl:i=m:=by omega
  (repeat' ((try refine aw ?_);(conv=>arg 4;whnf);first | refine aO ?_ |(refine sN ?_;intro b)| fail));(all_goals refine av ?_)
  exact aD ((⟨dzz,dg,daa,dn,dc⟩,I):SDsk×DI) ⟨by rw [←hTl] at hD⊢;rw [←yM];exact hD,hds⟩ rfl (am _) bu
end Go.Proofs.YtbobhnldhpjdlaaGreatDoor
