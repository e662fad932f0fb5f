/- Lemmas and walks: what each function does, by its own code. No condition beyond those of each statement. -/
import Derived.Test.YtbobhnldhpjdlaaGreatDoorP12
import Derived.Test.YtbobhnldhpjdlaaGreatDoorP25
import Derived.Test.YtbobhnldhpjdlaaGreatDoorP26
import Derived.Test.YtbobhnldhpjdlaaGreatDoorP44
import Derived.Test.YtbobhnldhpjdlaaGreatDoorP47
import Derived.Test.YtbobhnldhpjdlaaGreatDoorP48
import Derived.Test.YtbobhnldhpjdlaaGreatDoorP49
set_option linter.all false
set_option linter.unusedVariables false
namespace Go.Proofs.YtbobhnldhpjdlaaGreatDoor
open Go Go.RowKit Go.Cs Go.Cz
set_option maxRecDepth 100000
set_option maxHeartbeats 4000000
instance:Inhabited SPrb:=⟨SPrb.zero⟩
def GO (m:Nat) (c d:Con):Prop:=(∀s,∃p,d s=p++c s)∧∀s,m≤s→d s=c s
theorem GO.refl (m:Nat) (c:Con):GO m c c:=⟨fun s=>⟨[],rfl⟩,fun s _=>rfl⟩
theorem GO.put {m:Nat} {c d:Con} {s:Nat} {b:Option (List UInt8)} (h:GO m c d) (hs:s<m):GO m c (d.put s b):=by
 refine ⟨fun i=> ?_,fun i hi=> ?_⟩
 ·obtain ⟨p,hp⟩:=h.1 i
  unfold Con.put
  by_cases e:i=s
  ·rw [if_pos e];exact ⟨b::p,by rw [hp];rfl⟩
  ·rw [if_neg e];exact ⟨p,hp⟩
 ·rw [Con.put_ne _ (by omega)];exact h.2 i hi
def Nv (LEs:List SLve) (BLs:List (List UInt8)):Pt:=fun w=>∀i,i<LEs.length→Sl cB (LEs.getD i default).Bytes.1 (LEs.getD i default).Bytes.2.1 (LEs.getD i default).Bytes.2.2 (BLs.getD i []) w
def rgK (k:Nat):Code→Option (Array Oper)
 | .region i ops _=>if i=k then some ops else none
 | .seq a b=>(rgK k a).or (rgK k b)
 | .cond _ a b=>(rgK k a).or (rgK k b)
 | .block _ c=>rgK k c
 | .loop c=>rgK k c
 | .scope c=>rgK k c
 | _=>none
def oPs (f:Func) (k:Nat):Array Oper:=(f.body.bind (rgK k)).getD #[]
theorem tOp {P:Program} {ro:Option Nat} {n id:Nat} {ops ops':Array Oper} {ds:List Deferred} {σ:Fm} {K:Kt} {G:Gc} {O:List It} {F:List Pt} (e:ops=ops') (h:Tr G O F (Dw P ro n id ops' ds σ K)):Tr G O F (Dw P ro n id ops ds σ K):=by subst e;exact h
section
variable {G:Gc} {N m vbx dbx ybx zbx lln llc rfc vb2 vb3 vr2 vr3 vs2 vs3 l1c s1c:Nat} {Enc:B16} {Mac:Dig} {cell:Cel} {lla rfa vb1 vr1 vs1 l1a s1a:Option Addr} {y z d:SDsk} {J Z I:DI} {LEs:List SLve} {BLs:List (List UInt8)} {q:Value×Value}
theorem ZX1 (hLz:Zp Tryz.prog 28 [vI N,vA (aJ z),vA (aL cell),vA (bC ⟨Enc,Mac⟩)] [] [Dm z Z,Gs q] Sv (fun x=>x.2.1=0) (fun x=> .tuple #[.slice x.1 x.2.1 x.2.2,vI 0]) (fun _=> []) (fun _=> [])) (KKa:Kt):Tr G [] [Bk zbx (aJ z),Dm z Z,Bk ybx (aJ y),Dm y J,Bk dbx (aJ d),Bk vbx (an ⟨N,Enc,Mac,⟨(rfa,m,rfc)⟩,cell,(vb1,vb2,vb3),(vr1,vr2,vr3),(vs1,vs2,vs3)⟩),Dm d I,Sl aq lla lln llc LEs,Nv LEs BLs,Gs q] (Dw Tryz.prog none 201 25 (oPs Tryz.f4 25) [] [(5,vP vbx 0),(6,vP dbx 0),(7,vP ybx 0),(12,vP zbx 0)] (Go.Cz.LE (fun x:Sv=> [(5,vP vbx 0),(6,vP dbx 0),(7,vP ybx 0),(12,vP zbx 0),(18, .slice x.1 x.2.1 x.2.2),(19,vI 0)]) (fun x=>x.2.1=0) (fun _=> []) (fun _=> []) G [Bk zbx (aJ z),Dm z Z,Bk ybx (aJ y),Dm y J,Bk dbx (aJ d),Bk vbx (an ⟨N,Enc,Mac,⟨(rfa,m,rfc)⟩,cell,(vb1,vb2,vb3),(vr1,vr2,vr3),(vs1,vs2,vs3)⟩),Dm d I,Sl aq lla lln llc LEs,Nv LEs BLs,Gs q] [] KKa)):=by
 (conv=>arg 4;arg 5;whnf)
 refine gM [] [Bk vbx (an ⟨N,Enc,Mac,⟨(rfa,m,rfc)⟩,cell,(vb1,vb2,vb3),(vr1,vr2,vr3),(vs1,vs2,vs3)⟩),Bk zbx (aJ z)] (am _) bu rfl ?_
 (repeat' ((try refine aw ?_);(conv=>arg 4;whnf);first | refine yH ?_ |(refine sN ?_;intro b)|(refine au ?_ ?_<;>intro h<;>try contradiction)|((first | refine aA yJ ?_ | refine aA hLz ?_);intro x hx;refine aH ?_)| exact ax | refine af ?_ ?_ | fail));(all_goals refine av ?_)
 all_goals exact d9 x hx (am _) bu
theorem ZX2 (hSy:Zp Tryz.prog 30 [vI N,vA (aJ y),vA (aL cell),vA (bC ⟨Enc,Mac⟩)] [] [Dm y J,Gs q] Sv (fun x=>x.2.1=N) (fun x=> .tuple #[.slice x.1 x.2.1 x.2.2,vI 0]) (fun _=> []) (fun x=> [Sl bW x.1 x.2.1 x.2.2 (gU N J.pv cell ⟨Enc,Mac⟩ N)])) (KKa:Kt):Tr G [] [Bk zbx (aJ z),Dm z Z,Bk ybx (aJ y),Dm y J,Bk dbx (aJ d),Bk vbx (an ⟨N,Enc,Mac,⟨(rfa,m,rfc)⟩,cell,(vb1,vb2,vb3),(vr1,vr2,vr3),(vs1,vs2,vs3)⟩),Dm d I,Sl aq lla lln llc LEs,Nv LEs BLs,Gs q] (Dw Tryz.prog none 201 26 (oPs Tryz.f4 26) [] [(5,vP vbx 0),(6,vP dbx 0),(7,vP ybx 0),(12,vP zbx 0),(18, .slice l1a 0 l1c),(19,vI 0)] (Go.Cz.LE (fun x:Sv=> [(5,vP vbx 0),(6,vP dbx 0),(7,vP ybx 0),(12,vP zbx 0),(18, .slice l1a 0 l1c),(19,vI 0),(20, .slice x.1 x.2.1 x.2.2),(21,vI 0)]) (fun x=>x.2.1=N) (fun _=> []) (fun x=> [Sl bW x.1 x.2.1 x.2.2 (gU N J.pv cell ⟨Enc,Mac⟩ N)]) G [Bk zbx (aJ z),Dm z Z,Bk ybx (aJ y),Dm y J,Bk dbx (aJ d),Bk vbx (an ⟨N,Enc,Mac,⟨(rfa,m,rfc)⟩,cell,(vb1,vb2,vb3),(vr1,vr2,vr3),(vs1,vs2,vs3)⟩),Dm d I,Sl aq lla lln llc LEs,Nv LEs BLs,Gs q] [] KKa)):=by
 (conv=>arg 4;arg 5;whnf)
 refine gM [] [Bk vbx (an ⟨N,Enc,Mac,⟨(rfa,m,rfc)⟩,cell,(vb1,vb2,vb3),(vr1,vr2,vr3),(vs1,vs2,vs3)⟩),Bk ybx (aJ y)] (am _) bu rfl ?_
 (repeat' ((try refine aw ?_);(conv=>arg 4;whnf);first | refine yH ?_ |(refine sN ?_;intro b)|(refine au ?_ ?_<;>intro h<;>try contradiction)|(refine aA yJ ?_;intro x hx;refine aH ?_)|(refine cw hSy ?_;intro x hx;refine bV ?_)| exact ax | refine af ?_ ?_ | fail));(all_goals refine av ?_)
 all_goals exact d9 x hx (am _) bu
theorem ZX3 (hLy:Zp Tryz.prog 28 [vI N,vA (aJ y),vA (aL cell),vA (bC ⟨Enc,Mac⟩)] [] [Dm y J,Gs q] Sv (fun x=>x.2.1=(ew N J.pv cell ⟨Enc,Mac⟩ N).length) (fun x=> .tuple #[.slice x.1 x.2.1 x.2.2,vI 0]) (fun _=> []) (fun _=> [])) (KKa:Kt):Tr G [] [Sl bW s1a N s1c (gU N J.pv cell ⟨Enc,Mac⟩ N),Bk zbx (aJ z),Dm z Z,Bk ybx (aJ y),Dm y J,Bk dbx (aJ d),Bk vbx (an ⟨N,Enc,Mac,⟨(rfa,m,rfc)⟩,cell,(vb1,vb2,vb3),(vr1,vr2,vr3),(vs1,vs2,vs3)⟩),Dm d I,Sl aq lla lln llc LEs,Nv LEs BLs,Gs q] (Dw Tryz.prog none 201 27 (oPs Tryz.f4 27) [] [(5,vP vbx 0),(6,vP dbx 0),(7,vP ybx 0),(12,vP zbx 0),(18, .slice l1a 0 l1c),(19,vI 0),(20, .slice s1a N s1c),(21,vI 0)] (Go.Cz.LE (fun x:Sv=> [(5,vP vbx 0),(6,vP dbx 0),(7,vP ybx 0),(12,vP zbx 0),(18, .slice l1a 0 l1c),(19,vI 0),(20, .slice s1a N s1c),(21,vI 0),(22, .slice x.1 x.2.1 x.2.2),(23,vI 0)]) (fun x=>x.2.1=(ew N J.pv cell ⟨Enc,Mac⟩ N).length) (fun _=> []) (fun _=> []) G [Sl bW s1a N s1c (gU N J.pv cell ⟨Enc,Mac⟩ N),Bk zbx (aJ z),Dm z Z,Bk ybx (aJ y),Dm y J,Bk dbx (aJ d),Bk vbx (an ⟨N,Enc,Mac,⟨(rfa,m,rfc)⟩,cell,(vb1,vb2,vb3),(vr1,vr2,vr3),(vs1,vs2,vs3)⟩),Dm d I,Sl aq lla lln llc LEs,Nv LEs BLs,Gs q] [] KKa)):=by
 (conv=>arg 4;arg 5;whnf)
 refine gM [] [Bk vbx (an ⟨N,Enc,Mac,⟨(rfa,m,rfc)⟩,cell,(vb1,vb2,vb3),(vr1,vr2,vr3),(vs1,vs2,vs3)⟩),Bk ybx (aJ y)] (am _) bu rfl ?_
 (repeat' ((try refine aw ?_);(conv=>arg 4;whnf);first | refine yH ?_ |(refine sN ?_;intro b)|(refine au ?_ ?_<;>intro h<;>try contradiction)|((first | refine aA yJ ?_ | refine aA hLy ?_);intro x hx;refine aH ?_)| exact ax | refine af ?_ ?_ | fail));(all_goals refine av ?_)
 all_goals exact d9 x hx (am _) bu
end
section
variable {Bn:Nat} {pra sra lla:Option Addr} {prn prc srn src lln llc:Nat} {E M:UInt8} {PL:List (UInt8×UInt8)} {SL:List UInt8} {LEs:List SLve} {BLs:List (List UInt8)} {q:Value×Value}
theorem LB (hB:Bn<256) (hLE:∀i,i<LEs.length→(LEs.getD i default).Kind<256∧(LEs.getD i default).Sector<65536):Zp Tryz.prog 4 [vA (ap ⟨Bn,(pra,prn,prc),(sra,srn,src),E.toNat,M.toNat⟩), .slice lla lln llc] [] [Sl Hk pra prn prc PL,Sl cB sra srn src SL,Sl aq lla lln llc LEs,Nv LEs BLs,Gs q] Unit (fun _=>True) (fun _=> .bool true) (fun _=> []) (fun _=> []):=by
 have hOf:=LF (pra:=pra) (prn:=prn) (prc:=prc) (sra:=sra) (srn:=srn) (src:=src) (E:=E) (M:=M) (PL:=PL) (SL:=SL) hB
 refine ak fun G=> ?_
 refine aS 2 ?_
 intro hln hlc hlm hla
 (repeat' ((try refine aw ?_);(conv=>arg 4;whnf);first | refine aO ?_ |(refine sN ?_;intro b)|(refine au ?_ ?_<;>intro h<;>try contradiction)|(refine cw hOf ?_;intro x hx;refine bV ?_)| exact ax | refine af ?_ ?_ | fail));(all_goals refine av ?_)
 rename_i abx
 revert b;intro vbx
 obtain ⟨⟨N,Enc,Mac,⟨⟨rfa,rfn,rfc⟩⟩,cell,⟨vb1,vb2,vb3⟩,⟨vr1,vr2,vr3⟩,⟨vs1,vs2,vs3⟩⟩,S,T,L,s⟩:=x
 dsimp only at hx⊢
 have h1:=hx.h1
 have h2:=hx.h2
 have h5:=a8 N
 have hTl:=hx.tok.len
 have hbm:bas N (hgt N+1)≤2*N+2*N*(hgt N+1):=vK N (hgt N+1)
 have hbm2:2*N*(hgt N+1)≤40*7:=Nat.mul_le_mul (by omega) (by omega)
 have hbg:=pY N (hgt N+1)
 obtain ⟨m,hm⟩:∃m,m=bas N (hgt N+1):=⟨_,rfl⟩
 have hm1:1≤m:=by omega
 have hm2:m≤320:=by omega
 have hDk:=J2 (V:=⟨N,Enc,Mac,⟨(rfa,rfn,rfc)⟩,cell,(vb1,vb2,vb3),(vr1,vr2,vr3),(vs1,vs2,vs3)⟩) (S:=S) (T:=T) (m:=m) (by rw [hm];exact hx.tok) hm1 (by omega)
 dsimp only at hDk
 refine f5 (p:=S.length=T.length) (fun w _ h=>(h (iw S T) (by simp)).1) fun hST=> ?_
 refine aS 0 ?_
 intro hrn hrnc hrnm hrna
 have hrm:=(hrn.trans hST).trans (hTl.trans hm.symm)
 have hrm2:=hrm.symm
 subst hrm2
 (repeat' ((try refine aw ?_);(conv=>arg 4;whnf);first | refine aO ?_ |(refine sN ?_;intro b)|(refine au ?_ ?_<;>intro h<;>try contradiction)|(refine cw hDk ?_;intro x hx;refine bV ?_)| exact ax | refine af ?_ ?_ | fail));(all_goals refine av ?_)
 rename_i hvo dbx
 revert b;intro ybx
 obtain ⟨d,I⟩:=x
 obtain ⟨hD,hds⟩:=hx
 dsimp only at hD hds⊢
 refine bG vbx ?_
 refine bG dbx ?_
 refine Ih [Bk dbx (aJ d),Bk vbx (an ⟨N,Enc,Mac,⟨(rfa,m,rfc)⟩,cell,(vb1,vb2,vb3),(vr1,vr2,vr3),(vs1,vs2,vs3)⟩),Dm d I,Sl aq lla lln llc LEs,Nv LEs BLs,Gs q] (by simp) ?_
 refine sV [1,5,6,7,8] ?_
 (conv=>arg 4;whnf)
 refine xw 0 (X:=SDsk×DI×Con) (fun _=> [(5,vP vbx 0),(6,vP dbx 0),(7,vP ybx 0)]) (fun x=>DOk x.1 x.2.1 m (m+8) x.2.2∧x.1.size=m∧GO m (eQ T) x.2.2) (fun x=> [iB ybx (aJ x.1) 36]) (fun x=> [Dm x.1 x.2.1]) ?_ ?_
 ·intro KK1
  refine w6 [ybx] (X:=Nat×SDsk×DI×Con) (fun x=> [(8,vI x.1)]) (fun x=>x.1≤8∧x.1≤LEs.length∧DOk x.2.1 x.2.2.1 m (m+x.1) x.2.2.2∧x.2.1.size=m∧GO m (eQ T) x.2.2.2) (fun x=> [iB ybx (aJ x.2.1) 36]) (fun x=> [Dm x.2.1 x.2.2.1]) (fun x=>8-x.1) (0,d,I,eQ T) ⟨Nat.zero_le _,Nat.zero_le _,hD,hds,GO.refl _ _⟩ rfl cD bu ?_
  rintro ⟨i,y,J,cYy⟩ ⟨hi8,hiL,hY,hys,hGe⟩
  (conv=>arg 3;simp only [List.cons_append,List.nil_append])
  (conv=>arg 2;simp only [List.cons_append,List.nil_append])
  dsimp only at hi8 hiL hY hys hGe⊢
  by_cases hlt:i<LEs.length
  ·by_cases hl8:i<8
   ·obtain ⟨lb,lo,rfl⟩:=hla (by omega) (by decide)
    obtain ⟨hk1,hk2⟩:=hLE i hlt
    refine aR (Sl cB (LEs.getD i default).Bytes.1 (LEs.getD i default).Bytes.2.1 (LEs.getD i default).Bytes.2.2 (BLs.getD i [])) (fun w _ h=>(h (Nv LEs BLs) (by simp)) i hlt) ?_
    have hsm:(LEs.getD i default).Sector%m<m:=Nat.mod_lt _ (by omega)
    have hvl:(J.vs.getD ((LEs.getD i default).Sector%m) []).length≤1099511627776:=by rw [←DI.con_len,hY.cn];exact Nat.le_trans (hY.vl _) (by omega)
    have hsz:(LEs.getD i default).Sector%m<J.size:=by rw [hY.size];exact hsm
    have hch:y.changes≤1099511627776:=Nat.le_trans hY.chg (by omega)
    obtain ⟨k,hk⟩:∃k,k=(LEs.getD i default).Sector%m:=⟨_,rfl⟩
    rw [←hk] at hsm hvl hsz
    have her:=Mz (d:=y) (I:=J) (s:=k) hY.ok hsz hch hvl
    by_cases hlen:(BLs.getD i []).length≤256
    ·have hwr:=fun a n c=>uJ (d:=y) (I:=J) (s:=k) (a:=a) (n:=n) (c:=c) (l:=BLs.getD i []) hY.ok hsz hch hvl hlen
     by_cases hev:(LEs.getD i default).Kind%2=0
     ·skip
      (repeat' ((try refine aw ?_);(conv=>arg 4;whnf);first | refine aO ?_ |(refine sN ?_;intro b)|(refine au ?_ ?_<;>intro h<;>try contradiction)| exact ax | refine af ?_ ?_ | fail));(all_goals refine av ?_)
      (first | refine bF rfl rfl ?_ | fail)
      (repeat' ((try refine aw ?_);(conv=>arg 4;whnf);first | refine aO ?_ |(refine sN ?_;intro b)|(refine au ?_ ?_<;>intro h<;>try contradiction)| exact ax | refine af ?_ ?_ | fail));(all_goals refine av ?_)
      rw [←hk]
      refine eD (X:=Nat×SDsk×Nat) (fun x=> [(1, .slice (some ⟨lb,lo,none⟩) lln llc),(5,vP vbx 0),(6,vP dbx 0),(7,vP ybx 0),(8,vI i),(9,vI k),(10,vP x.1 0),(11,vI (x.2.2))]) (fun x=>True) (fun x=> [iB ybx (aJ y) 36,iB x.1 (aJ x.2.1) 36,iB abx (ap ⟨Bn,(pra,prn,prc),(sra,srn,src),E.toNat,M.toNat⟩) 74]) (fun x=> []) ?_ ?_
      ·intro KK2
       refine gM [iB ybx (aJ y) 36] [Sl aq (some ⟨lb,lo,none⟩) lln llc LEs] cD bu rfl ?_
       (repeat' ((try refine aw ?_);(conv=>arg 4;whnf);first | refine yH ?_ |(refine sN ?_;intro b)|(refine au ?_ ?_<;>intro h<;>try contradiction)|(refine cw (hwr _ _ _) ?_;intro x hx;refine bV ?_)| exact ax | refine af ?_ ?_ | fail));(all_goals refine av ?_)
       all_goals exact d9 (b,x.1,0) True.intro cD bu
      ·rintro ⟨nbx,yww,err⟩ _
       dsimp only
       (conv=>arg 3;simp only [List.cons_append,List.nil_append])
       (repeat' ((try refine aw ?_);(conv=>arg 4;whnf);first | refine aO ?_ |(refine sN ?_;intro b)|(refine au ?_ ?_<;>intro h<;>try contradiction)|(refine cw her ?_;intro x hx;refine bV ?_)| exact ax | refine af ?_ ?_ | fail));(all_goals refine av ?_)
       obtain ⟨d',nb,v1⟩:=x
       dsimp only at hx⊢
       have hY2:=hY.put (d':=d') (v:=⟨v1,(none,0,0),false, []⟩) (nb:=nb) hsm hx.2 (fun h=>by cases h)
       exact eU (i+1,d',J.put k nb ⟨v1,(none,0,0),false, []⟩,cYy.put k none) ⟨hl8,hlt,hY2,hx.1.trans hys,hGe.put hsm⟩ cD (by dsimp only;omega) bu
     ·skip
      (repeat' ((try refine aw ?_);(conv=>arg 4;whnf);first | refine aO ?_ |(refine sN ?_;intro b)|(refine au ?_ ?_<;>intro h<;>try contradiction)| exact ax | refine af ?_ ?_ | fail));(all_goals refine av ?_)
      (first | refine bF rfl rfl ?_ | fail)
      (repeat' ((try refine aw ?_);(conv=>arg 4;whnf);first | refine aO ?_ |(refine sN ?_;intro b)|(refine au ?_ ?_<;>intro h<;>try contradiction)| exact ax | refine af ?_ ?_ | fail));(all_goals refine av ?_)
      rw [←hk]
      refine eD (X:=Nat×SDsk×Nat×Nat×Sv) (fun x=> [(1, .slice (some ⟨lb,lo,none⟩) lln llc),(5,vP vbx 0),(6,vP dbx 0),(7,vP ybx 0),(8,vI i),(9,vI k),(10,vP x.1 0),(11,vI (0))]) (fun x=>x.2.1.size=y.size∧x.2.1.changes=y.changes+1) (fun x=> [iB ybx (aJ y) 36,iB x.1 (aJ x.2.1) 36,iB abx (ap ⟨Bn,(pra,prn,prc),(sra,srn,src),E.toNat,M.toNat⟩) 74]) (fun x=> [Dm x.2.1 (J.put k x.2.2.1 ⟨x.2.2.2.1,x.2.2.2.2,true,BLs.getD i []⟩)]) ?_ ?_
      ·intro KK2
       refine gM [iB ybx (aJ y) 36] [Sl aq (some ⟨lb,lo,none⟩) lln llc LEs] cD bu rfl ?_
       (repeat' ((try refine aw ?_);(conv=>arg 4;whnf);first | refine yH ?_ |(refine sN ?_;intro b)|(refine au ?_ ?_<;>intro h<;>try contradiction)|(refine cw (hwr _ _ _) ?_;intro x hx;refine bV ?_)| exact ax | refine af ?_ ?_ | fail));(all_goals refine av ?_)
       all_goals exact d9 (b,x) hx cD bu
      ·rintro ⟨nbx,d',nb,v1,v2⟩ hx
       dsimp only at hx⊢
       (conv=>arg 3;simp only [List.cons_append,List.nil_append])
       (repeat' ((try refine aw ?_);(conv=>arg 4;whnf);first | refine aO ?_ |(refine sN ?_;intro b)|(refine au ?_ ?_<;>intro h<;>try contradiction)| exact ax | refine af ?_ ?_ | fail));(all_goals refine av ?_)
       have hY2:=hY.put (d':=d') (v:=⟨v1,v2,true,BLs.getD i []⟩) (nb:=nb) hsm hx.2 (fun _=>hlen)
       exact eU (i+1,d',J.put k nb ⟨v1,v2,true,BLs.getD i []⟩,cYy.put k (some (BLs.getD i []))) ⟨hl8,hlt,hY2,hx.1.trans hys,hGe.put hsm⟩ cD (by dsimp only;omega) bu
    ·have hw9:=fun a n c=>HW (d:=y) (I:=J) (s:=k) (a:=a) (n:=n) (c:=c) (l:=BLs.getD i []) hY.ok hsz (by omega)
     by_cases hev:(LEs.getD i default).Kind%2=0
     ·skip
      (repeat' ((try refine aw ?_);(conv=>arg 4;whnf);first | refine aO ?_ |(refine sN ?_;intro b)|(refine au ?_ ?_<;>intro h<;>try contradiction)| exact ax | refine af ?_ ?_ | fail));(all_goals refine av ?_)
      (first | refine bF rfl rfl ?_ | fail)
      (repeat' ((try refine aw ?_);(conv=>arg 4;whnf);first | refine aO ?_ |(refine sN ?_;intro b)|(refine au ?_ ?_<;>intro h<;>try contradiction)| exact ax | refine af ?_ ?_ | fail));(all_goals refine av ?_)
      rw [←hk]
      refine eD (X:=Nat×SDsk×Nat) (fun x=> [(1, .slice (some ⟨lb,lo,none⟩) lln llc),(5,vP vbx 0),(6,vP dbx 0),(7,vP ybx 0),(8,vI i),(9,vI k),(10,vP x.1 0),(11,vI (x.2.2))]) (fun x=>True) (fun x=> [iB ybx (aJ y) 36,iB x.1 (aJ x.2.1) 36,iB abx (ap ⟨Bn,(pra,prn,prc),(sra,srn,src),E.toNat,M.toNat⟩) 74]) (fun x=> []) ?_ ?_
      ·intro KK2
       refine gM [iB ybx (aJ y) 36] [Sl aq (some ⟨lb,lo,none⟩) lln llc LEs] cD bu rfl ?_
       (repeat' ((try refine aw ?_);(conv=>arg 4;whnf);first | refine yH ?_ |(refine sN ?_;intro b)|(refine au ?_ ?_<;>intro h<;>try contradiction)|(refine aA (hw9 _ _ _) ?_;intro x hx;refine aH ?_)| exact ax | refine af ?_ ?_ | fail));(all_goals refine av ?_)
       all_goals exact d9 (b,SDsk.zero,3) True.intro cD bu
      ·rintro ⟨nbx,yww,err⟩ _
       dsimp only
       (conv=>arg 3;simp only [List.cons_append,List.nil_append])
       (repeat' ((try refine aw ?_);(conv=>arg 4;whnf);first | refine aO ?_ |(refine sN ?_;intro b)|(refine au ?_ ?_<;>intro h<;>try contradiction)|(refine cw her ?_;intro x hx;refine bV ?_)| exact ax | refine af ?_ ?_ | fail));(all_goals refine av ?_)
       obtain ⟨d',nb,v1⟩:=x
       dsimp only at hx⊢
       have hY2:=hY.put (d':=d') (v:=⟨v1,(none,0,0),false, []⟩) (nb:=nb) hsm hx.2 (fun h=>by cases h)
       exact eU (i+1,d',J.put k nb ⟨v1,(none,0,0),false, []⟩,cYy.put k none) ⟨hl8,hlt,hY2,hx.1.trans hys,hGe.put hsm⟩ cD (by dsimp only;omega) bu
     ·skip
      (repeat' ((try refine aw ?_);(conv=>arg 4;whnf);first | refine aO ?_ |(refine sN ?_;intro b)|(refine au ?_ ?_<;>intro h<;>try contradiction)| exact ax | refine af ?_ ?_ | fail));(all_goals refine av ?_)
      (first | refine bF rfl rfl ?_ | fail)
      (repeat' ((try refine aw ?_);(conv=>arg 4;whnf);first | refine aO ?_ |(refine sN ?_;intro b)|(refine au ?_ ?_<;>intro h<;>try contradiction)| exact ax | refine af ?_ ?_ | fail));(all_goals refine av ?_)
      rw [←hk]
      refine eD (X:=Nat×Unit) (fun x=> [(1, .slice (some ⟨lb,lo,none⟩) lln llc),(5,vP vbx 0),(6,vP dbx 0),(7,vP ybx 0),(8,vI i),(9,vI k),(10,vP x.1 0),(11,vI (3))]) (fun x=>True) (fun x=> [iB ybx (aJ y) 36,iB x.1 (aJ SDsk.zero) 36,iB abx (ap ⟨Bn,(pra,prn,prc),(sra,srn,src),E.toNat,M.toNat⟩) 74]) (fun x=> []) ?_ ?_
      ·intro KK2
       refine gM [iB ybx (aJ y) 36] [Sl aq (some ⟨lb,lo,none⟩) lln llc LEs] cD bu rfl ?_
       (repeat' ((try refine aw ?_);(conv=>arg 4;whnf);first | refine yH ?_ |(refine sN ?_;intro b)|(refine au ?_ ?_<;>intro h<;>try contradiction)|(refine aA (hw9 _ _ _) ?_;intro x hx;refine aH ?_)| exact ax | refine af ?_ ?_ | fail));(all_goals refine av ?_)
       all_goals exact d9 (b,()) True.intro cD bu
      ·rintro ⟨nbx,_⟩ _
       dsimp only
       (conv=>arg 3;simp only [List.cons_append,List.nil_append])
       (repeat' ((try refine aw ?_);(conv=>arg 4;whnf);first | refine aO ?_ |(refine sN ?_;intro b)|(refine au ?_ ?_<;>intro h<;>try contradiction)| exact ax | refine af ?_ ?_ | fail));(all_goals refine av ?_)
       exact eU (i+1,y,J,cYy) ⟨hl8,hlt,gz hY (by omega),hys,hGe⟩ cD (by dsimp only;omega) bu
   ·obtain rfl:i=8:=by omega
    (repeat' ((try refine aw ?_);(conv=>arg 4;whnf);first | refine aO ?_ |(refine sN ?_;intro b)|(refine au ?_ ?_<;>intro h<;>try contradiction)| exact ax | refine af ?_ ?_ | fail));(all_goals refine av ?_)
    exact d9 (y,J,cYy) ⟨gz hY (by omega),hys,hGe⟩ cD bu
  ·obtain rfl:i=LEs.length:=by omega
   (repeat' ((try refine aw ?_);(conv=>arg 4;whnf);first | refine aO ?_ |(refine sN ?_;intro b)|(refine au ?_ ?_<;>intro h<;>try contradiction)| exact ax | refine af ?_ ?_ | fail));(all_goals refine av ?_)
   exact d9 (y,J,cYy) ⟨gz hY (by omega),hys,hGe⟩ cD bu
 ·rintro ⟨y,J,cYy⟩ ⟨hY,hys,hGe⟩
  dsimp only at hY hys hGe⊢
  (conv=>arg 3;simp only [List.cons_append,List.nil_append])
  (repeat' ((try refine aw ?_);(conv=>arg 4;whnf);first | refine aO ?_ |(refine sN ?_;intro b)|(refine au ?_ ?_<;>intro h<;>try contradiction)| exact ax | refine af ?_ ?_ | fail));(all_goals refine av ?_)
  revert b;intro zbx
  refine bG ybx ?_
  refine sV [5,6,7,12,13] ?_
  (conv=>arg 4;whnf)
  refine xw 2 (X:=SDsk×DI×Con) (fun _=> [(5,vP vbx 0),(6,vP dbx 0),(7,vP ybx 0),(12,vP zbx 0)]) (fun x=>DOk x.1 x.2.1 m (2*m+8) x.2.2∧x.1.size=m∧x.2.2.top=(eQ T).top) (fun x=> [iB zbx (aJ x.1) 36]) (fun x=> [Dm x.1 x.2.1]) ?_ ?_
  ·intro KK3
   refine w6 [zbx] (X:=Nat×SDsk×DI×Con) (fun x=> [(13,vI x.1)]) (fun x=>x.1≤m∧DOk x.2.1 x.2.2.1 m (m+8+x.1) x.2.2.2∧x.2.1.size=m∧(∀s,s<x.1→x.2.2.2.top s=(eQ T).top s)∧∀s,x.1≤s→x.2.2.2 s=cYy s) (fun x=> [iB zbx (aJ x.2.1) 36]) (fun x=> [Dm x.2.1 x.2.2.1]) (fun x=>m-x.1) (0,y,J,cYy) ⟨Nat.zero_le _,hY,hys,fun s h=>absurd h (Nat.not_lt_zero _),fun s _=>rfl⟩ rfl cD bu ?_
   rintro ⟨k,z,Z,cZz⟩ ⟨hk,hZz,hzs,hlo,hhi⟩
   (conv=>arg 3;simp only [List.cons_append,List.nil_append])
   (conv=>arg 2;simp only [List.cons_append,List.nil_append])
   dsimp only at hk hZz hzs hlo hhi⊢
   by_cases hlt:k<m
   ·have hl1:(I.vs.getD k []).length=(eQ T k).length:=by rw [←DI.con_len,hD.cn]
    have hl2:(J.vs.getD k []).length=(cYy k).length:=by rw [←DI.con_len,hY.cn]
    have hl3:(Z.vs.getD k []).length=(cYy k).length:=by rw [←DI.con_len,hZz.cn,hhi k (Nat.le_refl _)]
    have hb1:=hD.vl k
    have hb2:=hY.vl k
    obtain ⟨p,hp⟩:=hGe.1 k
    have hv1:=Ma (d:=d) (I:=I) (s:=k) hD.ok (by rw [hD.size];exact hlt) (by omega)
    have hv2:=Ma (d:=y) (I:=J) (s:=k) hY.ok (by rw [hY.size];exact hlt) (by omega)
    rw [hl1] at hv1
    rw [hl2] at hv2
    have hpl:(cYy k).length=p.length+(eQ T k).length:=by rw [hp,List.length_append]
    by_cases hp0:p.length=0
    ·have hp1:p= []:=List.eq_nil_of_length_eq_zero hp0
     (repeat' ((try refine aw ?_);(conv=>arg 4;whnf);first | refine aO ?_ |(refine sN ?_;intro b)|(refine au ?_ ?_<;>intro h<;>try contradiction)|((first | refine aA hv1 ?_ | refine aA hv2 ?_);intro x hx;refine aH ?_)| exact ax | refine af ?_ ?_ | fail));(all_goals refine av ?_)
     refine eU (k+1,z,Z,cZz) ⟨hlt,gz hZz (by omega),hzs,fun s hs=> ?_,fun s hs=>hhi s (by dsimp only at hs;omega)⟩ cD (by dsimp only;omega) bu
     dsimp only at hs⊢
     by_cases e:s<k
     ·exact hlo s e
     ·obtain rfl:s=k:=by omega
      unfold Con.top
      rw [hhi s (Nat.le_refl _),hp,hp1];rfl
    ·have hrp:=JB (d:=z) (I:=Z) (s:=k) (k:=(cYy k).length-(eQ T k).length) hZz.ok (by rw [hZz.size];exact hlt) (Nat.le_trans hZz.chg (by omega)) (by omega) (by omega)
     rw [Ho,hZz.cn,hhi k (Nat.le_refl _),hp,show (p++eQ T k).length-(eQ T k).length=p.length by rw [List.length_append];omega,List.drop_left' rfl] at hrp
     rw [hp,show (p++eQ T k).length=p.length+(eQ T k).length from List.length_append] at hv2
     (repeat' ((try refine aw ?_);(conv=>arg 4;whnf);first | refine aO ?_ |(refine sN ?_;intro b)|(refine au ?_ ?_<;>intro h<;>try contradiction)|((first | refine aA hv1 ?_ | refine aA hv2 ?_);intro x hx;refine aH ?_)| exact ax | refine af ?_ ?_ | fail));(all_goals refine av ?_)
     rw [show p.length+(eQ T k).length-(eQ T k).length=p.length by omega]
     (repeat' ((try refine aw ?_);(conv=>arg 4;whnf);first | refine aO ?_ |(refine sN ?_;intro b)|(refine au ?_ ?_<;>intro h<;>try contradiction)|(refine cw hrp ?_;intro x hx;refine bV ?_)| exact ax | refine af ?_ ?_ | fail));(all_goals refine av ?_)
     obtain ⟨d',nb,v⟩:=x
     obtain ⟨hxs,hxc,hxv⟩:=hx
     dsimp only at hxs hxc hxv⊢
     have hvb:v.th=true→v.b.length≤256:=fun g=>by rw [if_pos g] at hxv;exact hD.tl (s:=k) (by unfold Con.top;exact hxv.symm)
     have hZ2:=hZz.put (d':=d') (v:=v) (nb:=nb) hlt hxc hvb
     rw [hxv] at hZ2
     refine eU (k+1,d',Z.put k nb v,cZz.put k ((eQ T k).headD none)) ⟨hlt,hZ2,hxs.trans hzs,fun s hs=> ?_,fun s hs=> ?_⟩ cD (by dsimp only;omega) bu
     ·dsimp only at hs⊢
      rw [Con.top_put]
      by_cases e:s=k
      ·subst e;rw [if_pos rfl];rfl
      ·rw [if_neg e];exact hlo s (by omega)
     ·dsimp only at hs⊢
      rw [Con.put_ne _ (by omega)];exact hhi s (by omega)
   ·obtain rfl:k=m:=by omega
    (repeat' ((try refine aw ?_);(conv=>arg 4;whnf);first | refine aO ?_ |(refine sN ?_;intro b)|(refine au ?_ ?_<;>intro h<;>try contradiction)| exact ax | refine af ?_ ?_ | fail));(all_goals refine av ?_)
    refine d9 (z,Z,cZz) ⟨gz hZz (by omega),hzs, ?_⟩ cD bu
    funext s
    by_cases e:s<k
    ·exact hlo s e
    ·dsimp only
     unfold Con.top
     rw [hhi s (by omega),hGe.2 s (by omega)]
  ·rintro ⟨z,Z,cZz⟩ ⟨hZz,hzs,hlo⟩
   dsimp only at hZz hzs hlo⊢
   (conv=>arg 3;simp only [List.cons_append,List.nil_append])
   refine bG zbx ?_
   (repeat' ((try refine aw ?_);(conv=>arg 4;whnf);first | refine aO ?_ |(refine sN ?_;intro b)|(refine au ?_ ?_<;>intro h<;>try contradiction)| exact ax | refine af ?_ ?_ | fail));(all_goals refine av ?_)
   have hAy:AnD N y J:=⟨h1,by omega,hY.ok,by rw [hys,hm],by rw [hY.size,hm],fun s b hb=>Nat.le_trans (hY.tl (s:=s) (by rw [←hY.cn,DI.con_top];exact hb)) (by decide)⟩
   have hAz:AnD N z Z:=⟨h1,by omega,hZz.ok,by rw [hzs,hm],by rw [hZz.size,hm],fun s b hb=>Nat.le_trans (hZz.tl (s:=s) (by rw [←hZz.cn,DI.con_top];exact hb)) (by decide)⟩
   have hpvz:Z.pv=(eQ T).top:=by funext s;rw [←DI.con_top,hZz.cn];exact congrFun hlo s
   have hpvd:I.pv=(eQ T).top:=by funext s;rw [←DI.con_top,hD.cn]
   obtain ⟨dur,hint⟩:=hvo.intact
   have hlz:(ew N Z.pv cell ⟨Enc,Mac⟩ N).length=0:=by
    unfold ew
    rw [List.length_eq_zero_iff,List.filter_eq_nil_iff]
    intro j hj
    have:=hint.blk (b:=j) (by simpa using hj)
    rw [hpvz,this]
    simp [lO]
   have hLz:=HI (cell:=cell) (k:=⟨Enc,Mac⟩) (q:=q) hAz
   rw [hlz] at hLz
   have hSy:=Mt (cell:=cell) (k:=⟨Enc,Mac⟩) (q:=q) hAy
   have hLy:=HI (cell:=cell) (k:=⟨Enc,Mac⟩) (q:=q) hAy
   have hle:=lg N J.pv cell ⟨Enc,Mac⟩ N
   have hSm:=Jr (d:=d) (I:=I) (d2:=z) (Jtwo:=Z) hD.ok hZz.ok (by rw [hZz.size,hD.size]) (fun s l hl=>Nat.le_trans (hD.tl (s:=s) (by rw [←hD.cn,DI.con_top];exact hl)) (by decide)) (fun s _=>by rw [hpvz,hpvd])
   refine eD (X:=Sv) (fun x=> [(5,vP vbx 0),(6,vP dbx 0),(7,vP ybx 0),(12,vP zbx 0),(18, .slice x.1 x.2.1 x.2.2),(19,vI 0)]) (fun x=>x.2.1=0) (fun _=> []) (fun x=> []) ?_ ?_
   ·intro KKa
    exact tOp (by kernel_rfl) (ZX1 hLz KKa)
   rintro ⟨l1a,l1n,l1c⟩ hl1n
   dsimp only at hl1n⊢
   subst hl1n
   (conv=>arg 3;simp only [List.nil_append])
   (repeat' ((try refine aw ?_);(conv=>arg 4;whnf);first | refine aO ?_ |(refine sN ?_;intro b)|(refine au ?_ ?_<;>intro h<;>try contradiction)| exact ax | refine af ?_ ?_ | fail));(all_goals refine av ?_)
   refine eD (X:=Sv) (fun x=> [(5,vP vbx 0),(6,vP dbx 0),(7,vP ybx 0),(12,vP zbx 0),(18, .slice l1a 0 l1c),(19,vI 0),(20, .slice x.1 x.2.1 x.2.2),(21,vI 0)]) (fun x=>x.2.1=N) (fun _=> []) (fun x=> [Sl bW x.1 x.2.1 x.2.2 (gU N J.pv cell ⟨Enc,Mac⟩ N)]) ?_ ?_
   ·intro KKa
    exact tOp (by kernel_rfl) (ZX2 hSy KKa)
   rintro ⟨s1a,s1n,s1c⟩ hs1n
   dsimp only at hs1n⊢
   subst s1n
   (conv=>arg 3;simp only [List.cons_append,List.nil_append])
   (repeat' ((try refine aw ?_);(conv=>arg 4;whnf);first | refine aO ?_ |(refine sN ?_;intro b)|(refine au ?_ ?_<;>intro h<;>try contradiction)| exact ax | refine af ?_ ?_ | fail));(all_goals refine av ?_)
   refine eD (X:=Sv) (fun x=> [(5,vP vbx 0),(6,vP dbx 0),(7,vP ybx 0),(12,vP zbx 0),(18, .slice l1a 0 l1c),(19,vI 0),(20, .slice s1a N s1c),(21,vI 0),(22, .slice x.1 x.2.1 x.2.2),(23,vI 0)]) (fun x=>x.2.1=(ew N J.pv cell ⟨Enc,Mac⟩ N).length) (fun _=> []) (fun x=> []) ?_ ?_
   ·intro KKa
    exact tOp (by kernel_rfl) (ZX3 hLy KKa)
   rintro ⟨l2a,l2n,l2c⟩ hl2n
   dsimp only at hl2n⊢
   subst hl2n
   (conv=>arg 3;simp only [List.nil_append])
   (repeat' ((try refine aw ?_);(conv=>arg 4;whnf);first | refine aO ?_ |(refine sN ?_;intro b)|(refine au ?_ ?_<;>intro h<;>try contradiction)|(refine aA hSm ?_;intro x hx;refine aH ?_)| exact ax | refine af ?_ ?_ | fail));(all_goals refine av ?_)
   refine aS 0 ?_
   intro hsv1 hsv2 hsv3 hsv4
   obtain ⟨svb,svo,hsv5⟩:=hsv4 (by omega) (by decide)
   subst hsv5
   refine Ih [Sl bW (some ⟨svb,svo,none⟩) N s1c (gU N J.pv cell ⟨Enc,Mac⟩ N),Gs q] (by simp) ?_
   refine sV [20,22,24,25] ?_
   (conv=>arg 4;whnf)
   have hlv:=LK (q:=q)
   refine dh [] (X:=Nat) (fun i=> [(24,vI (ew N J.pv cell ⟨Enc,Mac⟩ i).length),(25,vI i)]) (fun i=>i≤N) (fun _=> []) (fun i=>N-i) 0 (Nat.zero_le _) rfl cD ?_
   intro i hi
   (conv=>arg 2;simp only [List.cons_append,List.nil_append])
   have hll:=lg N J.pv cell ⟨Enc,Mac⟩ i
   by_cases hlt:i<N
   ·have hg:(gU N J.pv cell ⟨Enc,Mac⟩ N).getD i default=lO (Me N J.pv cell ⟨Enc,Mac⟩ i).1:=by
     unfold gU;simp [List.getD_eq_getElem?_getD,hlt]
    by_cases h0:(gU N J.pv cell ⟨Enc,Mac⟩ N).getD i default=SPrb.zero
    ·have e:=oF (hg▸h0)
     (repeat' ((try refine aw ?_);(conv=>arg 4;whnf);first | refine aO ?_ |(refine sN ?_;intro b)|(refine au ?_ ?_<;>intro h<;>try contradiction)| exact ax | refine af ?_ ?_ | fail));(all_goals refine av ?_)
     refine a5 (i+1) ?_ hlt cD ?_
     ·show _=_
      rw [e];rfl
     ·omega
    ·have e:=r8 (hg▸h0)
     have el:(ew N J.pv cell ⟨Enc,Mac⟩ (i+1)).length=(ew N J.pv cell ⟨Enc,Mac⟩ i).length+1:=by rw [e,List.length_append];rfl
     (repeat' ((try refine aw ?_);(conv=>arg 4;whnf);first | refine aO ?_ |(refine sN ?_;intro b)|(refine au ?_ ?_<;>intro h<;>try contradiction)| exact ax | refine af ?_ ?_ | fail));(all_goals refine av ?_)
     refine a5 (i+1) ?_ hlt cD ?_
     ·show _=_
      rw [el];rfl
     ·omega
   ·obtain rfl:i=N:=by omega
    (repeat' ((try refine aw ?_);(conv=>arg 4;whnf);first | refine aO ?_ |(refine sN ?_;intro b)|(refine au ?_ ?_<;>intro h<;>try contradiction)|(refine aA hlv ?_;intro x hx;refine aH ?_)| exact ax | refine af ?_ ?_ | fail));(all_goals refine av ?_)
end
end Go.Proofs.YtbobhnldhpjdlaaGreatDoor
