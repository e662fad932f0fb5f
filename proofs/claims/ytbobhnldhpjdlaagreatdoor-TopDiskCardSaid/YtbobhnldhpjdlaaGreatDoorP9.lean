/- Lemmas and walks: what each function does, by its own code. No condition beyond those of each statement. -/
import Derived.Test.YtbobhnldhpjdlaaGreatDoorP1
import Derived.Test.YtbobhnldhpjdlaaGreatDoorP3
set_option linter.all false
set_option linter.unusedVariables false
namespace Go.Cs
open Go Go.RowKit
theorem OkW.st2 {l:List Rec} {c:List Bool} {s:List Nat} (h:OkW l c s) {b:Nat} (hb:b<l.length):(l.getD b Rec.zero).st≤2:=ma (h.m.rc b hb)
end Go.Cs
namespace Go.Cs
open Go Go.RowKit
theorem Gb {L:List Rec} {c:List Bool} {s:List Nat} {n b:Nat} {x:Non} {t:Dig} (h:OkW L c s) (hn:L.length=n) (hb:b<n):qL n (treW L c s) b x t=treW (L.set b (cE L c b x t)) (c.set b true) s:=by subst hn;exact xx h hb
theorem Fq {L:List Rec} {c:List Bool} {s:List Nat} {n:Nat} (h:OkW L c s) (hn:L.length=n):AD (tot n) (treW L c s)=treW L (fls n) (gL n c s):=by subst hn;exact yy h
theorem FA {L:List Rec} {c:List Bool} {s:List Nat} {n b:Nat} (h:OkW L c s) (hn:L.length=n) (hb:b<n):fM ((treW L c s).getD (b/4) Un.zero) (b%4)=dX L c b:=by subst hn;exact B3 h hb
end Go.Cs
namespace Go.Cs
open Go Go.RowKit
section
variable {L:List Rec} {c:List Bool} {s:List Nat} {n l j:Nat}
theorem JQ (hn:L.length=n) (hl:l≤hgt n) (hj:j<cnt n l):(treW L c s).getD (num n l+j) Un.zero=cF L c s l j:=by subst hn;exact eL hl hj
theorem FW (h:OkW L c s) (hn:L.length=n):bI (aM ((treW L c s).getD (num n (hgt n)) Un.zero).nd)=cq L (bZ n c s):=by
 subst hn
 have h1:(treW L c s).getD (num L.length (hgt L.length)) Un.zero=cF L c s (hgt L.length) 0:=by
  have hz:=JQ (L:=L) (c:=c) (s:=s) (l:=hgt L.length) (j:=0) rfl (Nat.le_refl _) (by rw [eg h.m.n1 h.m.n2];decide)
  exact hz
 rw [h1];rfl
end
structure ZU where
 nd:Un
 bz:Int
 ot:Nat
 bk:Int
 hot:ot<256
def ZU.zero:ZU:=⟨Un.zero,0,0,0,by decide⟩
def Mn (x:ZU):List Value:=a7 x.nd++ [.int .i64 x.bz, .int .u8 ((x.ot:Nat):Int), .int .i64 x.bk]
@[simp] theorem K9 (x:ZU):(Mn x).length=283:=by simp [Mn]
end Go.Cs
namespace Go.Cs
open Go Go.RowKit
end Go.Cs
namespace Go.Cs
open Go Go.RowKit
abbrev Con:=Nat→List (Option (List UInt8))
def Con.top (c:Con) (s:Nat):Option (List UInt8):=(c s).headD none
def Con.put (c:Con) (s:Nat) (b:Option (List UInt8)):Con:=fun i=>if i=s then b::c i else c i
theorem Con.put_eq (c:Con) (s:Nat) (b:Option (List UInt8)):(c.put s b) s=b::c s:=if_pos rfl
theorem Con.put_ne {c:Con} {s i:Nat} (b:Option (List UInt8)) (h:i≠s):(c.put s b) i=c i:=if_neg h
theorem Con.top_put (c:Con) (s i:Nat) (b:Option (List UInt8)):(c.put s b).top i=if i=s then b else c.top i:=by
 unfold Con.top Con.put;by_cases h:i=s<;>simp [h]
instance:DecidableEq Dig:=fun a b=>decidable_of_iff (a.l=b.l) ⟨Dig.ext',fun h=>congrArg Dig.l h⟩
abbrev Pv:=Nat→Option (List UInt8)
def Ca (n:Nat) (pv:Pv) (l j t:Nat) (want:Dig):(Nat×Nat)×Nod:=
 match pv (bas n l+2*j+t) with
 | none=>((bas n l+2*j+t,1),Nod.zero)
 | some b=>if nN b≠0 then ((bas n l+2*j+t,2),Nod.zero) else if kZ n (yw b) l j then ((bas n l+2*j+t,3),Nod.zero) else if ¬bI (aM (yw b))=want then ((bas n l+2*j+t,4),Nod.zero) else ((0,0),yw b)
def Cd (n:Nat) (pv:Pv) (b:Nat):Nat→Nod→(Nat×Nat)×List Nod
 | 0,_=>((0,0), [])
 | i+1,x=>if (x.es.get (idx b i%4)).st=0 then ((0,0), []) else
  if (Ca n pv i (4*x.ix+idx b i%4) ((x.es.get (idx b i%4)).st-1) (x.es.get (idx b i%4)).dg).1.2≠0 then ((Ca n pv i (4*x.ix+idx b i%4) ((x.es.get (idx b i%4)).st-1) (x.es.get (idx b i%4)).dg).1, []) else
  if (Cd n pv b i (Ca n pv i (4*x.ix+idx b i%4) ((x.es.get (idx b i%4)).st-1) (x.es.get (idx b i%4)).dg).2).1.2≠0 then ((Cd n pv b i (Ca n pv i (4*x.ix+idx b i%4) ((x.es.get (idx b i%4)).st-1) (x.es.get (idx b i%4)).dg).2).1, []) else
  ((0,0),(Ca n pv i (4*x.ix+idx b i%4) ((x.es.get (idx b i%4)).st-1) (x.es.get (idx b i%4)).dg).2::(Cd n pv b i (Ca n pv i (4*x.ix+idx b i%4) ((x.es.get (idx b i%4)).st-1) (x.es.get (idx b i%4)).dg).2).2)
def Lq (out:List Nod) (r:(Nat×Nat)×List Nod):(Nat×Nat)×List Nod:=if r.1.2≠0 then (r.1, []) else ((0,0),out++r.2)
def Hc (n:Nat) (pv:Pv) (c:Cel):(Nat×Nat)×Nod:=Ca n pv (hgt n) 0 (c.ep%2) c.root
def lG (n:Nat) (pv:Pv) (c:Cel) (b:Nat):(Nat×Nat)×List Nod:=
 if (Hc n pv c).1.2≠0 then ((Hc n pv c).1, []) else Lq [(Hc n pv c).2] (Cd n pv b (hgt n) (Hc n pv c).2)
def ky (b:Nat) (l:List Nod):Rec:=if (l.getD (l.length-1) Nod.zero).lv=0 then (l.getD (l.length-1) Nod.zero).rs.get (b%4) else Rec.zero
def qS (n:Nat) (pv:Pv) (c:Cel) (b:Nat):(Nat×Nat)×Rec:=((lG n pv c b).1,if (lG n pv c b).1.2≠0 then Rec.zero else ky b (lG n pv c b).2)
def Mj (k:Key) (b:Nat) (r:Rec) (s:Nat) (c:List UInt8):(Nat×Nat)×Dig:=
 if h:c.length=32 then (if il k b r.non ⟨c,h⟩=r.tag then ((0,0),cJ k r.non ⟨c,h⟩) else ((s,6),Dig.zero)) else ((s,5),Dig.zero)
def LD (pv:Pv) (k:Key) (b:Nat) (r:Rec):(Nat×Nat)×Dig:=
 if r.st=0 then ((0,0),Dig.zero) else match pv (2*b+(r.st-1)) with
 | none=>((2*b+(r.st-1),1),Dig.zero)
 | some c=>Mj k b r (2*b+(r.st-1)) c
def Me (n:Nat) (pv:Pv) (c:Cel) (k:Key) (b:Nat):(Nat×Nat)×Dig:=if (qS n pv c b).1.2≠0 then ((qS n pv c b).1,Dig.zero) else LD pv k b (qS n pv c b).2
theorem zx (out:List Nod) (l:List Nod):Lq out ((0,0),l)=((0,0),out++l):=if_neg (by simp)
theorem AP {n:Nat} {pv:Pv} {b i:Nat} {x:Nod} (h:(x.es.get (idx b i%4)).st=0):Cd n pv b (i+1) x=((0,0), []):=by rw [Cd,if_pos h]
theorem Gx {n:Nat} {pv:Pv} {b i:Nat} {x:Nod} {p:Nat×Nat} {y:Nod} (h:¬(x.es.get (idx b i%4)).st=0) (hy:Ca n pv i (4*x.ix+idx b i%4) ((x.es.get (idx b i%4)).st-1) (x.es.get (idx b i%4)).dg=(p,y)) (hp:p.2=0):Cd n pv b (i+1) x=Lq [y] (Cd n pv b i y):=by
 rw [Cd,if_neg h,hy,if_neg (fun g=>g hp)]
 rfl
theorem A0 {r:Rec} (h:bS r=0) (h0:r.st=0):r=Rec.zero:=by
 unfold bS at h
 rw [if_neg (by omega),if_pos h0] at h
 split at h
 ·next hq=>exact (Rec.eqb_iff _ _).1 hq
 ·cases h
def Hold (k:Key) (con:Con) (i:Nat) (r:Rec) (v:Dig):Prop:=(r.st=0∧v=Dig.zero)∨(r.st≠0∧con.top (2*i+(r.st-1))=some (cJ k r.non v).l∧r.tag=il k i r.non (cJ k r.non v))
structure Intact (n:Nat) (k:Key) (con:Con) (L:List Rec) (s:List Nat) (dur:List Dig) (cell:Cel):Prop where
 ll:L.length=n
 ok:OkM L s
 dl:dur.length=n
 nds:∀l j,l≤hgt n→j<cnt n l→(l=hgt n∨bK L l j=false)→con.top (bas n l+2*j+s.getD (num n l+j) 0)=some (aM (aK L s l j))
 dat:∀i,i<n→Hold k con i (L.getD i Rec.zero) (dur.getD i Dig.zero)
 root:cell.root=cq L s
 slot:cell.ep%2=s.getD (num n (hgt n)) 0
theorem Intact.bl {n:Nat} {k:Key} {con:Con} {L:List Rec} {s:List Nat} {dur:List Dig} {cell:Cel} (h:Intact n k con L s dur cell):1≤n∧n≤4096:=by have h1:=h.ok.n1;have h2:=h.ok.n2;rw [h.ll] at h1 h2;exact ⟨h1,h2⟩
theorem qi {n:Nat} {con:Con} {L:List Rec} {S:List Nat} {l j t:Nat} (hll:L.length=n) (hO:OkM L S) (hl:l≤hgt n) (hj:j<cnt n l) (h:con.top (bas n l+2*j+t)=some (aM (aK L S l j))):
  Ca n con.top l j t (bI (aM (aK L S l j)))=((0,0),aK L S l j):=by
 subst hll
 have hc:=mg hO hl hj
 unfold Ca
 rw [h]
 dsimp only
 rw [if_neg (fun g=>g (gx hc)),jN hc,if_neg (fun g=>g ⟨dD hO.n2 hl hj,dQ hO.n2 hl hj,ig hO hl hj⟩),if_neg (fun g=>g rfl)]
def cU (L:List Rec) (s:List Nat) (b:Nat):Nat→List Nod
 | 0=> []
 | i+1=>if bK L i (idx b i)=true then [] else aK L s i (idx b i)::cU L s b i
section
variable {n:Nat} {k:Key} {con:Con} {L:List Rec} {s:List Nat} {dur:List Dig} {cell:Cel}
theorem hJ (b i:Nat):4*idx b (i+1)+idx b i%4=idx b i:=by show 4*(idx b i/4)+_=_;omega
theorem Intact.pth (h:Intact n k con L s dur cell) {b:Nat} (hb:b<n):∀{i:Nat},i≤hgt n→Cd n con.top b i (aK L s i (idx b i))=((0,0),cU L s b i)
 | 0,_=>rfl
 | i+1,hi=>by
  have hll:=h.ll
  have h4:=h.bl.2
  have hb2:b<L.length:=by omega
  have hix:(aK L s (i+1) (idx b (i+1))).ix=idx b (i+1):=dQ (by omega) (by rw [hll];exact hi) (by rw [hll];exact bm hb _)
  have hw:idx b i%4<prt L.length (i+1) (idx b (i+1)):=(bM (Nat.mod_lt _ (by decide))).2 (by rw [hJ];exact bm hb2 i)
  have he:(aK L s (i+1) (idx b (i+1))).es.get (idx b i%4)=cX L s i (idx b i):=by
   rw [lB (Nat.succ_ne_zero i) hw,hJ];rfl
  by_cases hm:bK L i (idx b i)=true
  ·rw [AP (by rw [he,eh h.ok.sl];exact hm),cU,if_pos hm]
  ·have hm':bK L i (idx b i)=false:=by simpa using hm
   have hst:¬(cX L s i (idx b i)).st=0:=fun g=>hm ((eh h.ok.sl _ _).1 g)
   have hev:cX L s i (idx b i)=⟨(s.getD (num L.length i+idx b i) 0+1)%2^8,bI (aM (aK L s i (idx b i))),Nat.mod_lt _ (by decide)⟩:=if_neg hm
   have hs1:=h.ok.sl (num L.length i+idx b i)
   have hn:=h.nds i (idx b i) (by omega) (bm hb i) (.inr hm')
   rw [Gx (p:=(0,0)) (y:=aK L s i (idx b i)) (by rw [he];exact hst) ?_ rfl,h.pth hb (by omega),zx,cU,if_neg hm]
   ·rfl
   ·rw [he,hix,hJ,hev]
    dsimp only
    rw [show (s.getD (num L.length i+idx b i) 0+1)%2^8-1=s.getD (num n i+idx b i) 0 by rw [←hll];omega]
    exact qi hll h.ok (by omega) (bm hb i) hn
theorem Intact.tp (h:Intact n k con L s dur cell):Hc n con.top cell=((0,0),aK L s (hgt n) 0):=by
 have hc:0<cnt n (hgt n):=dk h.bl.1 _
 have h1:=h.nds (hgt n) 0 (Nat.le_refl _) hc (.inl rfl)
 unfold Hc
 rw [h.root,h.slot,show cq L s=bI (aM (aK L s (hgt n) 0)) by rw [cq,h.ll]]
 exact qi h.ll h.ok (Nat.le_refl _) hc h1
theorem eV (h:Intact n k con L s dur cell) {b:Nat} (hb:b<n):idx b (hgt n)=0:=by have:=wh (L:=L) h.ok.n1 h.ok.n2 (b:=b) (by rw [h.ll];exact hb);rwa [h.ll] at this
theorem Intact.path (h:Intact n k con L s dur cell) {b:Nat} (hb:b<n):lG n con.top cell b=((0,0),aK L s (hgt n) 0::cU L s b (hgt n)):=by
 unfold lG
 have h1:=h.pth hb (Nat.le_refl _)
 rw [eV h hb] at h1
 rw [h.tp,if_neg (fun g=>g rfl),h1,zx];rfl
theorem iE (hO:OkM L s) (hll:L.length=n) {b:Nat} (hb:b<n) (x:Nod):∀{i:Nat},i≤hgt n→x=aK L s i (idx b i)→ky b (x::cU L s b i)=L.getD b Rec.zero
 | 0,hi,hx=>by
  subst hll hx
  have h1:idx b 0=b/4:=rfl
  have hlv:(aK L s 0 (idx b 0)).lv=0:=dD hO.n2 hi (bm hb 0)
  have hp:b%4<prt L.length 0 (idx b 0):=(bM (Nat.mod_lt _ (by decide))).2 (by rw [h1,show 4*(b/4)+b%4=b by omega];exact hb)
  simp only [ky,cU,List.length_cons,List.length_nil,Nat.zero_add,Nat.sub_self,List.getD_cons_zero]
  rw [if_pos hlv,aP,fc _ _ _ _ _ (Nat.mod_lt _ (by decide)),if_pos ⟨hp,rfl⟩,h1,show 4*(b/4)+b%4=b by omega]
 | i+1,hi,hx=>by
  by_cases hm:bK L i (idx b i)=true
  ·subst hll
   have hlv:x.lv=i+1:=by rw [hx];exact dD hO.n2 hi (bm hb _)
   rw [cU,if_pos hm]
   simp only [ky,List.length_cons,List.length_nil,Nat.zero_add,Nat.sub_self,List.getD_cons_zero]
   rw [if_neg (by omega)]
   have h0:=a9.1 hm b hb rfl
   have h1:=hO.rc b hb
   generalize hr:L.getD b Rec.zero=r at h0 h1
   exact (A0 h1 h0).symm
  ·rw [cU,if_neg hm]
   have h1:=iE hO hll hb (aK L s i (idx b i)) (i:=i) (by omega) rfl
   rw [←h1]
   simp [ky,List.getD]
theorem Intact.rcd (h:Intact n k con L s dur cell) {b:Nat} (hb:b<n):qS n con.top cell b=((0,0),L.getD b Rec.zero):=by
 unfold qS
 rw [h.path hb]
 dsimp only
 rw [if_neg (fun g=>g rfl),iE h.ok h.ll hb _ (Nat.le_refl _) (by rw [eV h hb])]
theorem Hold.ld {i:Nat} {r:Rec} {v:Dig} (h:Hold k con i r v):LD con.top k i r=((0,0),v):=by
 rcases h with ⟨h1,rfl⟩|⟨h1,h2,h3⟩
 ·exact if_pos h1
 ·unfold LD
  rw [if_neg h1,h2]
  dsimp only
  unfold Mj
  rw [dif_pos (cJ k r.non v).h,if_pos h3.symm]
  exact Prod.ext rfl (n7 k r.non v)
theorem Intact.blk (h:Intact n k con L s dur cell) {b:Nat} (hb:b<n):Me n con.top cell k b=((0,0),dur.getD b Dig.zero):=by
 unfold Me
 rw [h.rcd hb,if_neg (fun g=>g rfl)]
 exact (h.dat b hb).ld
end
end Go.Cs
namespace Go.Cs
open Go Go.RowKit
def ee (n k t:Nat):Nat:=2*n+2*k+t
theorem iP (n l j t:Nat):bas n l+2*j+t=ee n (num n l+j) t:=by rw [o6,ee];omega
theorem ei {r:Rec} (h:bS r=0):r.st≤2:=by unfold bS at h;split at h;cases h;omega
section
variable {n:Nat} {k:Key} {con con':Con} {L Lc:List Rec} {c:List Bool} {s:List Nat} {now dur:List Dig} {cell:Cel}
theorem Intact.congr (h:Intact n k con L s dur cell) (h1:∀q,q<tot n→con'.top (ee n q (s.getD q 0))=con.top (ee n q (s.getD q 0)))
  (h2:∀i,i<n→(L.getD i Rec.zero).st≠0→con'.top (2*i+((L.getD i Rec.zero).st-1))=con.top (2*i+((L.getD i Rec.zero).st-1))):Intact n k con' L s dur cell:=by
 refine ⟨h.ll,h.ok,h.dl,fun l j hl hj he=> ?_,fun i hi=> ?_,h.root,h.slot⟩
 ·have:=h.nds l j hl hj he
  rw [iP] at this⊢
  rw [h1 _ (dV hl hj)];exact this
 ·rcases h.dat i hi with h3 |⟨h3,h4,h5⟩
  ·exact .inl h3
  ·exact .inr ⟨h3,by rw [h2 i hi h3];exact h4,h5⟩
structure Work (n:Nat) (k:Key) (con:Con) (L:List Rec) (c:List Bool) (s:List Nat) (now:List Dig) (Lc:List Rec) (dur:List Dig) (cell:Cel):Prop where
 int:Intact n k con Lc s dur cell
 ok:OkW L c s
 ll:L.length=n
 nl:now.length=n
 dat:∀i,i<n→Hold k con i (L.getD i Rec.zero) (now.getD i Dig.zero)
 old:∀i,i<n→c.getD i false=false→L.getD i Rec.zero=Lc.getD i Rec.zero∧now.getD i Dig.zero=dur.getD i Dig.zero
 new:∀i,i<n→c.getD i false=true→(L.getD i Rec.zero).st≠(Lc.getD i Rec.zero).st
theorem Work.cl (h:Work n k con L c s now Lc dur cell):c.length=n:=by rw [h.ok.hc,h.ll]
theorem Work.apart (h:Work n k con L c s now Lc dur cell) {b:Nat} (hb:b<n):(Lc.getD b Rec.zero).st≠0→(Lc.getD b Rec.zero).st-1≠dX L c b:=by
 intro h0
 have h2:=ei (h.ok.m.rc b (by rw [h.ll];exact hb))
 have h3:=ei (h.int.ok.rc b (by rw [h.int.ll];exact hb))
 cases hc:c.getD b false with
 | false=>
  have h4:=(h.old b hb hc).1
  rw [←h4] at h0⊢
  unfold dX
  rw [if_neg h0,if_neg (by rw [hc];decide)]
  omega
 | true=>
  have h4:=h.new b hb hc
  have h5:=h.ok.cr b hc
  unfold dX
  rw [if_neg h5,if_pos hc]
  omega
theorem Aa (h:Work n k con L c s now Lc dur cell) {b:Nat} (hb:b<n):dX L c b≤1:=pM h.ok (by rw [h.ll];exact hb)
theorem Work.write (h:Work n k con L c s now Lc dur cell) {b:Nat} (hb:b<n) (x:Non) (v:Dig):
  Work n k (con.put (2*b+dX L c b) (some (cJ k x v).l)) (L.set b (cE L c b x (il k b x (cJ k x v)))) (c.set b true) s (now.set b v) Lc dur cell:=by
 have ht:=Aa h hb
 have hbL:b<L.length:=by rw [h.ll];exact hb
 have hbc:b<c.length:=by rw [h.cl];exact hb
 have hbn:b<now.length:=by rw [h.nl];exact hb
 refine ⟨?_,h.ok.set hbL,by rw [List.length_set,h.ll],by rw [List.length_set,h.nl],fun i hi=> ?_,fun i hi hc=> ?_,fun i hi hc=> ?_⟩
 ·refine h.int.congr (fun q hq=> ?_) fun i hi h0=> ?_
  ·rw [Con.top_put,if_neg (by unfold ee;omega)]
  ·have h2:=ei (h.int.ok.rc i (by rw [h.int.ll];exact hi))
   rw [Con.top_put]
   by_cases hib:i=b
   ·subst hib
    have:=h.apart hi h0
    rw [if_neg (by omega)]
   ·rw [if_neg (by omega)]
 ·rw [bH hbL,bH hbn]
  by_cases hib:i=b
  ·subst hib
   rw [if_pos rfl,if_pos rfl]
   refine .inr ⟨by simp [cE], ?_,rfl⟩
   rw [Con.top_put,if_pos (by simp [cE])]
   rfl
  ·rw [if_neg hib,if_neg hib]
   have h2:=ei (h.ok.m.rc i (by rw [h.ll];exact hi))
   rcases h.dat i hi with h3 |⟨h3,h4,h5⟩
   ·exact .inl h3
   ·exact .inr ⟨h3,by rw [Con.top_put,if_neg (by omega)];exact h4,h5⟩
 ·rw [bH hbc] at hc
  have hib:i≠b:=fun e=>by rw [if_pos e] at hc;cases hc
  rw [if_neg hib] at hc
  rw [bH hbL,bH hbn,if_neg hib,if_neg hib]
  exact h.old i hi hc
 ·rw [bH hbc] at hc
  rw [bH hbL]
  by_cases hib:i=b
  ·subst hib
   rw [if_pos rfl]
   show dX L c i+1≠_
   by_cases h0:(Lc.getD i Rec.zero).st=0
   ·omega
   ·have:=h.apart hi h0;omega
  ·rw [if_neg hib] at hc⊢
   exact h.new i hi hc
def iX (n:Nat) (ts:List Un) (q:Nat):Bool:=(ts.getD q Un.zero).dt || q==tot n-1
def mN (n:Nat) (ts:List Un) (q:Nat):Nat×List UInt8:=(ee n q (1-(ts.getD q Un.zero).sl).toNat,aM (ts.getD q Un.zero).nd)
def di (n:Nat) (ts:List Un):Nat→List (Nat×List UInt8)
 | 0=> []
 | m+1=>if iX n ts m=true then di n ts m++ [mN n ts m] else di n ts m
def Con.puts (c:Con):List (Nat×List UInt8)→Con
 | []=>c
 | w::r=>(c.put w.1 (some w.2)).puts r
theorem Con.puts_app (c:Con):∀(l r:List (Nat×List UInt8)),c.puts (l++r)=(c.puts l).puts r:=by
 intro l
 induction l generalizing c with
 | nil=>intro r;rfl
 | cons w l ih=>intro r;exact ih _ r
theorem xk (n:Nat) (ts:List Un):∀m,(di n ts m).length≤m
 | 0=>Nat.le_refl _
 | m+1=>by
  have:=xk n ts m
  rw [di];split<;>simp<;>omega
theorem js {ts:List Un} (hs:∀q,(1-(ts.getD q Un.zero).sl).toNat≤1) (con:Con):∀(m i:Nat),(con.puts (di n ts m)) i=if 2*n≤i∧(i-2*n)/2<m∧iX n ts ((i-2*n)/2)=true∧(i-2*n)%2=(1-(ts.getD ((i-2*n)/2) Un.zero).sl).toNat then some (aM (ts.getD ((i-2*n)/2) Un.zero).nd)::con i else con i
 | 0,i=>by rw [if_neg (by omega)];rfl
 | m+1,i=>by
  have ih:=js hs con m
  have h1:=hs m
  rw [di]
  by_cases hw:iX n ts m=true
  ·rw [if_pos hw,Con.puts_app]
   show (con.puts (di n ts m)).put (mN n ts m).1 (some (mN n ts m).2) i=_
   by_cases hi:i=(mN n ts m).1
   ·have hq:(i-2*n)/2=m:=by rw [hi];simp only [mN,ee];omega
    have hr:(i-2*n)%2=(1-(ts.getD m Un.zero).sl).toNat:=by rw [hi];simp only [mN,ee];omega
    rw [hi,Con.put_eq,←hi,ih i,hq,if_neg (by omega),if_pos ⟨by rw [hi];simp only [mN,ee];omega,by omega,hw,hr⟩]
    rfl
   ·rw [Con.put_ne _ hi,ih i]
    by_cases hq:2*n≤i∧(i-2*n)/2=m
    ·rw [if_neg (by omega),if_neg ?_]
     rintro ⟨_,_,_,h4⟩
     rw [hq.2] at h4
     apply hi
     simp only [mN,ee]
     omega
    ·by_cases hp:2*n≤i∧(i-2*n)/2<m
     ·simp only [hp.1,hp.2,true_and,show (i-2*n)/2<m+1 by omega]
     ·rw [if_neg (by omega),if_neg (by omega)]
  ·rw [if_neg hw,ih i]
   by_cases hq:2*n≤i∧(i-2*n)/2=m
   ·rw [if_neg (by omega),if_neg (fun g=>hw (hq.2▸g.2.2.1))]
   ·by_cases hp:2*n≤i∧(i-2*n)/2<m
    ·simp only [hp.1,hp.2,true_and,show (i-2*n)/2<m+1 by omega]
    ·rw [if_neg (by omega),if_neg (by omega)]
theorem k7 (hll:L.length=n) {l j:Nat} (hl:l≤hgt n) (hj:j<cnt n l):(treW L c s).getD (num n l+j) Un.zero=cF L c s l j:=by subst hll;exact eL hl hj
theorem Aj (hll:L.length=n) {q:Nat} (h:tot n≤q):(treW L c s).getD q Un.zero=Un.zero:=by
 rw [List.getD_eq_getElem?_getD,List.getElem?_eq_none (by rw [jt,hll];exact h)];rfl
theorem Co (h:OkW L c s) (hll:L.length=n) (q:Nat):(treW L c s).getD q Un.zero=Un.zero∨((treW L c s).getD q Un.zero).sl=((s.getD q 0:Nat):Int):=by
 by_cases hq:q<tot n
 ·obtain ⟨l,j,hl,hj,rfl⟩:=dI hq
  rw [k7 hll hl hj]
  subst hll
  exact .inr rfl
 ·exact .inl (Aj hll (by omega))
theorem jo (h:OkW L c s) (hll:L.length=n) (q:Nat):(1-((treW L c s).getD q Un.zero).sl).toNat≤1:=by
 have:=h.m.sl q
 rcases Co h hll q with h1 | h1
 ·rw [h1];decide
 ·rw [h1];omega
def nt (n:Nat) (con:Con) (L:List Rec) (c:List Bool) (s:List Nat):Con:=con.puts (di n (treW L c s) (tot n))
theorem mT (h:OkW L c s) (hll:L.length=n) {i:Nat} (hi:i<2*n):nt n con L c s i=con i:=by
 rw [nt,js (jo h hll),if_neg (by omega)]
theorem lw (h:OkW L c s) (hll:L.length=n) {l j t:Nat} (hl:l≤hgt n) (hj:j<cnt n l) (ht:t≤1):nt n con L c s (ee n (num n l+j) t)=
  if (drt c l j=true∨l=hgt n)∧t=1-s.getD (num n l+j) 0 then some (aM (aK L (bZ n c s) l j))::con (ee n (num n l+j) t) else con (ee n (num n l+j) t):=by
 have h1:1≤n:=by have:=h.m.n1;omega
 have h2:n≤4096:=by have:=h.m.n2;omega
 have hs:=h.m.sl (num n l+j)
 have hq:(ee n (num n l+j) t-2*n)/2=num n l+j:=by unfold ee;omega
 have hr:(ee n (num n l+j) t-2*n)%2=t:=by unfold ee;omega
 have hp:=dV hl hj
 rw [nt,js (jo h hll),hq,hr,k7 hll hl hj]
 have hb:iX n (treW L c s) (num n l+j)=true↔(drt c l j=true∨l=hgt n):=by
  unfold iX
  rw [k7 hll hl hj,Bool.or_eq_true,beq_iff_eq,i9 h1 h2 hl hj]
  rfl
 have hsl:(cF L c s l j).sl=((s.getD (num n l+j) 0:Nat):Int):=by subst hll;rfl
 have hnd:(cF L c s l j).nd=aK L (bZ n c s) l j:=by subst hll;rfl
 rw [hsl,hnd]
 have e:(1-((s.getD (num n l+j) 0:Nat):Int)).toNat=1-s.getD (num n l+j) 0:=by omega
 rw [e]
 by_cases hc:(drt c l j=true∨l=hgt n)∧t=1-s.getD (num n l+j) 0
 ·rw [if_pos hc,if_pos ⟨by unfold ee;omega,hp,hb.2 hc.1,hc.2⟩]
 ·rw [if_neg hc,if_neg (fun g=>hc ⟨hb.1 g.2.2.1,g.2.2.2⟩)]
theorem rq (hll:L.length=n) (hlc:Lc.length=n) (hcl:c.length=n) (ho:∀i,i<n→c.getD i false=false→L.getD i Rec.zero=Lc.getD i Rec.zero) {l j:Nat} (hd:drt c l j=false):bK L l j=bK Lc l j:=by
 have hi:∀i,i<n→idx i l=j→L.getD i Rec.zero=Lc.getD i Rec.zero:=fun i hi hx=>ho i hi (by
  cases hc:c.getD i false with
  | false=>rfl
  | true=>rw [eJ.2 ⟨i,by omega,hc,hx⟩] at hd;cases hd)
 apply fQ
 rw [a9,a9,hll,hlc]
 constructor
 ·intro h i h1 h2;rw [←hi i h1 h2];exact h i h1 h2
 ·intro h i h1 h2;rw [hi i h1 h2];exact h i h1 h2
theorem rR (hll:L.length=n) (hlc:Lc.length=n) (hcl:c.length=n) (ho:∀i,i<n→c.getD i false=false→L.getD i Rec.zero=Lc.getD i Rec.zero):∀{l j:Nat},l≤hgt n→j<cnt n l→drt c l j=false→aK L (bZ n c s) l j=aK Lc s l j
 | 0,j,hl,hj,hd=>by
  rw [aP,aP,hll,hlc]
  refine cg (fun w hw=> ?_) (fun w hw=>by simp)
  by_cases hp:w<prt n 0 j
  ·rw [if_pos ⟨hp,rfl⟩,if_pos ⟨hp,rfl⟩]
   have h4:4*j+w<n:=(bM hw).1 hp
   refine ho _ h4 ?_
   cases hc:c.getD (4*j+w) false with
   | false=>rfl
   | true=>rw [eJ.2 ⟨4*j+w,by omega,hc,by show (4*j+w)/4=j;omega⟩] at hd;cases hd
  ·rw [if_neg (fun g=>hp g.1),if_neg (fun g=>hp g.1)]
 | l+1,j,hl,hj,hd=>by
  rw [aP,aP,hll,hlc]
  refine cg (fun w hw=>by simp) (fun w hw=> ?_)
  by_cases hp:w<prt n (l+1) j
  ·rw [if_pos ⟨hp,by omega⟩,if_pos ⟨hp,by omega⟩,Nat.add_sub_cancel]
   have hk:4*j+w<cnt n l:=(bM hw).1 hp
   have hd2:drt c l (4*j+w)=false:=by
    cases hc:drt c l (4*j+w) with
    | false=>rfl
    | true=>rw [zv.2 ⟨w,hw,hc⟩] at hd;cases hd
   have h5:=rR hll hlc hcl ho (l:=l) (by omega) hk hd2
   have h6:=rq hll hlc hcl ho hd2
   have h7:(bZ n c s).getD (num n l+(4*j+w)) 0=s.getD (num n l+(4*j+w)) 0:=by
    rw [eY (by omega) hk,gH,if_neg (by rw [hd2];decide)]
   have h8:(bZ n c s).getD (num L.length l+(4*j+w)) 0=s.getD (num Lc.length l+(4*j+w)) 0:=by rw [hll,hlc];exact h7
   by_cases he:bK Lc l (4*j+w)=true
   ·rw [rz he,rz (h6.trans he)]
   ·have he2:¬bK L l (4*j+w)=true:=fun g=>he (h6.symm.trans g)
    unfold cX
    rw [if_neg he,if_neg he2]
    exact Ent.ext' (congrArg (fun q=>(q+1)%2^8) h8) (congrArg (fun q=>bI (aM q)) h5)
  ·rw [if_neg (fun g=>hp g.1),if_neg (fun g=>hp g.1)]
theorem wx (hll:L.length=n) (l j:Nat) (hl:l≤hgt n):aK L (gL n c s) l j=aK L (bZ n c s) l j:=jd fun v q hv hq=>by
 rw [hll] at hq⊢
 rw [ff (by omega) hq,eY (by omega) hq,if_neg (by omega)]
theorem xC (hll:L.length=n):cq L (gL n c s)=cq L (bZ n c s):=by
 unfold cq;rw [hll,wx hll _ _ (Nat.le_refl _)]
theorem Work.keep (h:Work n k con L c s now Lc dur cell):Intact n k (nt n con L c s) Lc s dur cell:=by
 refine h.int.congr (fun q hq=> ?_) fun i hi h0=> ?_
 ·obtain ⟨l,j,hl,hj,rfl⟩:=dI hq
  have hs:=h.ok.m.sl (num n l+j)
  unfold Con.top
  rw [lw h.ok h.ll hl hj hs,if_neg (by omega)]
 ·have h2:=ei (h.int.ok.rc i (by rw [h.int.ll];exact hi))
  unfold Con.top
  rw [mT h.ok h.ll (by omega)]
theorem Work.flush (h:Work n k con L c s now Lc dur cell) (hep:cell.ep<2^63):
  Work n k (nt n con L c s) L (fls n) (gL n c s) now L now (cell.nxt (cq L (bZ n c s))):=by
 have hb:=h.int.bl
 have hdat:∀i,i<n→Hold k (nt n con L c s) i (L.getD i Rec.zero) (now.getD i Dig.zero):=fun i hi=>by
  have h2:=ei (h.ok.m.rc i (by rw [h.ll];exact hi))
  rcases h.dat i hi with h3 |⟨h3,h4,h5⟩
  ·exact .inl h3
  ·refine .inr ⟨h3, ?_,h5⟩
   unfold Con.top at h4⊢
   rw [mT h.ok h.ll (by omega)];exact h4
 have hokm:OkM L (gL n c s):=by have:=h.ok.pub;rwa [h.ll] at this
 refine ⟨⟨h.ll,hokm,h.nl,fun l j hl hj he=> ?_,hdat, ?_, ?_⟩, ?_,h.ll,h.nl,hdat,fun i _ _=>⟨rfl,rfl⟩,fun i _ hc=>by rw [jl] at hc;cases hc⟩
 ·have hs:=h.ok.m.sl (num n l+j)
  rw [iP,wx h.ll _ _ hl,ff hl hj]
  unfold Con.top
  by_cases hd:drt c l j=true∨l=hgt n
  ·have e:(if l=hgt n then 1-s.getD (num n l+j) 0 else gH n c s l j)=1-s.getD (num n l+j) 0:=by
    rcases hd with hd | hd
    ·unfold gH;rw [if_pos hd];split<;>rfl
    ·rw [if_pos hd]
   rw [e,lw h.ok h.ll hl hj (by omega),if_pos ⟨hd,rfl⟩]
   rfl
  ·have h1:¬l=hgt n:=fun g=>hd (.inr g)
   have h2:drt c l j=false:=by cases hc:drt c l j with | false=>rfl | true=>exact absurd (.inl hc) hd
   have e:(if l=hgt n then 1-s.getD (num n l+j) 0 else gH n c s l j)=s.getD (num n l+j) 0:=by
    rw [if_neg h1,gH,if_neg (by rw [h2];decide)]
   have ho:=fun i hi hc=>(h.old i hi hc).1
   rw [e,lw h.ok h.ll hl hj hs,if_neg (fun g=>hd g.1),rR h.ll h.int.ll h.cl ho hl hj h2]
   have h3:=h.int.nds l j hl hj (.inr (by rw [←rq h.ll h.int.ll h.cl ho h2];rcases he with he | he;exact absurd he h1;exact he))
   rw [iP] at h3
   exact h3
 ·rw [xC h.ll];rfl
 ·have h1:gL n c s=gL n c s:=rfl
  have h0:(0:Nat)<cnt n (hgt n):=dk hb.1 _
  have h2:=ff (n:=n) (c:=c) (s:=s) (l:=hgt n) (j:=0) (Nat.le_refl _) h0
  rw [Nat.add_zero,if_pos rfl] at h2
  rw [h2,←h.int.slot]
  show (cell.ep+1)%2^64%2=_
  omega
 ·have:=OkW.fls hokm;rwa [h.ll] at this
def zL (n:Nat):List Rec:=List.replicate n Rec.zero
def zD (n:Nat):List Dig:=List.replicate n Dig.zero
def zS (n:Nat):List Nat:=(List.replicate (tot n) 1).set (tot n-1) 0
def zC (n:Nat):Con:=Con.put (fun _=> []) (ee n (tot n-1) 0) (some (aM (Nod.mt (hgt n) 0)))
theorem lY (n i:Nat):(zL n).getD i Rec.zero=Rec.zero:=by simp only [zL,List.getD_eq_getElem?_getD,List.getElem?_replicate];split<;>rfl
theorem F4 (n i:Nat):(zD n).getD i Dig.zero=Dig.zero:=by simp only [zD,List.getD_eq_getElem?_getD,List.getElem?_replicate];split<;>rfl
theorem Im (n i:Nat):(zS n).getD i 0≤1:=by
 simp only [zS,List.getD_eq_getElem?_getD,List.getElem?_set,List.length_replicate,List.getElem?_replicate]
 split
 ·split<;>simp
 ·split<;>simp
theorem tc (n l j:Nat):bK (zL n) l j=true:=a9.2 fun i _ _=>by rw [lY];rfl
theorem zX (n:Nat) (S:List Nat) (l j:Nat):aK (zL n) S l j=Nod.mt l j:=by
 rw [aP]
 refine zJ (fun w _=> ?_) fun w _=> ?_
 ·split
  ·exact lY _ _
  ·rfl
 ·split
  ·exact if_pos (tc _ _ _)
  ·rfl
theorem zM {n:Nat} (h1:1≤n) (h2:n≤4096):OkM (zL n) (zS n):=⟨by simp [zL,h1],by simp [zL,h2],fun i _=>by rw [lY];rfl,by simp [zS,zL],Im n⟩
theorem Be {n:Nat} (h1:1≤n) (h2:n≤4096):(zS n).getD (num n (hgt n)) 0=0:=by
 have ht:=eR h1 h2
 have e:num n (hgt n)=tot n-1:=by omega
 rw [e]
 simp only [zS,List.getD_eq_getElem?_getD,List.getElem?_set,List.length_replicate,if_pos (show tot n-1<tot n by omega)]
 simp
theorem zI {n:Nat} (k:Key) (h1:1≤n) (h2:n≤4096):Intact n k (zC n) (zL n) (zS n) (zD n) (gO n):=by
 have ht:=eR h1 h2
 have hz:(zL n).length=n:=by simp [zL]
 refine ⟨hz,zM h1 h2,by simp [zD],fun l j hl hj he=> ?_,fun i hi=> .inl ⟨by rw [lY];rfl,F4 _ _⟩, ?_, ?_⟩
 ·have hl2:l=hgt n:=by rcases he with he | he;exact he;rw [tc] at he;cases he
  subst hl2
  rw [eg h1 h2] at hj
  have hj0:j=0:=by omega
  subst hj0
  rw [iP,Nat.add_zero,Be h1 h2,zX,zC,Con.top_put,if_pos (by rw [show num n (hgt n)=tot n-1 by omega])]
 ·show bI _=cq _ _
  rw [cq,hz,zX]
 ·rw [Be h1 h2];rfl
theorem zW {n:Nat} (k:Key) (h1:1≤n) (h2:n≤4096):Work n k (zC n) (zL n) (fls n) (zS n) (zD n) (zL n) (zD n) (gO n):=by
 have hz:(zL n).length=n:=by simp [zL]
 have hI:=zI k h1 h2
 refine ⟨hI, ?_,hz,by simp [zD],hI.dat,fun i _ _=>⟨rfl,rfl⟩,fun i _ hc=>by rw [jl] at hc;cases hc⟩
 have:=OkW.fls (zM h1 h2);rwa [hz] at this
end
end Go.Cs
namespace Go.Cs
open Go Go.RowKit
theorem nH {out:List Nod} {r:(Nat×Nat)×List Nod} (h:r.1.2≠0):Lq out r=(r.1, []):=if_pos h
theorem CD (a b:List Nod) (r:(Nat×Nat)×List Nod):Lq a (Lq b r)=Lq (a++b) r:=by
 unfold Lq;by_cases h:r.1.2=0<;>simp [h]
theorem v6 {n:Nat} {pv:Pv} {b i:Nat} {x:Nod} {p:Nat×Nat} {y:Nod} (h:¬(x.es.get (idx b i%4)).st=0) (hy:Ca n pv i (4*x.ix+idx b i%4) ((x.es.get (idx b i%4)).st-1) (x.es.get (idx b i%4)).dg=(p,y)) (hp:p.2≠0):Cd n pv b (i+1) x=(p, []):=by
 rw [Cd,if_neg h,hy,if_pos hp]
end Go.Cs
