/- Lemmas and walks: what each function does, by its own code. No condition beyond those of each statement. -/
import Derived.Test.YtkmhgepdhilllaaGreatDoorT1
import Derived.Laws.Small
set_option linter.all false
set_option linter.unusedVariables false
namespace Go.Cs
open Go Go.RowKit
def zaZ (x:Un) (w:Nat):Nat:=if (x.nd.rs.get w).st=0∨2<(x.nd.rs.get w).st then 0 else if x.g w=true then (x.nd.rs.get w).st-1 else 2-(x.nd.rs.get w).st
theorem zjz (x:Un) (w:Nat):zaZ x w≤1:=by unfold zaZ;split;omega;split<;>omega
def zbk (x:Un) (w:Nat) (n:Non) (t:Dig):Rec:=⟨zaZ x w+1,n,t,by have:=zjz x w;omega⟩
def set1 (ts:List Un) (b:Nat) (n:Non) (t:Dig):List Un:=ts.set (b/4) ((((ts.getD (b/4) Un.zero).setR (b%4) (zbk (ts.getD (b/4) Un.zero) (b%4) n t)).setCh (b%4) true).setDt true)
def zeP (n b m:Nat) (ts:List Un):List Un:=ts.set (num n (m+1)+idx b (m+1)) (((ndU n ts (m+1) (idx b (m+1))).setE ((ndU n ts m (idx b m)).nd.ix%4) (enU (ndU n ts m (idx b m)))).setDt true)
def zau (n b:Nat) (ts:List Un):Nat→List Un
 | 0=>ts
 | m+1=>zeP n b m (zau n b ts m)
def zc4 (n:Nat) (ts:List Un) (b:Nat) (x:Non) (t:Dig):List Un:=zau n b (set1 ts b x t) (hgt n)
structure GoodT (n:Nat) (ts:List Un):Prop where
 len:ts.length=tot n
 pl:∀l j,l≤hgt n→j<cnt n l→zaD (ndU n ts l j).nd=0∧(ndU n ts l j).nd.lv=l∧(ndU n ts l j).nd.ix=j
theorem GoodT.of {n:Nat} {ts:List Un} (hl:ts.length=tot n) (h:zbQ n (zbi n ts)=0):GoodT n ts:=⟨hl,fun l j h1 h2=>by
 have h3:=(zm7 (zk6 h h1 h2)).1
 exact ⟨(zcM h3.2.2).1,h3.1,h3.2.1⟩⟩
theorem zmL {n l j a b:Nat} {ts:List Un} {x:Un} (hl:ts.length=tot n) (h1:l≤hgt n) (h2:j<cnt n l) (h3:a≤hgt n) (h4:b<cnt n a):ndU n (ts.set (num n l+j) x) a b=if a=l∧b=j then x else ndU n ts a b:=by
 have hlt:=zaG h1 h2
 unfold ndU
 rw [List.getD_eq_getElem?_getD,List.getElem?_set]
 by_cases h:num n l+j=num n a+b
 ·obtain ⟨rfl,rfl⟩:=zhr h2 h4 h
  rw [if_pos rfl,if_pos (by omega),if_pos ⟨rfl,rfl⟩];rfl
 ·rw [if_neg h,if_neg (by rintro ⟨rfl,rfl⟩;exact h rfl),←List.getD_eq_getElem?_getD]
theorem GoodT.set {n l j:Nat} {ts:List Un} {x:Un} (h:GoodT n ts) (h1:l≤hgt n) (h2:j<cnt n l) (hc:zaD x.nd=0) (hv:x.nd.lv=l) (hx:x.nd.ix=j):GoodT n (ts.set (num n l+j) x):=
 ⟨by rw [List.length_set];exact h.len,fun a b h3 h4=>by
  rw [zmL h.len h1 h2 h3 h4]
  split
  ·next he=>obtain ⟨rfl,rfl⟩:=he;exact ⟨hc,hv,hx⟩
  ·exact h.pl a b h3 h4⟩
theorem zpH (x:Un) (w:Nat) (n:Non) (t:Dig):zaW (zbk x w n t)=0:=by
 have:=zjz x w
 unfold zaW
 show (if 2<zaZ x w+1 then 1 else if zaZ x w+1=0 then _ else 0)=0
 rw [if_neg (by omega),if_neg (by omega)]
theorem GoodT.set1 {n b:Nat} {ts:List Un} {x:Non} {t:Dig} (h:GoodT n ts) (hb:b<n):GoodT n (set1 ts b x t):=by
 have hg:b/4<cnt n 0:=zbu hb 0
 have h0:num n 0+b/4=b/4:=Nat.zero_add _
 have hp:=h.pl 0 (b/4) (Nat.zero_le _) hg
 unfold ndU at hp
 rw [h0] at hp
 have:=h.set (l:=0) (j:=b/4) (x:=(((ts.getD (b/4) Un.zero).setR (b%4) (zbk (ts.getD (b/4) Un.zero) (b%4) x t)).setCh (b%4) true).setDt true) (Nat.zero_le _) hg
  ((zjP (Nat.mod_lt _ (by decide)) hp.1 hp.2.1).trans (zpH _ _ _ _)) hp.2.1 hp.2.2
 rwa [h0] at this
theorem zqV {x:Un} (h:slU x=0∨slU x=1):zbc (enU x)=0:=by
 unfold enU
 split
 ·decide
 ·have h2:(slU x+1).toNat%2^8=1∨(slU x+1).toNat%2^8=2:=by rcases h with h | h<;>rw [h]<;>decide
  unfold zbc
  rw [if_neg (show ¬2<(slU x+1).toNat%2^8 by omega),if_neg (show ¬(slU x+1).toNat%2^8=0 by omega)]
def Slt (n:Nat) (ts:List Un):Prop:=∀l j,l≤hgt n→j<cnt n l→(ndU n ts l j).sl=0∨(ndU n ts l j).sl=1
theorem Slt.of {n:Nat} {ts:List Un} (hl:ts.length=tot n) (h:zfv ts=true):Slt n ts:=fun l j h1 h2=>zdx.1 h _ (by rw [hl];exact zaG h1 h2)
theorem zls {x:Un} (h:x.sl=0∨x.sl=1):slU x=0∨slU x=1:=by unfold slU;split<;>omega
theorem Slt.set {n l j:Nat} {ts:List Un} {x:Un} (h:Slt n ts) (hl:ts.length=tot n) (h1:l≤hgt n) (h2:j<cnt n l) (hx:x.sl=(ndU n ts l j).sl):Slt n (ts.set (num n l+j) x):=fun a b h3 h4=>by
 rw [zmL hl h1 h2 h3 h4]
 split
 ·rw [hx];exact h l j h1 h2
 ·exact h a b h3 h4
theorem Slt.set1 {n b:Nat} {ts:List Un} {x:Non} {t:Dig} (h:Slt n ts) (hl:ts.length=tot n) (hb:b<n):Slt n (Cs.set1 ts b x t):=by
 have h0:num n 0+b/4=b/4:=Nat.zero_add _
 have:=h.set (l:=0) (j:=b/4) (x:=(((ts.getD (b/4) Un.zero).setR (b%4) (zbk (ts.getD (b/4) Un.zero) (b%4) x t)).setCh (b%4) true).setDt true) hl (Nat.zero_le _) (zbu hb 0) (by unfold ndU;rw [h0];rfl)
 rwa [h0] at this
theorem zqT {n b m:Nat} {ts:List Un} (h:GoodT n ts) (hs:Slt n ts) (hb:b<n) (hm:m<hgt n):GoodT n (zeP n b m ts)∧Slt n (zeP n b m ts):=by
 have hj:=zbu hb (m+1)
 have hp:=h.pl (m+1) (idx b (m+1)) hm hj
 exact ⟨h.set hm hj ((zoP (Nat.mod_lt _ (by decide)) hp.1 (by omega)).trans (zqV (zls (hs m (idx b m) (by omega) (zbu hb m))))) hp.2.1 hp.2.2,hs.set h.len hm hj rfl⟩
theorem zlr {n b:Nat} {ts:List Un} (h:GoodT n ts) (hs:Slt n ts) (hb:b<n):∀{m:Nat},m≤hgt n→GoodT n (zau n b ts m)∧Slt n (zau n b ts m)
 | 0,_=>⟨h,hs⟩
 | m+1,hm=>by
  have ih:=zlr h hs hb (m:=m) (by omega)
  exact zqT ih.1 ih.2 hb hm
def za1 (L:List Rec) (c:List Bool) (b:Nat):Nat:=if (L.getD b Rec.zero).st=0 then 0 else if c.getD b false=true then (L.getD b Rec.zero).st-1 else 2-(L.getD b Rec.zero).st
theorem zsK (L:List Rec) (c:List Bool) (b:Nat):za1 L c b+1<256:=by have:=(L.getD b Rec.zero).hst;unfold za1;split;omega;split<;>omega
def zaH (L:List Rec) (c:List Bool) (b:Nat) (x:Non) (t:Dig):Rec:=⟨za1 L c b+1,x,t,zsK L c b⟩
theorem zir {r:Rec} (h:zaW r=0):r.st≤2:=by unfold zaW at h;split at h;cases h;omega
section
variable {L:List Rec} {c:List Bool} {s:List Nat} {b:Nat} {x:Non} {t:Dig}
theorem zsY (hO:OkW L c s) (hb:b<L.length):za1 L c b≤1:=by have:=zir (hO.m.rc b hb);unfold za1;split;omega;split<;>omega
theorem zpp (hO:OkW L c s) (hb:b<L.length):zaW (zaH L c b x t)=0:=by
 have:=zsY hO hb
 unfold zaW
 show (if 2<za1 L c b+1 then 1 else if za1 L c b+1=0 then _ else 0)=0
 rw [if_neg (by omega),if_neg (by omega)]
theorem zby {α:Type} {l:List α} {i j:Nat} {y d:α} (h:i<l.length):(l.set i y).getD j d=if j=i then y else l.getD j d:=by
 simp only [List.getD_eq_getElem?_getD,List.getElem?_set]
 by_cases h1:i=j
 ·subst h1;simp [h]
 ·rw [if_neg h1,if_neg (fun hh=>h1 hh.symm)]
theorem OkW.set (hO:OkW L c s) (hb:b<L.length):OkW (L.set b (zaH L c b x t)) (c.set b true) s:=by
 have hl:(L.set b (zaH L c b x t)).length=L.length:=List.length_set
 have hcb:b<c.length:=by rw [hO.hc];exact hb
 refine ⟨⟨by rw [hl];exact hO.m.n1,by rw [hl];exact hO.m.n2,fun i hi=> ?_,by rw [hl];exact hO.m.len,hO.m.sl⟩,by rw [List.length_set,hl];exact hO.hc,fun i hi=> ?_⟩
 ·rw [zby hb];split
  ·exact zpp hO hb
  ·exact hO.m.rc i (by rw [hl] at hi;exact hi)
 ·rw [zby hb];rw [zby hcb] at hi
  split
  ·exact Nat.succ_ne_zero _
  ·next h1=>rw [if_neg h1] at hi;exact hO.cr i hi
theorem zqb {l k:Nat} {r:Rec} (hb:b<L.length) (h:k≠idx b l):zaI (L.set b r) l k=zaI L l k:=by
 refine zgn ?_
 rw [zbr,zbr,List.length_set]
 constructor
 ·intro h1 i hi he
  have:=h1 i hi he
  rwa [zby hb,if_neg (by rintro rfl;exact h he.symm)] at this
 ·intro h1 i hi he
  rw [zby hb,if_neg (by rintro rfl;exact h he.symm)];exact h1 i hi he
theorem zm0 {l k:Nat} (hb:b<c.length) (h:k≠idx b l):drt (c.set b true) l k=drt c l k:=by
 refine zgn ?_
 rw [zeb,zeb,List.length_set]
 constructor
 ·rintro ⟨i,hi,h1,he⟩
  rw [zby hb,if_neg (by rintro rfl;exact h he.symm)] at h1;exact ⟨i,hi,h1,he⟩
 ·rintro ⟨i,hi,h1,he⟩
  exact ⟨i,hi,by rw [zby hb,if_neg (by rintro rfl;exact h he.symm)];exact h1,he⟩
theorem zoq {l:Nat} (hb:b<c.length):drt (c.set b true) l (idx b l)=true:=zeb.2 ⟨b,by rw [List.length_set];exact hb,by rw [zby hb,if_pos rfl],rfl⟩
theorem zmE {n l k:Nat} (hb:b<c.length) (h:k≠idx b l) (hl:l≤hgt n) (hk:k<cnt n l):(zaQ n (c.set b true) s).getD (num n l+k) 0=(zaQ n c s).getD (num n l+k) 0:=by
 rw [zet hl hk,zet hl hk];unfold zdQ;rw [zm0 hb h]
theorem zm8 {l k:Nat} {r:Rec} {S S':List Nat} (hb:b<L.length) (h:k≠idx b l) (hS:S'.getD (num L.length l+k) 0=S.getD (num L.length l+k) 0) (hn:zao (L.set b r) S' l k=zao L S l k):zbF (L.set b r) S' l k=zbF L S l k:=by
 unfold zbF
 rw [zqb hb h]
 by_cases he:zaI L l k=true
 ·rw [if_pos he,if_pos he]
 ·rw [if_neg he,if_neg he]
  refine Ent.ext' ?_ ?_
  ·show (S'.getD (num (L.set b r).length l+k) 0+1)%2^8=(S.getD (num L.length l+k) 0+1)%2^8
   rw [List.length_set,hS]
  ·show zS (zN (zao (L.set b r) S' l k))=zS (zN (zao L S l k))
   rw [hn]
theorem zjF {r:Rec} (hb:b<L.length) (hbc:b<c.length):∀{l k:Nat},l≤hgt L.length→k≠idx b l→k<cnt L.length l→zao (L.set b r) (zaQ L.length (c.set b true) s) l k=zao L (zaQ L.length c s) l k
 | 0,k,hl,h,hk=>by
  have h:k≠b/4:=h
  rw [zaS,zaS,List.length_set]
  refine zbv (fun i hi=> ?_) (fun i hi=>by simp)
  rw [zby hb,if_neg (show ¬4*k+i=b by omega)]
 | l+1,k,hl,h,hk=>by
  have h:k≠idx b l/4:=h
  rw [zaS,zaS,List.length_set]
  refine zbv (fun i hi=>by simp) (fun i hi=> ?_)
  by_cases hp:i<prt L.length (l+1) k
  ·have hc:4*k+i<cnt L.length l:=(zbe hi).1 hp
   rw [if_pos ⟨hp,by omega⟩,if_pos ⟨hp,by omega⟩,Nat.add_sub_cancel]
   exact zm8 hb (by omega) (zmE hbc (by omega) (by omega) hc) (zjF hb hbc (by omega) (by omega) hc)
  ·rw [if_neg (fun hh=>hp hh.1),if_neg (fun hh=>hp hh.1)]
theorem zmU {n l k:Nat} (hb:b<c.length) (h:k≠idx b l∨l≠0):chU n (c.set b true) l k=chU n c l k:=by
 unfold chU
 refine List.map_congr_left fun w hw=> ?_
 have hw:=List.mem_range.1 hw
 by_cases h0:l=0
 ·subst h0
  have h:k≠b/4:=h.resolve_right (fun hh=>hh rfl)
  rw [zby hb,if_neg (show ¬4*k+w=b by omega)]
 ·simp [h0]
theorem ztc {l k:Nat} (hO:OkW L c s) (hb:b<L.length) (hl:l≤hgt L.length) (h:k≠idx b l) (hk:k<cnt L.length l):zaA (L.set b (zaH L c b x t)) (c.set b true) s l k=zaA L c s l k:=by
 have hbc:b<c.length:=by rw [hO.hc];exact hb
 refine Un.ext' ?_ ?_ (zm0 hbc h) ?_
 ·show zao (L.set b (zaH L c b x t)) (zaQ (L.set b (zaH L c b x t)).length (c.set b true) s) l k=zao L (zaQ L.length c s) l k
  rw [List.length_set];exact zjF hb hbc hl h hk
 ·show (((s.getD (num (L.set b (zaH L c b x t)).length l+k) 0:Nat):Int))=((s.getD (num L.length l+k) 0:Nat):Int)
  rw [List.length_set]
 ·show chU (L.set b (zaH L c b x t)).length (c.set b true) l k=chU L.length c l k
  rw [List.length_set];exact zmU hbc (.inl h)
theorem zlF (hO:OkW L c s) (hb:b<L.length):zbk (zaA L c s 0 (b/4)) (b%4) x t=zaH L c b x t:=by
 have h1:((zaA L c s 0 (b/4)).nd.rs.get (b%4))=L.getD b Rec.zero:=by
  show (zao L (zaQ L.length c s) 0 (b/4)).rs.get (b%4)=_
  have hm:b%4<4:=Nat.mod_lt _ (by decide)
  rw [zaS,zeq _ _ _ _ _ hm,if_pos ⟨(zbe hm).2 (show 4*(b/4)+b%4<L.length by omega),rfl⟩,show 4*(b/4)+b%4=b by omega]
 have h2:(zaA L c s 0 (b/4)).g (b%4)=c.getD b false:=by
  rw [ziQ (Nat.mod_lt _ (by decide)),show 4*(b/4)+b%4=b by omega];simp [hb]
 have h3:=zir (hO.m.rc b hb)
 refine Rec.ext' ?_ rfl rfl
 show zaZ (zaA L c s 0 (b/4)) (b%4)+1=za1 L c b+1
 unfold zaZ za1
 rw [h1,h2]
 by_cases h4:(L.getD b Rec.zero).st=0
 ·rw [if_pos (.inl h4),if_pos h4]
 ·rw [if_neg (by omega),if_neg h4]
theorem zrM (hO:OkW L c s) (hb:b<L.length):(((zaA L c s 0 (b/4)).setR (b%4) (zaH L c b x t)).setCh (b%4) true).setDt true=zaA (L.set b (zaH L c b x t)) (c.set b true) s 0 (b/4):=by
 have hbc:b<c.length:=by rw [hO.hc];exact hb
 have hm:b%4<4:=Nat.mod_lt _ (by decide)
 refine Un.ext' ?_ ?_ (zoq (l:=0) hbc).symm ?_
 ·show (zao L (zaQ L.length c s) 0 (b/4)).setR (b%4) (zaH L c b x t)=zao (L.set b (zaH L c b x t)) (zaQ (L.set b (zaH L c b x t)).length (c.set b true) s) 0 (b/4)
  rw [zaS,zaS,List.length_set]
  unfold zb1
  rw [ziu _ hm]
  refine zbv (fun i hi=> ?_) (fun i hi=>by simp)
  rw [zby hb]
  by_cases h1:i=b%4
  ·subst h1
   rw [if_pos rfl,if_pos ⟨(zbe hm).2 (show 4*(b/4)+b%4<L.length by omega),rfl⟩,if_pos (by omega)]
  ·rw [if_neg h1,if_neg (show ¬4*(b/4)+i=b by omega)]
 ·show ((s.getD (num L.length 0+b/4) 0:Nat):Int)=((s.getD (num (L.set b (zaH L c b x t)).length 0+b/4) 0:Nat):Int)
  rw [List.length_set]
 ·show (chU L.length c 0 (b/4)).set (b%4) true=chU (L.set b (zaH L c b x t)).length (c.set b true) 0 (b/4)
  rw [List.length_set]
  refine List.ext_getElem (by simp [chU]) fun i h1 h2=> ?_
  have hi:i<4:=by simpa [chU] using h2
  rw [List.getElem_set]
  simp only [chU,List.getElem_map,List.getElem_range]
  rw [zby hbc]
  by_cases h3:i=b%4
  ·subst h3
   rw [if_pos rfl,if_pos (by omega)];simp;omega
  ·rw [if_neg (fun hh=>h3 hh.symm),if_neg (by omega)]
theorem zrE {m:Nat} (hO:OkW L c s) (hb:b<L.length) (hm:m<hgt L.length):
  ((zaA L c s (m+1) (idx b (m+1))).setE (idx b m%4) (zbF (L.set b (zaH L c b x t)) (zaQ (L.set b (zaH L c b x t)).length (c.set b true) s) m (idx b m))).setDt true=zaA (L.set b (zaH L c b x t)) (c.set b true) s (m+1) (idx b (m+1)):=by
 have hbc:b<c.length:=by rw [hO.hc];exact hb
 have hw:idx b m%4<4:=Nat.mod_lt _ (by decide)
 have hlt:=zbu hb m
 have hj:idx b (m+1)=idx b m/4:=rfl
 refine Un.ext' ?_ ?_ (zoq (l:=m+1) hbc).symm ?_
 ·show (zao L (zaQ L.length c s) (m+1) (idx b (m+1))).setE (idx b m%4) (zbF (L.set b (zaH L c b x t)) (zaQ (L.set b (zaH L c b x t)).length (c.set b true) s) m (idx b m))=zao (L.set b (zaH L c b x t)) (zaQ (L.set b (zaH L c b x t)).length (c.set b true) s) (m+1) (idx b (m+1))
  rw [List.length_set,zaS,zaS,List.length_set]
  unfold zb1
  rw [zii _ hw]
  refine zbv (fun i hi=>by simp) (fun i hi=> ?_)
  by_cases h1:i=idx b m%4
  ·subst h1
   rw [if_pos rfl,if_pos ⟨(zbe hi).2 (by rw [zd3,hj];omega),by omega⟩,Nat.add_sub_cancel,hj,show 4*(idx b m/4)+idx b m%4=idx b m by omega]
  ·rw [if_neg h1]
   by_cases hp:i<prt L.length (m+1) (idx b (m+1))
   ·have hc2:4*idx b (m+1)+i<cnt L.length m:=(zbe hi).1 hp
    rw [if_pos ⟨hp,by omega⟩,if_pos ⟨hp,by omega⟩,Nat.add_sub_cancel]
    exact (zm8 hb (by omega) (zmE hbc (by omega) (by omega) hc2) (zjF hb hbc (by omega) (by omega) hc2)).symm
   ·rw [if_neg (fun hh=>hp hh.1),if_neg (fun hh=>hp hh.1)]
 ·show ((s.getD (num L.length (m+1)+idx b (m+1)) 0:Nat):Int)=((s.getD (num (L.set b (zaH L c b x t)).length (m+1)+idx b (m+1)) 0:Nat):Int)
  rw [List.length_set]
 ·show chU L.length c (m+1) (idx b (m+1))=chU (L.set b (zaH L c b x t)).length (c.set b true) (m+1) (idx b (m+1))
  rw [List.length_set];exact (zmU hbc (.inr (by omega))).symm
def zhw (L:List Rec) (c:List Bool) (s:List Nat) (b:Nat) (L':List Rec) (c':List Bool) (m l j:Nat):Un:=if l≤m∧j=idx b l then zaA L' c' s l j else zaA L c s l j
theorem zmQ (hO:OkW L c s) (hb:b<L.length):∀{m:Nat},m≤hgt L.length→zau L.length b (set1 (zaw L c s) b x t) m=TX L.length (zhw L c s b (L.set b (zaH L c b x t)) (c.set b true) m)
 | 0,_=>by
  have hg:b/4<cnt L.length 0:=zbu hb 0
  have h0:num L.length 0+b/4=b/4:=Nat.zero_add _
  have hx:(zaw L c s).getD (b/4) Un.zero=zaA L c s 0 (b/4):=by
   have:=zdc (L:=L) (c:=c) (s:=s) (Nat.zero_le _) hg
   unfold ndU at this;rwa [h0] at this
  show set1 (zaw L c s) b x t=_
  unfold set1
  rw [hx,zlF hO hb,zrM hO hb]
  have h1:=zha (f:=zaA L c s) Un.zero (zaA (L.set b (zaH L c b x t)) (c.set b true) s 0 (b/4)) (Nat.zero_le _) hg
  rw [h0] at h1
  refine h1.trans (zcQ Un.zero fun l j hl hj=> ?_)
  unfold zhw
  by_cases h2:l=0∧j=b/4
  ·obtain ⟨rfl,rfl⟩:=h2
   rw [if_pos ⟨rfl,rfl⟩,if_pos ⟨Nat.le_refl _,rfl⟩]
  ·rw [if_neg h2,if_neg (fun h3=>h2 ⟨Nat.le_zero.1 h3.1,by have h4:=h3.2;rwa [Nat.le_zero.1 h3.1] at h4⟩)]
 | m+1,hm=>by
  have hO':=hO.set (x:=x) (t:=t) hb
  have hl':(L.set b (zaH L c b x t)).length=L.length:=List.length_set
  show zeP L.length b m (zau L.length b (set1 (zaw L c s) b x t) m)=_
  rw [zmQ hO hb (m:=m) (by omega)]
  have hj:=zbu hb (m+1)
  have hjm:=zbu hb m
  have e1:ndU L.length (TX L.length (zhw L c s b (L.set b (zaH L c b x t)) (c.set b true) m)) (m+1) (idx b (m+1))=zaA L c s (m+1) (idx b (m+1)):=by
   unfold ndU;rw [zcG Un.zero hm hj];unfold zhw;rw [if_neg (by omega)]
  have e2:ndU L.length (TX L.length (zhw L c s b (L.set b (zaH L c b x t)) (c.set b true) m)) m (idx b m)=zaA (L.set b (zaH L c b x t)) (c.set b true) s m (idx b m):=by
   unfold ndU;rw [zcG Un.zero (by omega) hjm];unfold zhw;rw [if_pos ⟨Nat.le_refl _,rfl⟩]
  have e3:(zaA (L.set b (zaH L c b x t)) (c.set b true) s m (idx b m)).nd.ix=idx b m:=zd7 (by rw [hl'];exact hO.m.n2) (by rw [hl'];omega) (by rw [hl'];exact hjm)
  unfold zeP
  rw [e1,e2,e3,znb hO' (by rw [hl'];omega) (by rw [hl'];exact hjm),zrE hO hb hm,zha Un.zero _ hm hj]
  refine zcQ Un.zero fun l j h1 h2=> ?_
  unfold zhw
  by_cases h3:l=m+1∧j=idx b (m+1)
  ·obtain ⟨rfl,rfl⟩:=h3
   rw [if_pos ⟨rfl,rfl⟩,if_pos ⟨Nat.le_refl _,rfl⟩]
  ·rw [if_neg h3]
   by_cases h4:l≤m∧j=idx b l
   ·rw [if_pos h4,if_pos ⟨by omega,h4.2⟩]
   ·rw [if_neg h4,if_neg (by
     rintro ⟨h5,h6⟩
     rcases Nat.lt_succ_iff_lt_or_eq.1 (Nat.lt_succ_of_le h5) with h7 | h7
     ·exact h4 ⟨by omega,h6⟩
     ·subst h7;exact h3 ⟨rfl,h6⟩)]
theorem zoo (hO:OkW L c s) (hb:b<L.length):zc4 L.length (zaw L c s) b x t=zaw (L.set b (zaH L c b x t)) (c.set b true) s:=by
 unfold zc4
 rw [zmQ hO hb (Nat.le_refl _)]
 unfold zaw
 rw [List.length_set]
 refine zcQ Un.zero fun l j h1 h2=> ?_
 unfold zhw
 by_cases h3:j=idx b l
 ·rw [if_pos ⟨h1,h3⟩]
 ·rw [if_neg (fun hh=>h3 hh.2)];exact (ztc hO hb h1 h3 h2).symm
theorem zqQ (hO:OkW L c s) (hb:b<L.length):zaZ ((zaw L c s).getD (b/4) Un.zero) (b%4)=za1 L c b:=by
 have hg:b/4<cnt L.length 0:=zbu hb 0
 have hx:(zaw L c s).getD (b/4) Un.zero=zaA L c s 0 (b/4):=by
  have:=zdc (L:=L) (c:=c) (s:=s) (Nat.zero_le _) hg
  unfold ndU at this;rwa [show num L.length 0+b/4=b/4 from Nat.zero_add _] at this
 rw [hx]
 have:=congrArg Rec.st (zlF (x:=Non.zero) (t:=Dig.zero) hO hb)
 exact Nat.succ.inj this
end
def fls (n:Nat):List Bool:=List.replicate n false
theorem zgA (n i:Nat):(fls n).getD i false=false:=by simp only [fls,List.getD_eq_getElem?_getD,List.getElem?_replicate];split<;>rfl
theorem zjq (n l j:Nat):drt (fls n) l j=false:=by
 cases h:drt (fls n) l j with
 | false=>rfl
 | true=>obtain ⟨i,_,h2,_⟩:=zeb.1 h;rw [zgA] at h2;cases h2
theorem zms (n m l j:Nat):chU n (fls m) l j=List.replicate 4 false:=by
 unfold chU
 simp only [zgA,Bool.and_false]
 rfl
theorem OkW.fls {L:List Rec} {s:List Nat} (h:OkM L s):OkW L (fls L.length) s:=⟨h,by simp [Cs.fls],fun i hi=>by rw [zgA] at hi;cases hi⟩
theorem zmN {n m:Nat} {s:List Nat} (h:s.length=tot n):zaQ n (fls m) s=s:=by
 refine (zeO 0 h fun l j hl hj=> ?_).symm
 unfold zdQ;rw [zjq];rfl
def zbG (N:Nat) (ts:List Un) (k:Nat):Un:=⟨(ts.getD k Un.zero).nd,if k=N-1 then 1-(ts.getD k Un.zero).sl else slU (ts.getD k Un.zero),false,List.replicate 4 false,rfl⟩
def zc8 (N:Nat) (ts:List Un):List Un:=(List.range N).map (zbG N ts)
def ofE (t:List Nod) (z:List Int) (k:Nat):Un:=⟨t.getD k Nod.zero,z.getD k 0,false,List.replicate 4 false,rfl⟩
def ofT (N:Nat) (t:List Nod) (z:List Int):List Un:=(List.range N).map (ofE t z)
def zcT (n:Nat) (c:List Bool) (s:List Nat):List Nat:=TX n fun l j=>if l=hgt n then 1-s.getD (num n l+j) 0 else zdQ n c s l j
theorem zdY {α:Type} {f:Nat→α} {N k:Nat} (d:α) (h:k<N):((List.range N).map f).getD k d=f k:=by simp [List.getD,h]
theorem zi5 {L:List Rec} {S S':List Nat}:∀{v j:Nat},(∀l k,l<v→k<cnt L.length l→S.getD (num L.length l+k) 0=S'.getD (num L.length l+k) 0)→zao L S v j=zao L S' v j
 | 0,j,h=>by rw [zaS,zaS];exact zbv (fun i hi=>rfl) (fun i hi=>by simp)
 | v+1,j,h=>by
  rw [zaS,zaS]
  refine zbv (fun i hi=>by simp) (fun i hi=> ?_)
  by_cases hp:i<prt L.length (v+1) j
  ·have hc:4*j+i<cnt L.length v:=(zbe hi).1 hp
   rw [if_pos ⟨hp,by omega⟩,if_pos ⟨hp,by omega⟩,Nat.add_sub_cancel]
   unfold zbF
   by_cases he:zaI L v (4*j+i)=true
   ·rw [if_pos he,if_pos he]
   ·rw [if_neg he,if_neg he]
    refine Ent.ext' ?_ ?_
    ·show (S.getD (num L.length v+(4*j+i)) 0+1)%2^8=(S'.getD (num L.length v+(4*j+i)) 0+1)%2^8
     rw [h v _ (Nat.lt_succ_self v) hc]
    ·show zS (zN (zao L S v (4*j+i)))=zS (zN (zao L S' v (4*j+i)))
     rw [zi5 (fun l k h1 h2=>h l k (by omega) h2)]
  ·rw [if_neg (fun hh=>hp hh.1),if_neg (fun hh=>hp hh.1)]
section
variable {L:List Rec} {c:List Bool} {s:List Nat}
theorem ze9 {n l j:Nat} (hl:l≤hgt n) (hj:j<cnt n l):(zcT n c s).getD (num n l+j) 0=if l=hgt n then 1-s.getD (num n l+j) 0 else zdQ n c s l j:=zcG 0 hl hj
theorem ze5 (n:Nat):(zcT n c s).length=tot n:=zbL _ _
theorem OkW.pub (hO:OkW L c s):OkM L (zcT L.length c s):=⟨hO.m.n1,hO.m.n2,hO.m.rc,ze5 _,fun i=>by
 rcases Nat.lt_or_ge i (tot L.length) with hi | hi
 ·obtain ⟨l,j,h1,h2,rfl⟩:=zd0 hi
  have:=hO.m.sl (num L.length l+j)
  have:=zmO (n:=L.length) (l:=l) (j:=j) (c:=c) hO.m.sl
  rw [ze9 h1 h2];split<;>omega
 ·rw [List.getD_eq_getElem?_getD,List.getElem?_eq_none (by rw [ze5];exact hi)];exact Nat.zero_le _⟩
theorem zg0 {n l j:Nat} (h1:1≤n) (h2:n≤4096) (hl:l≤hgt n) (hj:j<cnt n l):num n l+j=tot n-1↔l=hgt n:=by
 have ht:=zcF h1 h2
 have hc:=zeE h1 h2
 constructor
 ·intro h
  exact (zhr hj (show 0<cnt n (hgt n) by omega) (by omega)).1
 ·rintro rfl;omega
theorem zsI (hO:OkW L c s) {l j:Nat} (hl:l≤hgt L.length) (hj:j<cnt L.length l):zaA L (fls L.length) (zcT L.length c s) l j=⟨zao L (zaQ L.length c s) l j,if num L.length l+j=tot L.length-1 then 1-(zaA L c s l j).sl else slU (zaA L c s l j),false,List.replicate 4 false,rfl⟩:=by
 refine Un.ext' ?_ ?_ (zjq _ _ _) (zms _ _ _ _)
 ·show zao L (zaQ L.length (fls L.length) (zcT L.length c s)) l j=_
  rw [zmN (ze5 _)]
  refine zi5 fun a k h1 h2=> ?_
  rw [ze9 (by omega) h2,if_neg (by omega),zet (by omega) h2]
 ·show (((zcT L.length c s).getD (num L.length l+j) 0:Nat):Int)=_
  have:=hO.m.sl (num L.length l+j)
  rw [ze9 hl hj,zjt hO.m.sl]
  by_cases h:l=hgt L.length
  ·rw [if_pos h,if_pos ((zg0 hO.m.n1 hO.m.n2 hl hj).2 h)]
   show _=1-((s.getD (num L.length l+j) 0:Nat):Int)
   omega
  ·rw [if_neg h,if_neg (fun hh=>h ((zg0 hO.m.n1 hO.m.n2 hl hj).1 hh))]
theorem zpR (hO:OkW L c s):zc8 (tot L.length) (zaw L c s)=zaw L (fls L.length) (zcT L.length c s):=by
 refine zeO Un.zero (by simp [zc8]) fun l j hl hj=> ?_
 have h3:(zaw L c s).getD (num L.length l+j) Un.zero=zaA L c s l j:=zdc hl hj
 unfold zc8
 rw [zdY _ (zaG hl hj),zsI hO hl hj]
 unfold zbG
 rw [h3];rfl
theorem zpN (hO:OkM L s):ofT (tot L.length) (zak L s) (s.map fun (x:Nat)=>(x:Int))=zaw L (fls L.length) s:=by
 refine zeO Un.zero (by simp [ofT]) fun l j hl hj=> ?_
 have h3:(zak L s).getD (num L.length l+j) Nod.zero=zao L s l j:=zez hl hj
 unfold ofT
 rw [zdY _ (zaG hl hj)]
 refine Un.ext' ?_ ?_ (zjq _ _ _).symm (zms _ _ _ _).symm
 ·show (zak L s).getD _ _=zao L (zaQ L.length (fls L.length) s) l j
  rw [h3,zmN hO.len]
 ·show (s.map fun (x:Nat)=>(x:Int)).getD _ 0=((s.getD _ 0:Nat):Int)
  exact zka _ _
theorem zqk (hO:OkW L c s):(zaw L c s).map Un.nd=zak L (zaQ L.length c s):=by
 unfold zaw zak TX TXp
 rw [List.map_flatMap]
 simp only [List.map_map]
 rfl
theorem znH (hO:OkW L c s):(zaw L c s).map slU=(zaQ L.length c s).map fun (x:Nat)=>(x:Int):=by
 refine List.ext_getElem (by simp [zf0,zcn]) fun i h1 h2=> ?_
 have hi:i<tot L.length:=by simpa [zcn] using h2
 obtain ⟨l,j,h3,h4,rfl⟩:=zd0 hi
 have e1:(zaw L c s).getD (num L.length l+j) Un.zero=zaA L c s l j:=zdc h3 h4
 have e2:=zet (c:=c) (s:=s) h3 h4
 have h5:num L.length l+j<(zaw L c s).length:=by rw [zf0];exact hi
 have h6:num L.length l+j<(zaQ L.length c s).length:=by rw [zcn];exact hi
 rw [List.getD_eq_getElem?_getD,List.getElem?_eq_getElem h5,Option.getD_some] at e1
 rw [List.getD_eq_getElem?_getD,List.getElem?_eq_getElem h6,Option.getD_some] at e2
 rw [List.getElem_map,List.getElem_map,e1,e2,zjt hO.m.sl]
end
end Go.Cs
namespace Go.Cs
open Go Go.RowKit
theorem zk0 (x:Un):((unC x).drop 276).take (blC x.ch).length=blC x.ch:=by
 rw [unC,List.drop_append,List.drop_eq_nil_of_le (by rw [zQ];omega),zQ,List.nil_append]
 show (blC x.ch).take _=_
 exact List.take_of_length_le (Nat.le_refl _)
theorem Es.cellb {lo hi len cap:Nat} {w:World} {xs:List Bool} {b o:Nat} (h:Es Value.bool lo hi w (some ⟨b,o,none⟩) len cap xs) {i:Nat} (hi':i<len):w.cell? ⟨b,o+i*1,none⟩=some (.bool (xs.getD i false)):=by
 have h1:i<xs.length:=by have:=h.len_eq;omega
 rw [h.cell (x:=xs[i]) (by simp [h1])]
 simp [List.getD,h1]
theorem zsd {l:List Bool} {i:Nat} (h:l.length=4) (hi:i<4):(blC l)[0+i*1]? =some (.bool (l.getD i false)):=by
 rw [Nat.zero_add,Nat.mul_one,blC,List.getElem?_map,List.getElem?_eq_getElem (by omega)];simp [List.getD,h,hi]
theorem zlx {l:List Bool} {i:Nat} (h:l.length=4) (hi:i<4):(blC l)[i]? =some (.bool (l.getD i false)):=by have:=zsd h hi;rwa [Nat.zero_add,Nat.mul_one] at this
section
variable {P:Program} {w:World}
theorem zkp {x:Un} {y:Nod}:zV (unC x) 0 (zJ y)=unC ⟨y,x.sl,x.dt,x.ch,x.hch⟩:=by
 rw [unC,zcc _ _ _ _ (by rw [zQ,zQ];omega),zy _ _ (by rw [zQ,zQ])];rfl
theorem zkN {x:Un} {s:Int}:zV (unC x) 274 [.int .i64 s]=unC ⟨x.nd,s,x.dt,x.ch,x.hch⟩:=by
 show (unC x).set 274 _=_
 rw [unC,List.set_append_right _ _ (by rw [zQ];omega),zQ];rfl
def znJ (P:Program) (T k:Nat):Option (TypeId×Nat):=match P.underlying T with | some (.struct fs)=>(fs[k]?).map fun f=>(f.type,f.offset)| _=>none
theorem zj3 {T k F o:Nat} (h:znJ P T k=some (F,o)):∃fs f,P.underlying T=some (.struct fs)∧fs[k]? =some f∧f.type=F∧f.offset=o:=by
 unfold znJ at h
 split at h
 ·next fs hu=>
  cases hf:fs[k]? with
  | none=>rw [hf] at h;cases h
  | some f=>rw [hf] at h;simp at h;exact ⟨fs,f,hu,hf,h.1,h.2⟩
 ·cases h
theorem zkm {T k F o sz:Nat} {vs us:List Value} (hv:(vs.drop o).take us.length=us) (hl:us.length=sz) (hT:znJ P T k=some (F,o):=by kernel_rfl) (hsz:(P.info? F).map (·.size)=some sz:=by kernel_rfl) (ha:(P.underlying F).map zcL=some true:=by kernel_rfl):
  (Instr.field T (.agg vs.toArray) k).run P w= .ok (.agg us.toArray) w:=by
 obtain ⟨fs,f,hu,hf,rfl,rfl⟩:=zj3 hT
 subst hl
 simp [Instr.field,asAgg,run_underlying hu,hf,zaR (w:=w) ha hsz hv]
theorem zeV {T:TypeId} (x:Nod) (s:Int) (hp:zde P T=some [(0,274),(274,1),(275,1),(276,4)]:=by kernel_rfl) (hz:(P.info? T).map (·.zero)=some (some (.agg (unC Un.zero).toArray)):=by kernel_rfl):
  (Instr.build T #[(0, .agg (zJ x).toArray),(1, .int .i64 s)]).run P w= .ok (.agg (unC ⟨x,s,false,List.replicate 4 false,rfl⟩).toArray) w:=by
 refine zcp hp hz rfl ?_
 rw [za8 (off:=0) (size:=274) (vs:=zJ x) rfl rfl (by simp) (by simp),zkp,za8 (off:=274) (size:=1) (vs:= [.int .i64 s]) rfl rfl rfl (by simp),zkN]
 rfl
theorem zft {T:TypeId} (x:Nod) (s:Int) (d:Bool) (hp:zde P T=some [(0,274),(274,1),(275,1),(276,4)]:=by kernel_rfl) (hz:(P.info? T).map (·.zero)=some (some (.agg (unC Un.zero).toArray)):=by kernel_rfl):
  (Instr.build T #[(0, .agg (zJ x).toArray),(1, .int .i64 s),(2, .bool d)]).run P w= .ok (.agg (unC ⟨x,s,d,List.replicate 4 false,rfl⟩).toArray) w:=by
 refine zcp hp hz rfl ?_
 rw [za8 (off:=0) (size:=274) (vs:=zJ x) rfl rfl (by simp) (by simp),zkp,za8 (off:=274) (size:=1) (vs:= [.int .i64 s]) rfl rfl rfl (by simp),zkN,za8 (off:=275) (size:=1) (vs:= [.bool d]) rfl rfl rfl (by simp),zil]
 rfl
theorem zl2 {α:Type} {f:α→Value} {eqb:α→α→Bool} {dd t e n:Nat} (d:α) (he:∀x y:α,(Op.equalIn dd e (f x) (f y)).run P w= .ok (eqb x y) w)
  (xs ys:List α) (hx:xs.length=n) (hy:ys.length=n) (ht:P.underlying t=some (.array n e)) (hsz:(P.info? e).map (·.size)=some 1) (ha:(P.underlying e).map zcL=some false):
  (Op.equalIn (dd+1) t (.agg (xs.map f).toArray) (.agg (ys.map f).toArray)).run P w= .ok (eqL d eqb n xs ys) w:=by
 rw [eqL,List.range_eq_range',Op.equalIn]
 simp only [Sem.run_bind,run_underlying ht,Result.andThen_ok,zbw hsz,Std.Legacy.Range.forIn_eq_forIn_range',Std.Legacy.Range.size,Nat.sub_zero,Nat.add_sub_cancel,Nat.div_one]
 have hl:∀i∈List.range' 0 n 1,i<n:=fun i hi=>by simpa using (List.mem_range'_1.1 hi).2
 generalize List.range' 0 n 1=l at hl⊢
 induction l with
 | nil=>simp
 | cons i l ih=>
  have hi:i<n:=hl i (by simp)
  have px:=zaC (P:=P) (w:=w) (o:=i*1) (vs:=xs.map f) (v:=f (xs.getD i d)) ha (by rw [Nat.mul_one,List.getElem?_map,List.getElem?_eq_getElem (by omega)];simp [List.getD,hx,hi])
  have py:=zaC (P:=P) (w:=w) (o:=i*1) (vs:=ys.map f) (v:=f (ys.getD i d)) ha (by rw [Nat.mul_one,List.getElem?_map,List.getElem?_eq_getElem (by omega)];simp [List.getD,hy,hi])
  have pe:=he (xs.getD i d) (ys.getD i d)
  simp only [List.forIn_cons,Sem.run_bind,px,py,pe,Result.andThen_ok,List.all_cons]
  cases hb:eqb (xs.getD i d) (ys.getD i d)
  ·simp
  ·simp only [Bool.not_true,Bool.false_eq_true,if_false,Sem.run_pure,Result.andThen_ok,Bool.true_and]
   exact ih fun j hj=>hl j (by simp [hj])
theorem zdX {dd t e:Nat} (xs ys:List Bool) (hx:xs.length=4) (hy:ys.length=4) (ht:P.underlying t=some (.array 4 e):=by kernel_rfl) (he:P.underlying e=some .bool:=by kernel_rfl) (hsz:(P.info? e).map (·.size)=some 1:=by kernel_rfl):
  (Op.equalIn (dd+2) t (.agg (blC xs).toArray) (.agg (blC ys).toArray)).run P w= .ok (eqL false (fun a b:Bool=>a==b) 4 xs ys) w:=
 zl2 false (fun a b=>run_equalIn_bool w dd e a b he) xs ys hx hy ht hsz (by rw [he];rfl)
end
def zbj (n:Nat) (ts:List Un):Nat→List (Nat×Nat)
 | 0=> []
 | k+1=>if (ts.getD k Un.zero).dt=true then zbj n ts k++ [(lvK n k,k-num n (lvK n k))] else zbj n ts k
theorem zgQ {n k:Nat} {ts:List Un} (h:(ts.getD k Un.zero).dt=true):zbj n ts (k+1)=zbj n ts k++ [(lvK n k,k-num n (lvK n k))]:=if_pos h
theorem zje {n k:Nat} {ts:List Un} (h:(ts.getD k Un.zero).dt=false):zbj n ts (k+1)=zbj n ts k:=if_neg (by rw [h];decide)
theorem zmW (n:Nat) (ts:List Un):∀k,(zbj n ts k).length≤k
 | 0=>Nat.le_refl _
 | k+1=>by
  have:=zmW n ts k
  rw [zbj];split
  ·rw [List.length_append];simp only [List.length_cons,List.length_nil];omega
  ·omega
theorem zhi {n k:Nat} {ts:List Un}:∀{m:Nat},k≤m→∃r,zbj n ts m=zbj n ts k++r
 | 0,h=>by
  obtain rfl:k=0:=by omega
  exact ⟨[],by simp⟩
 | m+1,h=>by
  rcases Nat.lt_succ_iff_lt_or_eq.1 (Nat.lt_succ_of_le h) with h1 | rfl
  ·obtain ⟨r,hr⟩:=zhi (n:=n) (ts:=ts) (show k≤m by omega)
   rw [zbj];split
   ·exact ⟨r++ [(lvK n m,m-num n (lvK n m))],by rw [hr,List.append_assoc]⟩
   ·exact ⟨r,hr⟩
  ·exact ⟨[],by simp⟩
theorem zq0 {n k m:Nat} {ts:List Un} (h:(ts.getD k Un.zero).dt=true) (hk:k<m):(zbj n ts k).length<(zbj n ts m).length∧(zbj n ts m).getD (zbj n ts k).length (0,0)=(lvK n k,k-num n (lvK n k)):=by
 obtain ⟨r,hr⟩:=zhi (n:=n) (ts:=ts) (show k+1≤m from hk)
 rw [hr,zgQ h]
 refine ⟨by simp only [List.length_append,List.length_cons,List.length_nil];omega, ?_⟩
 simp [List.getD]
end Go.Cs
namespace Go.Cs
open Go Go.RowKit
def mnW (L:List Rec) (b h:Nat):Nat→Nat
 | 0=>h+1
 | k+1=>if zaI L k (idx b k)=true then h-k else mnW L b h k
section
variable {L:List Rec} {S:List Nat} {b:Nat}
end
section
variable {L:List Rec} {S:List Nat} {b n:Nat}
end
structure ZZ where
 nd:Nod
 ot:Nat
 bz:Int
 hot:ot<256
def ZZ.zero:ZZ:=⟨Nod.zero,0,0,by decide⟩
def zzC (x:ZZ):List Value:=zJ x.nd++ [.int .u8 ((x.ot:Nat):Int), .int .i64 x.bz]
@[simp] theorem zxG (x:ZZ):(zzC x).length=276:=by simp [zzC]
theorem Gl.book {B b:Nat} {vs:List Value} {w w':World} (h:Gl b vs w) (g:Book B w w'):Gl b vs w':=⟨fun i v hi=>g.cell (h.all i v hi),Nat.lt_of_lt_of_le h.lt g.size⟩
def knL:List Rec:=(List.replicate 257 Rec.zero).set 256 (mkR 2 3)
end Go.Cs
namespace Go.Cs
open Go Go.RowKit
theorem zfZ {g:Nat→Bool} {k:Nat}:(List.range (k+1)).any g=((List.range k).any g || g k):=by rw [List.range_succ,List.any_append];simp
theorem bnT {a b:Bool} (h:¬a=b):(!(a==b))=true:=by cases a<;>cases b<;>simp_all
theorem bnF {a b:Bool} (h:a=b):(!(a==b))=false:=by cases a<;>cases b<;>simp_all
def chs (n l j:Nat) (t:List Un):List Un:=(t.drop (4*j+num n (l-1))).take (min (4*j+4) (cnt n (l-1))+num n (l-1)-(4*j+num n (l-1)))
theorem zfP {n k:Nat} (h:k<tot n):∃l j,l≤hgt n∧j<cnt n l∧lvK n (num n l+j)=l∧k=num n l+j:=by
 obtain ⟨l,j,h1,h2,rfl⟩:=zd0 h
 have:=zar n
 exact ⟨l,j,h1,h2,zhB (by omega) h2,rfl⟩
section
variable {n l j:Nat} {t:List Un}
theorem zhI (h0:l≠0) (hj:j<cnt n l):prt n l j=min (4*j+4) (cnt n (l-1))-4*j∧4*j<cnt n (l-1):=by
 have h1:=zcB (n:=n) (l:=l) (by omega)
 have h2:=(ziW (n:=n) (l:=l) (j:=j)).1 hj
 rw [h1] at h2
 unfold prt
 rw [h1]
 omega
theorem zed (h0:l≠0) (hl:l≤hgt n) (hj:j<cnt n l) {w:Nat} (hw:w<prt n l j):4*j+w<cnt n (l-1)∧num n (l-1)+(4*j+w)<tot n∧w<4:=by
 have h4:=zdF n l j
 have h1:=(zbe (show w<4 by omega)).1 hw
 rw [zcB (by omega)] at h1
 exact ⟨h1,zaG (by omega) h1,by omega⟩
theorem zjd (ht:t.length=tot n) (h0:l≠0) (hl:l≤hgt n) (hj:j<cnt n l):(chs n l j t).length=prt n l j:=by
 have h1:=zhI h0 hj
 have h2:=zaG (n:=n) (l:=l-1) (j:=min (4*j+4) (cnt n (l-1))-1) (by omega) (by omega)
 rw [chs,List.length_take,List.length_drop,ht];omega
theorem zjg (ht:t.length=tot n) (h0:l≠0) (hl:l≤hgt n) (hj:j<cnt n l) {w:Nat} (hw:w<prt n l j):(chs n l j t).getD w Un.zero=t.getD (num n (l-1)+(4*j+w)) Un.zero:=by
 have h1:=zhI h0 hj
 rw [List.getD_eq_getElem?_getD,List.getD_eq_getElem?_getD,chs,List.getElem?_take,if_pos (by omega),List.getElem?_drop]
 congr 2;omega
theorem zgN (ht:t.length=tot n) (h0:l≠0) (hl:l≤hgt n) (hj:j<cnt n l):zc9 n t l j=false↔∀i,i<(chs n l j t).length→((chs n l j t).getD i Un.zero).dt=false:=by
 unfold zc9
 rw [if_neg h0,List.any_eq_false,zjd ht h0 hl hj]
 constructor
 ·intro h i hi
  rw [zjg ht h0 hl hj hi]
  have:=h i (List.mem_range.2 hi)
  exact Bool.eq_false_iff.2 this
 ·intro h i hi
  have hi:=List.mem_range.1 hi
  have:=h i hi
  rw [zjg ht h0 hl hj hi] at this
  exact Bool.eq_false_iff.1 this
theorem zi3 {x:Un} (h0:l≠0):zeU x l=true↔x.ch=List.replicate 4 false:=by
 rw [zfc]
 constructor
 ·intro h
  refine znR false (by rw [x.hch];simp) fun i hi=> ?_
  rw [x.hch] at hi
  have h1:x.g i=false:=by
   cases hg:x.g i with
   | false=>rfl
   | true=>exact absurd (h i hi hg).1 h0
  rw [show x.ch.getD i false=x.g i from rfl,h1,List.getD_eq_getElem?_getD,List.getElem?_replicate]
  split<;>rfl
 ·intro h w hw hg
  unfold Un.g at hg
  rw [h,List.getD_eq_getElem?_getD,List.getElem?_replicate] at hg
  split at hg<;>cases hg
theorem zn8 {a b:List Bool} (ha:a.length=4) (hb:b.length=4):eqL false (fun x y:Bool=>x==y) 4 a b=true↔a=b:=zhJ (fun x y=>by simp) ha hb
theorem zrk {a b:List Bool} (ha:a.length=4) (hb:b.length=4) (h:a≠b):eqL false (fun x y:Bool=>x==y) 4 a b=false:=Bool.eq_false_iff.2 fun hh=>h ((zn8 ha hb).1 hh)
def zd5 (n:Nat) (t:List Un) (l j:Nat):Nat:=if zeU (ndU n t l j) l=true∧(ndU n t l j).dt=zc9 n t l j then 0 else 9
def zej (n:Nat) (t:List Un) (l j:Nat):Nat:=if zgL n t l j=true then 0 else 9
def zdW (n:Nat) (t:List Un) (l j:Nat):Nat:=if zb3 n (ndU n t l j).nd l j then 17 else 0
theorem zp9 (h:zdW n t l j≠0):zbi n t l j=zdW n t l j:=by
 unfold zdW at h⊢
 split at h
 ·next hm=>rw [if_pos hm];exact zsc hm
 ·exact absurd rfl h
theorem zlo (h:zdW n t l j=0):¬zb3 n (ndU n t l j).nd l j:=by
 unfold zdW at h
 split at h
 ·cases h
 ·assumption
theorem zqi (hf:zdW n t l j=0) (h:zd5 n t l j≠0):zbi n t l j=zd5 n t l j:=by
 have hm:¬(zeU (ndU n t l j) l=true∧(ndU n t l j).dt=zc9 n t l j):=fun hh=>h (if_pos hh)
 rw [zkJ (zlo hf) (fun hh=>hm ⟨hh.1,hh.2.1⟩),zd5,if_neg hm]
theorem zpU (h:zd5 n t l j=0):zeU (ndU n t l j) l=true∧(ndU n t l j).dt=zc9 n t l j:=by
 unfold zd5 at h
 split at h
 ·assumption
 ·cases h
theorem zqU (hf:zdW n t l j=0) (h:zej n t l j≠0):zbi n t l j=zej n t l j:=by
 have he:¬zgL n t l j=true:=fun hh=>h (if_pos hh)
 rw [zkJ (zlo hf) (fun hh=>he hh.2.2),zej,if_neg he]
theorem zqD (hf:zdW n t l j=0) (hm:zd5 n t l j=0) (h:zej n t l j=0):zbi n t l j=0:=by
 have he:zgL n t l j=true:=by
  unfold zej at h
  split at h
  ·assumption
  ·cases h
 exact zlV (zlo hf) (zpU hm).1 (zpU hm).2 he
theorem zsJ {f:Nat→Nat→Nat} (hk:okK n f (num n l+j)) (h0:l≠0) (hl:l≤hgt n) (hj:j<cnt n l) {w:Nat} (hw:w<prt n l j):f (l-1) (4*j+w)=0:=by
 obtain ⟨h1,h2,h3⟩:=zed h0 hl hj hw
 refine hk (l-1) (4*j+w) (by omega) h1 ?_
 have h4:=zfT n (l-1)
 rw [show l-1+1=l by omega] at h4
 omega
end
theorem zjA {l:List Un} {i:Nat} {x:Un} {f:Un→Un} (h:i<l.length):(l.set i x).set i (f ((l.set i x).getD i Un.zero))=l.set i (f x):=by
 rw [zby h,if_pos rfl,List.set_set]
theorem zsT {t:List Un} {b:Nat} {x:Non} {y:Dig} (h:b/4<t.length) {A B:List Un} (hA:A=t.set (b/4) ((t.getD (b/4) Un.zero).setR (b%4) (zbk (t.getD (b/4) Un.zero) (b%4) x y))) (hB:B=A.set (b/4) ((A.getD (b/4) Un.zero).setCh (b%4) true)):B.set (b/4) ((B.getD (b/4) Un.zero).setDt true)=set1 t b x y:=by
 rw [hA,zjA (f:=fun z=>z.setCh (b%4) true) h] at hB
 rw [hB,zjA (f:=fun z=>z.setDt true) h];rfl
theorem zue {n b k:Nat} {t A:List Un} (hk:0<k) (h:num n k+idx b k<t.length) (hA:A=t.set (num n k+idx b k) ((t.getD (num n k+idx b k) Un.zero).setE ((ndU n t (k-1) (idx b (k-1))).nd.ix%4) (enU (ndU n t (k-1) (idx b (k-1)))))):A.set (num n k+idx b k) ((A.getD (num n k+idx b k) Un.zero).setDt true)=zeP n b (k-1) t:=by
 obtain ⟨m,rfl⟩:∃m,k=m+1:=⟨k-1,by omega⟩
 rw [hA,zjA (f:=fun z=>z.setDt true) h];rfl
theorem zlc {n b k:Nat} {t:List Un} (hk:0<k):zeP n b (k-1) (zau n b t (k-1))=zau n b t (k+1-1):=by
 obtain ⟨m,rfl⟩:∃m,k=m+1:=⟨k-1,by omega⟩
 rfl
theorem zo3 {n b k:Nat} {t:List Un}:(zeP n b k t).length=t.length:=by unfold zeP;rw [List.length_set]
theorem zdu {n b:Nat} {t:List Un}:∀{m:Nat},(zau n b t m).length=t.length
 | 0=>rfl
 | m+1=>by rw [show zau n b t (m+1)=zeP n b m (zau n b t m) from rfl,zo3,zdu]
theorem zcO {t:List Un} {b:Nat} {x:Non} {y:Dig}:(set1 t b x y).length=t.length:=by unfold set1;rw [List.length_set]
def za4 {α:Type} (N:Nat) (f g:Nat→α) (k:Nat):List α:=(List.range N).map fun i=>if i<k then f i else g i
theorem zbZ {α:Type} {N k:Nat} {f g:Nat→α}:(za4 N f g k).length=N:=by simp [za4]
theorem zqz {α:Type} {N k i:Nat} {f g:Nat→α} (d:α) (h:i<N) (hk:k≤i):(za4 N f g k).getD i d=g i:=by
 unfold za4;rw [zdY _ h,if_neg (by omega)]
theorem zhk {α:Type} {N:Nat} {f g:Nat→α}:za4 N f g N=(List.range N).map f:=by
 unfold za4;exact List.map_congr_left fun i hi=>if_pos (List.mem_range.1 hi)
theorem zg4 {α:Type} {N k:Nat} {f g:Nat→α} (h:k<N):(za4 N f g k).set k (f k)=za4 N f g (k+1):=by
 refine List.ext_getElem (by simp [za4]) fun i h1 h2=> ?_
 rw [List.getElem_set]
 simp only [za4,List.getElem_map,List.getElem_range]
 by_cases h3:k=i
 ·subst h3;rw [if_pos rfl,if_pos (Nat.lt_succ_self _)]
 ·rw [if_neg h3]
  by_cases h4:i<k
  ·rw [if_pos h4,if_pos (by omega)]
  ·rw [if_neg h4,if_neg (by omega)]
theorem zoN {α β:Type} (d:α) (h:α→β) (l:List α) {N:Nat} (hN:N=l.length):(List.range N).map (fun i=>h (l.getD i d))=l.map h:=by
 subst hN
 refine List.ext_getElem (by simp) fun i h1 h2=> ?_
 have h3:i<l.length:=by simpa using h2
 simp [List.getD,h3]
theorem zpV {α:Type} (d:α) {N:Nat} {f:Nat→α} {l:List α} (hN:N=l.length):za4 N f (fun i=>l.getD i d) 0=l:=by
 have:=zoN d id l hN
 rw [List.map_id] at this
 refine Eq.trans ?_ this
 unfold za4;exact List.map_congr_left fun i _=>if_neg (Nat.not_lt_zero i)
theorem zlw {α:Type} {N:Nat} {f:Nat→α} {z:α}:za4 N f (fun _=>z) 0=List.replicate N z:=by
 refine List.ext_getElem (by simp [za4]) fun i h1 h2=> ?_
 simp [za4]
def slI (z:List Int):Bool:=z.all fun x=>x==0 || x==1
theorem zmM {z:List Int}:slI z=true↔∀i,z.getD i 0=0∨z.getD i 0=1:=by
 unfold slI
 rw [List.all_eq_true]
 simp only [Bool.or_eq_true,beq_iff_eq]
 constructor
 ·intro h i
  rcases Nat.lt_or_ge i z.length with hi | hi
  ·rw [List.getD_eq_getElem?_getD,List.getElem?_eq_getElem hi];exact h _ (List.getElem_mem hi)
  ·left;rw [List.getD_eq_getElem?_getD,List.getElem?_eq_none hi];rfl
 ·intro h x hx
  obtain ⟨i,hi,rfl⟩:=List.getElem_of_mem hx
  have:=h i
  rwa [List.getD_eq_getElem?_getD,List.getElem?_eq_getElem hi] at this
def zhV (n:Int) (t:List Nod) (z:List Int):Nat:=if zei n t≠0 then zei n t else if z.length=t.length∧slI z=true then zc3 n (ofT t.length t z) else 1
theorem Own.row_of {α:Type} {f:α→Value} {lo hi len cap:Nat} {w:World} {a:Option Addr} {e:TypeId} {l:List α} (h:Own f lo hi w a len cap e l) (hp:0<len):∃b r,a=some ⟨b,0,none⟩∧Blk w b (l.map f++r) e∧r.length=cap-len∧lo≤b∧b<hi∧len≤cap∧cap≤maxLen:=by
 have hfl:∀l:List α,l.flatMap (fun x=> [f x])=l.map f:=fun l=>by
  induction l with
  | nil=>rfl
  | cons x l ih=>rw [List.flatMap_cons,ih];rfl
 have h2:OwM (fun x=> [f x]) 1 lo hi w a len cap e l:=⟨by rw [hfl];exact h.row,h.len_eq,h.below,fun _=>rfl⟩
 obtain ⟨b,r,h3,h4,h5,h6⟩:=h2.row_of hp
 rw [hfl] at h4
 exact ⟨b,r,h3,h4,by omega,h6⟩
theorem zsa {L:List Rec} {c:List Bool} {b:Nat} (h:(L.getD b Rec.zero).st≤2):za1 L c b≤1:=by unfold za1;split;omega;split<;>omega
theorem ziF {n:Nat} {c:List Bool} {s:List Nat} (h1:1≤n) (h2:n≤4096):(zaQ n c s).set (tot n-1) (1-s.getD (tot n-1) 0)=zcT n c s:=by
 have ht:=zcF h1 h2
 refine zeO 0 (by rw [List.length_set,zcn]) fun l j hl hj=> ?_
 have hp:=zaG hl hj
 rw [zby (by rw [zcn];omega)]
 have hq:=zg0 h1 h2 hl hj
 by_cases h:l=hgt n
 ·rw [if_pos (hq.2 h),if_pos h,hq.2 h]
 ·rw [if_neg (fun hh=>h (hq.1 hh)),if_neg h,zet hl hj]
theorem zlE {P:Program} {n k:Nat} {σ:List (Nat×Value)} {w:World} {ops:Array Oper} {K:List (Nat×Value)→World→Prop} {α:Type} {f:α→List Value} {sz lo hi:Nat} {l:List α} {cs:List Value} {e:TypeId} (d:Option Tmp) (T T2 ty E b:Nat) {dl dc:Nat} {a2:Option Addr} {sc:Nat}
  (hB:Blk w b cs e) (hS:Ms f sz lo hi w a2 dl sc l) (hfit:cs.length=dl*sz) (h1:∀x,∀u∈f x,u.oneCell'=true) (hp:0<dl)
  (h:∀w',Blk w' b (l.flatMap f) e→Chg (· =b) w w'→K (zaF σ d (.int .i64 ((dl:Nat):Int))) w')
  (hsz:0<sz) (hT:P.underlying T=some (.slice E):=by kernel_rfl) (hE:(P.info? E).map (·.size)=some sz:=by kernel_rfl)
  (he:zbl ops n σ k=some (d,vS (Builtin.copy_ #[T,T2] ty #[.slice (some ⟨b,0,none⟩) dl dc, .slice a2 dl sc])):=by kernel_rfl):zaX P ops n k σ w K:=by
 have h2:=zbw (w:=w) hE
 have hl:(l.flatMap f).length=dl*sz:=by rw [zaE hS.each,hS.len_eq]
 obtain ⟨b2,o2,rfl⟩:=hS.addr hp hsz
 have h3:=run_loadCells_list (P:=P) w ⟨b2,o2,none⟩ (l.flatMap f) (fun j v hj=>hS.sla.load_add hj)
 rw [hl] at h3
 obtain ⟨w',h4,h5,h6⟩:=zcv (P:=P) (l.flatMap f) w b 0 0 cs e hB (by rw [hl];omega) (by
  intro u hu
  obtain ⟨x,_,hx⟩:=List.mem_flatMap.1 hu
  exact h1 x u hx)
 rw [Nat.zero_add,zy _ _ (by rw [hl,hfit])] at h5
 refine zci d _ _ (w':=w') ?_ (h w' h5 h6) he
 have hm:Nat.min dl dl=dl:=Nat.min_self dl
 simp [Builtin.copy_,run_underlying hT,h2,Builtin.lenOf,goInt,Builtin.firstCells,hm,h3,h4]
end Go.Cs
namespace Go.Cs
open Go Go.RowKit
def chW (n:Nat) (c:List Bool) (v j w:Nat):List Bool:=(List.range 4).map fun i=>if i<w then decide (v=0∧4*j+i<n)&&c.getD (4*j+i) false else false
def unW (l:List Rec) (c:List Bool) (s:List Nat) (v j w:Nat):Un:=⟨zao l (zaQ l.length c s) v j,((s.getD (num l.length v+j) 0:Nat):Int),drt c v j,chW l.length c v j w,by simp [chW]⟩
section
variable {l:List Rec} {c:List Bool} {s:List Nat} {v j w:Nat}
theorem zib:unW l c s v j 0=⟨zao l (zaQ l.length c s) v j,((s.getD (num l.length v+j) 0:Nat):Int),drt c v j,List.replicate 4 false,rfl⟩:=by
 refine Un.ext' rfl rfl rfl ?_
 show chW l.length c v j 0=_
 unfold chW
 simp
 rfl
theorem zjh (h0:v=0) (hn:4*j+w<l.length):(unW l c s v j w).setCh w (c.getD (4*j+w) false)=unW l c s v j (w+1):=by
 refine Un.ext' rfl rfl rfl ?_
 show (chW l.length c v j w).set w (c.getD (4*j+w) false)=chW l.length c v j (w+1)
 refine List.ext_getElem (by simp [chW]) fun i h1 h2=> ?_
 have hi:i<4:=by simpa [chW] using h2
 rw [List.getElem_set]
 simp only [chW,List.getElem_map,List.getElem_range]
 by_cases h3:w=i
 ·subst h3
  rw [if_pos rfl,if_pos (Nat.lt_succ_self _)]
  simp [h0,hn]
 ·rw [if_neg h3]
  by_cases h4:i<w
  ·rw [if_pos h4,if_pos (by omega)]
  ·rw [if_neg h4,if_neg (by omega)]
theorem zdC (h:4≤w∨v≠0∨l.length≤4*j+w):unW l c s v j w=zaA l c s v j:=by
 refine Un.ext' rfl rfl rfl ?_
 show chW l.length c v j w=chU l.length c v j
 unfold chW chU
 refine List.map_congr_left fun i hi=> ?_
 have hi:=List.mem_range.1 hi
 by_cases h4:i<w
 ·rw [if_pos h4]
 ·rw [if_neg h4]
  have:¬(v=0∧4*j+i<l.length):=fun hh=>by omega
  simp [this]
end
def za2 (k:Nat):Non:=⟨k%256%4,k%256,by omega,by omega⟩
theorem zjS {k:Nat} {p:List (UInt8×UInt8)} {s:List UInt8}:OkW (zeu p (zt k)) (fls (zt k)) (zdz s (tot (zt k))):=by
 have h:=OkW.fls (zrb p s k)
 rwa [zdn] at h
theorem OkW.pubW {l:List Rec} {c:List Bool} {s:List Nat} (h:OkW l c s):OkW l (Cs.fls l.length) (zcT l.length c s):=OkW.fls h.pub
theorem OkW.st2 {l:List Rec} {c:List Bool} {s:List Nat} (h:OkW l c s) {b:Nat} (hb:b<l.length):(l.getD b Rec.zero).st≤2:=zir (h.m.rc b hb)
def zlP (y:Nod) (i:Nat):Bool:=(List.range i).any fun q=>(y.rs.get q).st !=0 ||(y.es.get q).st !=0
end Go.Cs
namespace Go.Cs
open Go Go.RowKit
theorem zaV {L:List Rec} {c:List Bool} {s:List Nat} {n:Nat} (h:OkW L c s) (hn:L.length=n):zbQ n (zbi n (zaw L c s))=0:=by subst hn;exact zkb h
theorem zkE {L:List Rec} {c:List Bool} {s:List Nat} {n:Nat} (h:OkW L c s) (hn:L.length=n):zc3 ((n:Nat):Int) (zaw L c s)=0:=by subst hn;exact zpl h
theorem zba {L:List Rec} {c:List Bool} {s:List Nat} (h:OkW L c s):∀i,i<(zaw L c s).length→((zaw L c s).getD i Un.zero).sl=0∨((zaw L c s).getD i Un.zero).sl=1:=zdx.1 (zlS h)
theorem zgu {L:List Rec} {c:List Bool} {s:List Nat} {n b:Nat} {x:Non} {t:Dig} (h:OkW L c s) (hn:L.length=n) (hb:b<n):zc4 n (zaw L c s) b x t=zaw (L.set b (zaH L c b x t)) (c.set b true) s:=by subst hn;exact zoo h hb
theorem zkP {L:List Rec} {c:List Bool} {s:List Nat} {n:Nat} (h:OkW L c s) (hn:L.length=n):zc8 (tot n) (zaw L c s)=zaw L (fls n) (zcT n c s):=by subst hn;exact zpR h
theorem zf4 {L:List Rec} {c:List Bool} {s:List Nat} {n b:Nat} (h:OkW L c s) (hn:L.length=n) (hb:b<n):zaZ ((zaw L c s).getD (b/4) Un.zero) (b%4)=za1 L c b:=by subst hn;exact zqQ h hb
theorem ztF {L:List Rec} {c:List Bool} {s:List Nat} {n b:Nat} (h:OkW L c s) (hn:L.length=n) (hb:b<n):((zaw L c s).getD (b/4) Un.zero).nd.rs.get (b%4)=L.getD b Rec.zero:=by
 subst hn
 have hg:b/4<cnt L.length 0:=zbu hb 0
 have hx:(zaw L c s).getD (b/4) Un.zero=zaA L c s 0 (b/4):=by
  have:=zdc (L:=L) (c:=c) (s:=s) (Nat.zero_le _) hg
  unfold ndU at this;rwa [show num L.length 0+b/4=b/4 from Nat.zero_add _] at this
 have hm:b%4<4:=Nat.mod_lt _ (by decide)
 rw [hx]
 show (zao L (zaQ L.length c s) 0 (b/4)).rs.get (b%4)=_
 rw [zaS,zeq _ _ _ _ _ hm,if_pos ⟨(zbe hm).2 (show 4*(b/4)+b%4<L.length by omega),rfl⟩,show 4*(b/4)+b%4=b by omega]
theorem zkk {L:List Rec} {s:List Nat} {n:Nat} (h:OkM L s) (hn:L.length=n):ofT (tot n) (zak L s) (s.map fun (x:Nat)=>(x:Int))=zaw L (fls n) s:=by subst hn;exact zpN h
def wL0:List Rec:=List.replicate 5 Rec.zero
def wS0:List Nat:= [1,1,0]
def wR1:Rec:=⟨1,za2 3,mkD 3,by decide⟩
def wL1:List Rec:=wL0.set 4 (zaH wL0 (fls 5) 4 (za2 3) (mkD 3))
def wC1:List Bool:=(fls 5).set 4 true
def wL2:List Rec:=wL1.set 4 (zaH wL1 wC1 4 (za2 4) (mkD 4))
def wC2:List Bool:=wC1.set 4 true
def wS2:List Nat:=zcT 5 wC2 wS0
def wT0:List Un:=zaw wL0 (fls 5) wS0
def wT1:List Un:=zaw wL1 wC1 wS0
def wT2:List Un:=zaw wL2 wC2 wS0
def wT3:List Un:=zaw wL2 (fls 5) wS2
theorem wM0:OkM wL0 wS0:=by
 refine ⟨by decide,by decide,fun i hi=> ?_,by decide,fun i=> ?_⟩
 ·have hi:i<5:=hi
  have hz:wL0.getD i Rec.zero=Rec.zero:=by
   unfold wL0
   rw [List.getD_eq_getElem?_getD,List.getElem?_replicate];split<;>rfl
  rw [hz];decide
 ·cases i with
  | zero=>decide
  | succ i=>cases i with
   | zero=>decide
   | succ i=>cases i with
    | zero=>decide
    | succ i=>exact Nat.zero_le _
theorem wO0:OkW wL0 (fls 5) wS0:=OkW.fls wM0
theorem wO1:OkW wL1 wC1 wS0:=wO0.set (b:=4) (by decide)
theorem wO2:OkW wL2 wC2 wS0:=wO1.set (b:=4) (by decide)
theorem wO3:OkW wL2 (fls 5) wS2:=wO2.pubW
theorem wOf:ofT (tot 5) (zak wL0 wS0) (wS0.map fun (x:Nat)=>(x:Int))=wT0:=zkk wM0 rfl
theorem wG0:zaZ (wT0.getD (4/4) Un.zero) (4%4)=0:=(zf4 (n:=5) (b:=4) wO0 rfl (by decide)).trans (by kernel_rfl)
theorem wG1:zaZ (wT1.getD (4/4) Un.zero) (4%4)=0:=(zf4 (n:=5) (b:=4) wO1 rfl (by decide)).trans (by kernel_rfl)
theorem wG3:zaZ (wT3.getD (4/4) Un.zero) (4%4)=1:=(zf4 (n:=5) (b:=4) wO3 rfl (by decide)).trans (by kernel_rfl)
theorem wE0:zc4 5 wT0 4 (za2 3) (mkD 3)=wT1:=zgu (n:=5) wO0 rfl (by decide)
theorem wE1:zc4 5 wT1 4 (za2 4) (mkD 4)=wT2:=zgu (n:=5) wO1 rfl (by decide)
theorem wE2:zc8 (tot 5) wT2=wT3:=zkP (n:=5) wO2 rfl
theorem wD1:zbj 5 wT1 (tot 5)= [(0,1),(1,0)]:=by kernel_rfl
theorem znx:(wT1.getD (4/4) Un.zero).nd.rs.get (4%4)=wR1:=(ztF (n:=5) (b:=4) wO1 rfl (by decide)).trans (by kernel_rfl)
theorem zv5:zao wL1 (zaQ wL1.length wC1 wS0) 0 1=(Nod.mt 0 1).setR 0 wR1:=by kernel_rfl
theorem zqw:(wT1.getD 2 Un.zero).nd.es.get 1=⟨1,zS (zN ((Nod.mt 0 1).setR 0 wR1)),by decide⟩:=by
 have h1:wT1.getD 2 Un.zero=zaA wL1 wC1 wS0 1 0:=zdc (L:=wL1) (c:=wC1) (s:=wS0) (l:=1) (j:=0) (by decide) (by decide)
 rw [h1,show (zaA wL1 wC1 wS0 1 0).nd=zao wL1 (zaQ wL1.length wC1 wS0) 1 0 from rfl,zll (by decide) (show 1<prt wL1.length 1 0 by decide)]
 unfold zbF
 rw [if_neg (show ¬zaI wL1 (1-1) (4*0+1)=true by decide)]
 have h2:(⟨((zaQ wL1.length wC1 wS0).getD (num wL1.length 0+1) 0+1)%2^8,zS (zN (zao wL1 (zaQ wL1.length wC1 wS0) 0 1)),Nat.mod_lt _ (by decide)⟩:Ent)=⟨1,zS (zN ((Nod.mt 0 1).setR 0 wR1)),by decide⟩:=Ent.ext' (by decide) (congrArg (fun z=>zS (zN z)) zv5)
 exact h2
theorem zv6:(wT3.getD 1 Un.zero).sl=((0:Nat):Int):=by
 rw [show wT3.getD 1 Un.zero=zaA wL2 (fls 5) wS2 0 1 from zdc (L:=wL2) (c:=fls 5) (s:=wS2) (l:=0) (j:=1) (by decide) (by decide)];decide
theorem zws:(wT3.getD 2 Un.zero).sl=((1:Nat):Int):=by
 rw [show wT3.getD 2 Un.zero=zaA wL2 (fls 5) wS2 1 0 from zdc (L:=wL2) (c:=fls 5) (s:=wS2) (l:=1) (j:=0) (by decide) (by decide)];decide
end Go.Cs
namespace Go.Cs
open Go Go.RowKit
theorem zpK {l:List Nat} {i:Nat} (h:i<l.length):(l.map fun (x:Nat)=>(x:Int)).getD i 0=((l.getD i 0:Nat):Int):=by simp [List.getD,h]
section
variable {L:List Rec} {c:List Bool} {s:List Nat} {n l j:Nat}
theorem ziT (hn:L.length=n) (hl:l≤hgt n) (hj:j<cnt n l):(zaw L c s).getD (num n l+j) Un.zero=zaA L c s l j:=by subst hn;exact zdc hl hj
theorem zx2 (h:OkW L c s) (hn:L.length=n):(zaw L c s).map Un.nd=zak L (zaQ n c s):=by subst hn;exact zqk h
theorem zyz (h:OkW L c s) (hn:L.length=n):(zaw L c s).map slU=(zaQ n c s).map fun (x:Nat)=>(x:Int):=by subst hn;exact znH h
theorem zx3 (h:OkW L c s) (hn:L.length=n):zS (zN ((zaw L c s).getD (num n (hgt n)) Un.zero).nd)=zc0 L (zaQ n c s):=by
 subst hn
 have h1:(zaw L c s).getD (num L.length (hgt L.length)) Un.zero=zaA L c s (hgt L.length) 0:=by
  have hz:=ziT (L:=L) (c:=c) (s:=s) (l:=hgt L.length) (j:=0) rfl (Nat.le_refl _) (by rw [zeE h.m.n1 h.m.n2];decide)
  exact hz
 rw [h1];rfl
theorem zwR (hn:L.length=n) (hl:l≤hgt n) (hj:j<cnt n l) (he:drt c l j=true):
  (zbj n (zaw L c s) (num n l+j)).length<(zbj n (zaw L c s) (tot n)).length
  ∧(zbj n (zaw L c s) (tot n)).getD (zbj n (zaw L c s) (num n l+j)).length (0,0)=(l,j)
  ∧(zbj n (zaw L c s) (num n l+(j+1))).length=(zbj n (zaw L c s) (num n l+j)).length+1:=by
 have h5:=zar n
 have hd:((zaw L c s).getD (num n l+j) Un.zero).dt=true:=by rw [ziT hn hl hj];exact he
 obtain ⟨h1,h2⟩:=zq0 (n:=n) hd (zaG hl hj)
 refine ⟨h1, ?_, ?_⟩
 ·rw [h2,zhB (by omega) hj,Nat.add_sub_cancel_left]
 ·rw [show num n l+(j+1)=num n l+j+1 from rfl,zgQ hd,List.length_append];rfl
theorem zxl (hn:L.length=n) (hl:l≤hgt n) (hj:j<cnt n l) (he:drt c l j=false):
  zbj n (zaw L c s) (num n l+(j+1))=zbj n (zaw L c s) (num n l+j):=by
 have hd:((zaw L c s).getD (num n l+j) Un.zero).dt=false:=by rw [ziT hn hl hj];exact he
 rw [show num n l+(j+1)=num n l+j+1 from rfl,zje hd]
end
section
variable {L:List Rec} {c:List Bool} {s:List Nat} {n i j:Nat} {x y:Non} {t u:Dig}
end
structure ZU where
 nd:Un
 bz:Int
 ot:Nat
 bk:Int
 hot:ot<256
def ZU.zero:ZU:=⟨Un.zero,0,0,0,by decide⟩
def zuC (x:ZU):List Value:=unC x.nd++ [.int .i64 x.bz, .int .u8 ((x.ot:Nat):Int), .int .i64 x.bk]
@[simp] theorem zxQ (x:ZU):(zuC x).length=283:=by simp [zuC]
def zjy (n:Int) (t:List Un) (b:Int):Nat:=if zc3 n t≠0 then zc3 n t else if 0≤b∧b<n then 0 else 1
end Go.Cs
