/- Lemmas and walks: what each function does, by its own code. No condition beyond those of each statement. -/
import Derived.Test.YtbobhnldhpjdlaaGreatDoorQ1
import Derived.Test.YtbobhnldhpjdlaaGreatDoorP10
import Derived.Test.YtbobhnldhpjdlaaGreatDoorP12
import Derived.Test.YtbobhnldhpjdlaaGreatDoorP15
import Derived.Test.YtbobhnldhpjdlaaGreatDoorP34
import Derived.Test.YtbobhnldhpjdlaaGreatDoorP35
import Derived.Test.YtbobhnldhpjdlaaGreatDoorP41
import Derived.Test.YtbobhnldhpjdlaaGreatDoorP48
import Derived.Test.YtbobhnldhpjdlaaGreatDoorProg
set_option linter.all false
set_option linter.unusedVariables false
namespace Go.Proofs.YtbobhnldhpjdlaaGreatDoor
open Go Go.RowKit Go.Cs Go.Cz
set_option maxRecDepth 100000
instance:Fu Tryz.prog 5 Tryz.f5:=⟨Tryz.func5⟩
instance:Fu Tryz.prog 37 Tryz.f37:=⟨Tryz.func37⟩
instance:Fu Tryz.prog 40 Tryz.f40:=⟨Tryz.func40⟩
instance:Fu Tryz.prog 134 Tryz.f134:=⟨Tryz.func134⟩
end Go.Proofs.YtbobhnldhpjdlaaGreatDoor
namespace Go.Cs
open Go Go.RowKit
section
variable {n:Nat} {k:Key} {con con':Con} {L Lc:List Rec} {c:List Bool} {s:List Nat} {now dur:List Dig} {cell:Cel}
theorem Work.more (h:Work n k con L c s now Lc dur cell) (i:Nat):(con i).length≤(nt n con L c s i).length∧(nt n con L c s i).length≤(con i).length+1:=by
 rw [nt,js (jo h.ok h.ll)]
 split<;>simp
end
end Go.Cs
namespace Go.Proofs.YtbobhnldhpjdlaaGreatDoor
open Go Go.RowKit Go.Cs Go.Cz
set_option maxRecDepth 100000
set_option maxHeartbeats 4000000
theorem z_eqB {a1 a2:Option Addr} {n1 n2 c1 c2:Nat} {l:List Dig} (h0:0<l.length) (h1:l.length≤4096):Zp Tryz.prog 37 [.slice a1 n1 c1, .slice a2 n2 c2] [] [Sl ay a1 n1 c1 l,Sl ay a2 n2 c2 l] Unit (fun _=>True) (fun _=> .bool true) (fun _=> []) (fun _=> []):=by
 refine ak fun G=> ?_
 refine aS 0 ?_
 intro hn hcl hml hal
 refine aS 1 ?_
 intro hn2 hcl2 hml2 hal2
 obtain ⟨b1,o1,rfl⟩:=hal (by omega) (by decide)
 obtain ⟨b2,o2,rfl⟩:=hal2 (by omega) (by decide)
 subst hn
 subst hn2
 (repeat' ((try refine aw ?_);(conv=>arg 4;whnf);first | refine az ?_ |(refine sN ?_;intro b)|(refine sC ?_ ?_<;>intro h)|(refine au ?_ ?_<;>intro h<;>try contradiction)|(refine aa ?_;intro g c')| refine ae ?_ | refine ai ?_ | exact ax |(refine aj rfl ?_;intro D lL)| refine af ?_ ?_ | refine ah ?_ ?_ ?_ | fail));(all_goals refine av ?_)
 refine dh [] (X:=Nat) (fun i=> [(5,vI i)]) (fun i=>i≤l.length) (fun _=> []) (fun i=>l.length-i) 0 (Nat.zero_le _) rfl cD ?_
 intro i hi
 (conv=>arg 2;simp only [List.cons_append,List.nil_append])
 by_cases hlt:i<l.length
 ·(repeat' ((try refine aw ?_);(conv=>arg 4;whnf);first | refine az ?_ |(refine sN ?_;intro b)|(refine sC ?_ ?_<;>intro h)|(refine au ?_ ?_<;>intro h<;>try contradiction)|(refine aa ?_;intro g c')| refine ae ?_ | refine ai ?_ | exact ax |(refine aj rfl ?_;intro D lL)| refine af ?_ ?_ | refine ah ?_ ?_ ?_ | fail));(all_goals refine av ?_)
  (conv=>arg 4;arg 5;ext C;whnf)
  refine cR ?_ (qK rfl)
  (repeat' ((try refine aw ?_);(conv=>arg 4;whnf);first | refine az ?_ |(refine sN ?_;intro b)|(refine sC ?_ ?_<;>intro h)|(refine au ?_ ?_<;>intro h<;>try contradiction)|(refine aa ?_;intro g c')| refine ae ?_ | refine ai ?_ | exact ax |(refine aj rfl ?_;intro D lL)| refine af ?_ ?_ | refine ah ?_ ?_ ?_ | fail));(all_goals refine av ?_)
  exact jV (i+1) hlt cD (by omega) bu
 ·obtain rfl:i=l.length:=by omega
  (repeat' ((try refine aw ?_);(conv=>arg 4;whnf);first | refine az ?_ |(refine sN ?_;intro b)|(refine sC ?_ ?_<;>intro h)|(refine au ?_ ?_<;>intro h<;>try contradiction)|(refine aa ?_;intro g c')| refine ae ?_ | refine ai ?_ | exact ax |(refine aj rfl ?_;intro D lL)| refine af ?_ ?_ | refine ah ?_ ?_ ?_ | fail));(all_goals refine av ?_)
section
variable {n tb to m c:Nat} {ts:List Nod} {q:Value×Value}
end
end Go.Proofs.YtbobhnldhpjdlaaGreatDoor
namespace Go.Proofs.YtbobhnldhpjdlaaGreatDoor
open Go Go.RowKit Go.Cs Go.Cz
set_option maxRecDepth 100000
set_option maxHeartbeats 4000000
def kepL (n:Nat) (ts:List Un):List Nat:=(List.range n).map (fun i=>2*i+(1-fM (ts.getD (i/4) default) (i%4)))++(List.range ts.length).map fun k=>ee n k (ts.getD k default).sl.toNat
theorem kepL_len {n:Nat} {ts:List Un}:(kepL n ts).length=n+ts.length:=by simp [kepL]
theorem kepL_lo {n i:Nat} {ts:List Un} (h:i<n):(kepL n ts).take (i+1)=(kepL n ts).take i++ [2*i+(1-fM (ts.getD (i/4) default) (i%4))]:=by
 have hl:i<(kepL n ts).length:=by rw [kepL_len];omega
 rw [List.take_succ_eq_append_getElem hl]
 congr 2
 simp [kepL,List.getElem_append_left,h]
theorem kepL_hi {n k:Nat} {ts:List Un} (h:k<ts.length):(kepL n ts).take (n+k+1)=(kepL n ts).take (n+k)++ [ee n k (ts.getD k default).sl.toNat]:=by
 have hl:n+k<(kepL n ts).length:=by rw [kepL_len];omega
 rw [List.take_succ_eq_append_getElem hl]
 congr 2
 simp [kepL,List.getElem_append_right]
section
variable {n:Nat} {k:Key} {con:Con} {L Lc:List Rec} {c:List Bool} {s:List Nat} {now dur:List Dig} {cell:Cel}
theorem flsC_kept (h:Work n k con L c s now Lc dur cell) {i:Nat} (hi:(con i).length<(nt n con L c s i).length):i∈kepL n (treW L (fls n) (ra L (gL n c s))):=by
 by_cases hlo:i<2*n
 ·rw [mT h.ok h.ll hlo] at hi;omega
 ·by_cases hq:(i-2*n)/2<tot n
  ·obtain ⟨l,j,hl,hj,hp⟩:=dI hq
   have hsec:i=ee n (num n l+j) ((i-2*n)%2):=by unfold ee;omega
   rw [hsec,lw h.ok h.ll hl hj (by omega)] at hi
   have hll:=h.ll
   by_cases hc:(drt c l j=true∨l=hgt n)∧(i-2*n)%2=1-s.getD (num n l+j) 0
   ·refine List.mem_append_right _ (List.mem_map.2 ⟨num n l+j,List.mem_range.2 (by rw [jt,h.ll];exact dV hl hj), ?_⟩)
    rw [show (treW L (fls n) (ra L (gL n c s))).getD (num n l+j) default=cF L (fls n) (ra L (gL n c s)) l j from k7 h.ll hl hj]
    have hsl:rQ L (gL n c s) l j=(gL n c s).getD (num n l+j) 0:=by
     unfold rQ
     rw [hll]
     refine if_neg ?_
     rintro ⟨h1,h2⟩
     rcases hc.1 with hd | hd
     ·obtain ⟨b,hb1,hb2,hb3⟩:=eJ.1 hd
      exact h.ok.cr b hb2 (a9.1 h2 b (by rw [h.ll];rw [h.cl] at hb1;exact hb1) hb3)
     ·exact h1 hd
    have hg:(ra L (gL n c s)).getD (num L.length l+j) 0=rQ L (gL n c s) l j:=vG (by rw [hll];exact hl) (by rw [hll];exact hj)
    show ee n (num n l+j) (((ra L (gL n c s)).getD (num L.length l+j) 0:Nat):Int).toNat=i
    rw [Int.toNat_natCast,hg,hsl,ff hl hj]
    have e:(if l=hgt n then 1-s.getD (num n l+j) 0 else gH n c s l j)=1-s.getD (num n l+j) 0:=by
     rcases hc.1 with hd | hd
     ·unfold gH;rw [if_pos hd];split<;>rfl
     ·rw [if_pos hd]
    rw [e,←hc.2]
    exact hsec.symm
   ·rw [if_neg hc] at hi;omega
  ·rw [nt,js (jo h.ok h.ll),if_neg (by omega)] at hi;omega
end
section
variable {n tb to m c:Nat} {ts:List Un} {q:Value×Value}
theorem z_cKe (h:UOk n ts):Zp Tryz.prog 40 [vA (aV ⟨n,(some ⟨tb,to,none⟩,m,c)⟩)] [] [Sl a7 (some ⟨tb,to,none⟩) m c ts,Gs q] (Nat×Nat) (fun _=>True) (fun x=> .tuple #[.slice (some ⟨x.1,x.2,none⟩) (kepL n ts).length (kepL n ts).length,vI 0]) (fun _=> []) (fun x=> [Sl cI (some ⟨x.1,x.2,none⟩) (kepL n ts).length (kepL n ts).length (kepL n ts)]):=by
 have h1:=h.h1
 have h2:=h.h2
 have htl:=b9 h2
 have hln:=h.ln
 refine ak fun G=> ?_
 refine aS 0 ?_
 intro hn hc hm ha
 subst hn
 have hck:=sE (tb:=tb) (to:=to) (m:=ts.length) (c:=c) (q:=q) h
 (repeat' ((try refine aw ?_);(conv=>arg 4;whnf);first | refine aO ?_ |(refine sN ?_;intro b)|(refine sC ?_ ?_<;>intro h)|(refine au ?_ ?_<;>intro h<;>try contradiction)|(refine aa ?_;intro g c')|(refine aA hck ?_;intro x hx;refine aH ?_)| refine ae ?_ | refine ai ?_ | exact ax |(refine aj rfl ?_;intro D lL)| refine af ?_ ?_ | refine ah ?_ ?_ ?_ | fail));(all_goals refine av ?_)
 refine bG b ?_
 refine dh [] (X:=Nat×Option Addr×Nat) (fun x=> [(5, .slice x.2.1 x.1 x.2.2),(20,vI x.1)]) (fun x=>x.1≤n) (fun x=> [iN cI 1 x.2.1 x.1 x.2.2 3 ((kepL n ts).take x.1)]) (fun x=>n-x.1) (0,none,0) (Nat.zero_le _) rfl (by ((repeat' (first | with_reducible exact ar _ | exact am _ | refine aE ?_ ?_ | refine aG inferInstance ?_ | refine aX ?_ | refine qT rfl ?_))<;>(try with_reducible rfl))) ?_
 rintro ⟨i,a,c1⟩ hi
 (conv=>arg 2;simp only [List.cons_append,List.nil_append])
 dsimp only at hi⊢
 by_cases hlt:i<n
 ·have htg:=lj (ts.getD (i/4) default) (i%4)
  have hut:=G6 (tb:=tb) (to:=to) (m:=ts.length) (c:=c) (q:=q) h hlt (h.st2 hlt)
  have hda:=j9 (t:=1-fM (ts.getD (i/4) default) (i%4)) h1 h2 hlt (by omega)
  (repeat' ((try refine aw ?_);(conv=>arg 4;whnf);first | refine az ?_ |(refine sN ?_;intro b)|(refine sC ?_ ?_<;>intro h)|(refine au ?_ ?_<;>intro h<;>try contradiction)|(refine aa ?_;intro g c')|((first | refine aA hut ?_ | refine aA hda ?_);intro x hx;refine aH ?_)| refine ae ?_ | refine ai ?_ | exact ax |(refine aj rfl ?_;intro D lL)| refine af ?_ ?_ | refine ah ?_ ?_ ?_ | fail));(all_goals refine av ?_)
  refine a5 (i+1,some ⟨g,0,none⟩,c') rfl hlt ?_ (by dsimp only;omega)
  dsimp only
  rw [kepL_lo hlt]
  ((repeat' (first | with_reducible exact ar _ | exact am _ | refine aE ?_ ?_ | refine aG inferInstance ?_ | refine aX ?_))<;>(try with_reducible rfl))
 ·obtain rfl:i=n:=by omega
  (repeat' ((try refine aw ?_);(conv=>arg 4;whnf);first | refine az ?_ |(refine sN ?_;intro b)|(refine sC ?_ ?_<;>intro h)|(refine au ?_ ?_<;>intro h<;>try contradiction)|(refine aa ?_;intro g c')| refine ae ?_ | refine ai ?_ | exact ax |(refine aj rfl ?_;intro D lL)| refine af ?_ ?_ | refine ah ?_ ?_ ?_ | fail));(all_goals refine av ?_)
  refine cN (X:=Nat×Option Addr×Nat) (fun x=> [(5, .slice x.2.1 (i+x.1) x.2.2),(46,vI x.1)]) (fun x=>x.1≤ts.length) (fun x=> [iN cI 1 x.2.1 (i+x.1) x.2.2 3 ((kepL i ts).take (i+x.1))]) (fun x=>ts.length-x.1) (0,a,c1) (Nat.zero_le _) rfl (ar _) ?_
  rintro ⟨k,a,c2⟩ hk
  dsimp only at hk⊢
  by_cases hlt2:k<ts.length
  ·obtain ⟨l,j,hl,hj,hp,hck,hlv,hix⟩:=h.at hlt2
   obtain ⟨s,hs1,hs⟩:∃s:Nat,s≤1∧(ts.getD k default).sl=(s:Int):=by
    rcases h.sl k hlt2 with e | e
    ·exact ⟨0,by omega,e⟩
    ·exact ⟨1,by omega,e⟩
   have hS:Sb (a7 (ts.getD k default)) 274 [.int .i64 ((s:Nat):Int)] True:=⟨fun _=>by have:=(inferInstance:Sb (a7 (ts.getD k default)) 274 [.int .i64 (ts.getD k default).sl] True).sb True.intro;rwa [hs] at this⟩
   have hnd:=Ib (q:=q) (y:=(ts.getD k default).nd) (t:=s) h1 h2 hck hlv hix hl hj hs1
   have hkey:bas i l+2*j+s=ee i k (ts.getD k default).sl.toNat:=by rw [iP,hp,hs,Int.toNat_natCast]
   have hcl:=cH i l
   (repeat' ((try refine aw ?_);(conv=>arg 4;whnf);first | refine az ?_ |(refine sN ?_;intro b)|(refine sC ?_ ?_<;>intro h)|(refine au ?_ ?_<;>intro h<;>try contradiction)|(refine aa ?_;intro g c')|(refine cw hnd ?_;intro x hx;refine bV ?_)| refine ae ?_ | refine ai ?_ | exact ax |(refine aj rfl ?_;intro D lL)| refine af ?_ ?_ | refine ah ?_ ?_ ?_ | fail));(all_goals refine av ?_)
   refine nF (JJ ((inferInstance:Sb (cx ⟨bas i l+2*j+s,(some ⟨x,0,none⟩,dx (ts.getD k default).nd,dx (ts.getD k default).nd)⟩) 0 _ True).sb trivial)) ?_
   (repeat' ((try refine aw ?_);(conv=>arg 4;whnf);first | refine az ?_ |(refine sN ?_;intro b)|(refine sC ?_ ?_<;>intro h)|(refine au ?_ ?_<;>intro h<;>try contradiction)|(refine aa ?_;intro g c')| refine ae ?_ | refine ai ?_ | exact ax |(refine aj rfl ?_;intro D lL)| refine af ?_ ?_ | refine ah ?_ ?_ ?_ | fail));(all_goals refine av ?_)
   refine a5 (k+1,some ⟨g,0,none⟩,c') rfl hlt2 ?_ (by dsimp only;omega)
   dsimp only
   rw [show i+(k+1)=i+k+1 from rfl,kepL_hi hlt2,←hkey]
   ((repeat' (first | with_reducible exact ar _ | exact am _ | refine aE ?_ ?_ | refine aG inferInstance ?_ | refine aX ?_))<;>(try with_reducible rfl))
  ·obtain rfl:k=ts.length:=by omega
   have hkl:=kepL_len (n:=i) (ts:=ts)
   rw [List.take_of_length_le (by omega),←hkl]
   refine eE (m:=1) (e:=3) cI a (kepL i ts).length c2 ?_
   refine aS 0 ?_
   intro _ hc0 hm0 ha0
   obtain ⟨b1,o1,rfl⟩:=ha0 (by omega) (by decide)
   (repeat' ((try refine aw ?_);(conv=>arg 4;whnf);first | refine az ?_ |(refine sN ?_;intro b)|(refine sC ?_ ?_<;>intro h)|(refine au ?_ ?_<;>intro h<;>try contradiction)|(refine aa ?_;intro g c')| refine ae ?_ | refine ai ?_ | exact ax |(refine aj rfl ?_;intro D lL)| refine af ?_ ?_ | refine ah ?_ ?_ ?_ | fail));(all_goals refine av ?_)
   refine je 0 ?_
   exact aD (b1,o1) True.intro rfl (am _) bu
end
end Go.Proofs.YtbobhnldhpjdlaaGreatDoor
namespace Go.Proofs.YtbobhnldhpjdlaaGreatDoor
open Go Go.RowKit Go.Cs Go.Cz
set_option maxRecDepth 100000
set_option maxHeartbeats 40000000
def regC (k:Nat):Code→Option (Array Oper)
 | .region i ops _=>if i=k then some ops else none
 | .seq a b=>(regC k a).or (regC k b)
 | .cond _ a b=>(regC k a).or (regC k b)
 | .block _ c=>regC k c
 | .loop c=>regC k c
 | .scope c=>regC k c
 | .rangeFunc _ _ _ c=>regC k c
 | _=>none
def opsF (f:Func) (k:Nat):Array Oper:=(f.body.bind (regC k)).getD #[]
theorem t_ops {P:Program} {ro:Option Nat} {n id:Nat} {ops ops':Array Oper} {ds:List Deferred} {σ:Fm} {K:Kt} {G:Gc} {O:List It} {F:List Pt} (e:ops=ops') (h:Tr G O F (Dw P ro n id ops' ds σ K)):Tr G O F (Dw P ro n id ops ds σ K):=by subst e;exact h
section
variable {q:Value×Value}
theorem z_oldW {p p2:PS} {M M2:ML} {sb fb:Nat} {s2:List Nat} {G:Gc} (h1:1≤p.n) (hl0:0<p2.log.length) (hlm:p2.log.length≤65536) (hn2:p2.n=p.n) (hla:p2.log.getD (p2.log.length-1) default=p2.cell)
  (hD1:DV p.n p.k M2.d M2.I p.L s2 p.now p2.cell) (K4:Kt):Tr G [] [Bk sb (aB (c8 p M)),Bk fb (aB (c8 p2 M2)),Dm M.d M.I,Dm M2.d M2.I,Sl aL (some ⟨M2.lb,0,none⟩) p2.log.length M2.lc p2.log,Gs q]
  (Dw Tryz.prog none 163 9 (opsF Tryz.f5 9) [] [(9,vI 0),(8,vP fb 0),(6,vI p.n),(3,vP sb 0)] (LE (X:=Nat×Nat) (fun x=> [(3,vP sb 0),(8,vP fb 0),(9,vI 0),(16,vP x.2 0)]) (fun _=>True) (fun x=> [iB x.2 (aV ⟨p.n,(some ⟨x.1,0,none⟩,tot p.n,tot p.n)⟩) 43]) (fun x=> [Sl a7 (some ⟨x.1,0,none⟩) (tot p.n) (tot p.n) (treW p.L (Cs.fls p.n) (ra p.L s2))]) G [Bk sb (aB (c8 p M)),Bk fb (aB (c8 p2 M2)),Dm M.d M.I,Dm M2.d M2.I,Sl aL (some ⟨M2.lb,0,none⟩) p2.log.length M2.lc p2.log,Gs q] [] K4)):=by
 have hdk2:=HY (p:=p2) (M:=M2)
 have hcl2:=wc (p:=p2) (M:=M2) (by rw [hn2];exact h1) hl0 hlm hla
 have hwk:=Hy (q:=q) hD1
 (conv=>arg 4;arg 5;whnf)
 refine gM [] [Bk fb (aB (c8 p2 M2))] (am _) bu rfl ?_
 (repeat' ((try refine aw ?_);(conv=>arg 4;whnf);first | refine yH ?_ |(refine sN ?_;intro b)|(refine sC ?_ ?_<;>intro h)|(refine au ?_ ?_<;>intro h<;>try contradiction)|(refine aa ?_;intro g c')|((first | refine aA hdk2 ?_ | refine aA hcl2 ?_);intro x hx;refine aH ?_)|(refine cw hwk ?_;intro x hx;refine bV ?_)| refine ai ?_ | exact ax |(refine aj rfl ?_;intro D lL)| refine af ?_ ?_ | refine ah ?_ ?_ ?_ | fail));(all_goals refine av ?_)
 all_goals first
  |(rename_i b1;first | exact d9 (x,b) True.intro cD bu | exact d9 (x,b1) True.intro cD bu)
  |(rename_i b1 _ _;first | exact d9 (x,b) True.intro cD bu | exact d9 (x,b1) True.intro cD bu)
  |(rename_i b1 _ _ _ _;first | exact d9 (x,b) True.intro cD bu | exact d9 (x,b1) True.intro cD bu)
end
end Go.Proofs.YtbobhnldhpjdlaaGreatDoor
namespace Go.Proofs.YtbobhnldhpjdlaaGreatDoor
open Go Go.RowKit Go.Cs Go.Cz
set_option maxRecDepth 100000
set_option maxHeartbeats 4000000
section
variable {ad:Addr}
theorem z_old {xb:UInt8} {oa:Option Addr} {m c:Nat} {zs:List (UInt8×UInt8×UInt8)}:Zp Tryz.prog 5 [vA (iC ⟨xb.toNat,(oa,m,c)⟩)] [] [Sl yF oa m c zs,Gs (qE ad)] Unit (fun _=>True) (fun _=> .bool true) (fun _=> []) (fun _=> []):=by
 have hm20:=Nat.mod_lt xb.toNat (show 0<20 by decide)
 have hpl:=Ir (ad:=ad) (xb:=xb) (oa:=oa) (m:=m) (c:=c) (zs:=zs)
 generalize hn:1+xb.toNat%20=n at hpl
 refine ak fun G=> ?_
 (repeat' ((try refine aw ?_);(conv=>arg 4;whnf);first | refine aO ?_ |(refine sN ?_;intro b)|(refine sC ?_ ?_<;>intro h)|(refine au ?_ ?_<;>intro h<;>try contradiction)|(refine aa ?_;intro g c')|(refine cw hpl ?_;intro x hx;refine bV ?_)| refine ai ?_ | exact ax |(refine aj rfl ?_;intro D lL)| refine af ?_ ?_ | refine ah ?_ ?_ ?_ | fail));(all_goals refine av ?_)
 revert x;rintro ⟨p,M,T,an,dn⟩ ⟨hPl,hT,hM⟩
 dsimp only at hPl hT hM⊢
 rename_i sb
 revert b;intro ab
 have hPn:=hPl.hn
 have hP:=hPl.ok
 have hK:Zp Tryz.prog 13 [vA (ay (ii 2))] [] [Gs (qE ad)] Unit (fun _=>True) (fun _=>vA (bC p.k)) (fun _=> []) (fun _=> []):=by rw [hPl.hk];exact Bw
 have hfl:=Ea (q:=qE ad) hP hM (by omega)
 (repeat' ((try refine aw ?_);(conv=>arg 4;whnf);first | refine aO ?_ |(refine sN ?_;intro b)|(refine sC ?_ ?_<;>intro h)|(refine au ?_ ?_<;>intro h<;>try contradiction)|(refine aa ?_;intro g c')|((first | refine aA Jg ?_ | refine aA hK ?_);intro x hx;refine aH ?_)|(refine cw hfl ?_;intro x hx;refine bV ?_)| refine ai ?_ | exact ax |(refine aj rfl ?_;intro D lL)| refine af ?_ ?_ | refine ah ?_ ?_ ?_ | fail));(all_goals refine av ?_)
 rename_i kb
 revert b;intro fb
 revert x;intro M2 hM2
 subst hPn
 have hP2:=hP.fls (by omega)
 have hw:=hP.work
 have h1:=hP.n1
 have h2:=hP.n2
 have hlm:=hP.logm
 have hlm2:=hP2.logm
 have hnx:p.fls.cell=p.cell.nxt (cq p.L (bZ p.n p.c p.s)):=rfl
 have hmore:=hw.more
 have hkep:=fun i=>flsC_kept hw (i:=i)
 have hcon:p.fls.con=nt p.n p.con p.L p.c p.s:=rfl
 have hn2:p.fls.n=p.n:=rfl
 have hD0:DV p.n p.k M2.d M2.I p.Lc p.s p.dur p.cell:=⟨hM2.ok.ok,hM2.sz,hM2.ok.size,by rw [hM2.ok.cn];exact hw.keep⟩
 have hD1:DV p.n p.k M2.d M2.I p.L (gL p.n p.c p.s) p.now p.fls.cell:=⟨hM2.ok.ok,hM2.sz,hM2.ok.size,by rw [hM2.ok.cn];exact hP2.work.int⟩
 have hep:p.cell.ep<2^63:=by have:=hP.ep;have:=hP.hT;omega
 generalize cq p.L (bZ p.n p.c p.s)=rt at hnx
 generalize p.fls=p2 at*
 generalize gL p.n p.c p.s=s2 at*
 rw [←hcon] at hmore hkep
 have hdk0:=HY (p:=p) (M:=M)
 have hdk2:=HY (p:=p2) (M:=M2)
 have hsz2:=HM (d:=M2.d)
 have hszb:M2.d.size≤10922:=by rw [hM2.sz,hn2];exact hP.sec
 have hcl0:=wc (p:=p) (M:=M) h1 hP.log0 (by omega) hP.last
 have hcl2:=wc (p:=p2) (M:=M2) (by rw [hn2];exact h1) hP2.log0 (by omega) hP2.last
 have hal0:=Fg (q:=qE ad) hD0
 have hal1:=Fg (q:=qE ad) hD1
 have hwk:=Hy (q:=qE ad) hD1
 have hfo:=IP (a:=p.cell) (c:=p2.cell) hep (by rw [hnx];rfl)
 have heq:=fun (a1:Option Addr) (c1:Nat) (bq0 c0:Nat) (l:List Dig) (hl:l.length=p.n)=>z_eqB (a1:=a1) (a2:=some ⟨bq0,0,none⟩) (n1:=p.n) (n2:=p.n) (c1:=c1) (c2:=c0) (l:=l) (by omega) (by omega)
 have hnl:p.now.length=p.n:=hw.nl
 have hdl:p.dur.length=p.n:=hw.int.dl
 refine bG sb ?_
 refine bG ab ?_
 refine bG kb ?_
 refine bG fb ?_
 refine zp [Bk sb (aB (c8 p M)),Bk ab (cf ⟨(some ⟨an,0,none⟩,p.n,p.n),(some ⟨dn,0,none⟩,p.n,p.n)⟩),Bk kb (bC p.k),Bk fb (aB (c8 p2 M2)),Dm M.d M.I,Dm M2.d M2.I,Sl aL (some ⟨M.lb,0,none⟩) p.log.length M.lc p.log,Sl aL (some ⟨M2.lb,0,none⟩) p2.log.length M2.lc p2.log,Sl ay (some ⟨an,0,none⟩) p.n p.n p.now,Sl ay (some ⟨dn,0,none⟩) p.n p.n p.dur,Gs (qE ad)] bu ?_
 refine eD (X:=Option Addr×Nat) (fun x=> [(3,vP sb 0),(4,vP ab 0),(5, .bool true),(6,vI p.n),(7,vP kb 0),(8,vP fb 0),(9,vI 0),(10, .slice x.1 p.n x.2),(12,vI 0)]) (fun _=>True) (fun x=> []) (fun x=> [Sl ay x.1 p.n x.2 p.dur]) ?_ ?_
 ·intro K4
  (first | refine bF rfl rfl ?_ |(refine bh ?_;(conv=>arg 4;whnf);refine bc rfl ?_))
  (repeat' ((try refine aw ?_);(conv=>arg 4;whnf);first | refine aO ?_ |(refine sN ?_;intro b)|(refine sC ?_ ?_<;>intro h)|(refine au ?_ ?_<;>intro h<;>try contradiction)|(refine aa ?_;intro g c')|((first | refine aA hdk2 ?_ | refine aA hcl0 ?_);intro x hx;refine aH ?_)|(refine cw hal0 ?_;intro x hx;refine bV ?_)| refine ai ?_ | exact ax |(refine aj rfl ?_;intro D lL)| refine af ?_ ?_ | refine ah ?_ ?_ ?_ | fail));(all_goals refine av ?_)
  all_goals (
   obtain ⟨xa,xm,xc⟩:=x
   dsimp only at hx
   subst hx
   exact d9 (xa,xc) True.intro cD bu)
 rintro ⟨la,lc⟩ _
 (conv=>arg 3;simp only [List.cons_append,List.nil_append])
 dsimp only
 (repeat' ((try refine aw ?_);(conv=>arg 4;whnf);first | refine aO ?_ |(refine sN ?_;intro b)|(refine sC ?_ ?_<;>intro h)|(refine au ?_ ?_<;>intro h<;>try contradiction)|(refine aa ?_;intro g c')| refine ai ?_ | exact ax |(refine aj rfl ?_;intro D lL)| refine af ?_ ?_ | refine ah ?_ ?_ ?_ | fail));(all_goals refine av ?_)
 refine eD (X:=Option Addr×Nat) (fun x=> [(3,vP sb 0),(4,vP ab 0),(5, .bool true),(6,vI p.n),(8,vP fb 0),(9,vI 0),(10, .slice la p.n lc),(12,vI 0),(13, .slice x.1 p.n x.2),(15,vI 0)]) (fun _=>True) (fun x=> []) (fun x=> [Sl ay x.1 p.n x.2 p.now]) ?_ ?_
 ·intro K4
  (first | refine bF rfl rfl ?_ |(refine bh ?_;(conv=>arg 4;whnf);refine bc rfl ?_))
  (repeat' ((try refine aw ?_);(conv=>arg 4;whnf);first | refine aO ?_ |(refine sN ?_;intro b)|(refine sC ?_ ?_<;>intro h)|(refine au ?_ ?_<;>intro h<;>try contradiction)|(refine aa ?_;intro g c')|((first | refine aA hdk2 ?_ | refine aA hcl2 ?_);intro x hx;refine aH ?_)|(refine cw hal1 ?_;intro x hx;refine bV ?_)| refine ai ?_ | exact ax |(refine aj rfl ?_;intro D lL)| refine af ?_ ?_ | refine ah ?_ ?_ ?_ | fail));(all_goals refine av ?_)
  all_goals (
   obtain ⟨xa,xm,xc⟩:=x
   dsimp only at hx
   subst hx
   exact d9 (xa,xc) True.intro cD bu)
 rintro ⟨nqa,nqc⟩ _
 (conv=>arg 3;simp only [List.cons_append,List.nil_append])
 dsimp only
 have heq0:=heq la lc dn p.n p.dur hdl
 have heq1:=heq nqa nqc an p.n p.now hnl
 (repeat' ((try refine aw ?_);(conv=>arg 4;whnf);first | refine aO ?_ |(refine sN ?_;intro b)|(refine sC ?_ ?_<;>intro h)|(refine au ?_ ?_<;>intro h<;>try contradiction)|(refine aa ?_;intro g c')| refine ai ?_ | exact ax |(refine aj rfl ?_;intro D lL)| refine af ?_ ?_ | refine ah ?_ ?_ ?_ | fail));(all_goals refine av ?_)
 refine eD (X:=Unit) (fun x=> [(3,vP sb 0),(6,vI p.n),(8,vP fb 0),(9,vI 0),(94, .bool false)]) (fun _=>True) (fun x=> []) (fun x=> []) ?_ ?_
 ·intro K4
  refine gM [] [Bk ab (cf ⟨(some ⟨an,0,none⟩,p.n,p.n),(some ⟨dn,0,none⟩,p.n,p.n)⟩),Bk sb (aB (c8 p M)),Bk fb (aB (c8 p2 M2)),Sl ay nqa p.n nqc p.now,Sl ay la p.n lc p.dur,Sl ay (some ⟨an,0,none⟩) p.n p.n p.now,Sl ay (some ⟨dn,0,none⟩) p.n p.n p.dur,Sl aL (some ⟨M.lb,0,none⟩) p.log.length M.lc p.log,Sl aL (some ⟨M2.lb,0,none⟩) p2.log.length M2.lc p2.log] (am _) bu rfl ?_
  (repeat' ((try refine aw ?_);(conv=>arg 4;whnf);first | refine yH ?_ |(refine sN ?_;intro b)|(refine sC ?_ ?_<;>intro h)|(refine au ?_ ?_<;>intro h<;>try contradiction)|(refine aa ?_;intro g c')|((first | refine aA heq0 ?_ | refine aA heq1 ?_ | refine aA hcl0 ?_ | refine aA hcl2 ?_ | refine aA hfo ?_);intro x hx;refine aH ?_)| refine ai ?_ | exact ax |(refine aj rfl ?_;intro D lL)| refine af ?_ ?_ | refine ah ?_ ?_ ?_ | fail));(all_goals refine av ?_)
  all_goals exact d9 () True.intro cD bu
 intro _ _
 (conv=>arg 3;simp only [List.cons_append,List.nil_append])
 have hUO:UOk p.n (treW p.L (Cs.fls p.n) (ra p.L s2)):=by
  have hO:=xg hD1.int.ok
  have hll:=hD1.int.ll
  rw [←hll];exact UOk.treW (OkW.fls hO) rfl
 (repeat' ((try refine aw ?_);(conv=>arg 4;whnf);first | refine aO ?_ |(refine sN ?_;intro b)|(refine sC ?_ ?_<;>intro h)|(refine au ?_ ?_<;>intro h<;>try contradiction)|(refine aa ?_;intro g c')| refine ai ?_ | exact ax |(refine aj rfl ?_;intro D lL)| refine af ?_ ?_ | refine ah ?_ ?_ ?_ | fail));(all_goals refine av ?_)
 refine BD [3,6,8,9] ?_
 (conv=>arg 4;whnf)
 refine zp [Bk sb (aB (c8 p M)),Bk fb (aB (c8 p2 M2)),Dm M.d M.I,Dm M2.d M2.I,Sl aL (some ⟨M2.lb,0,none⟩) p2.log.length M2.lc p2.log,Gs (qE ad)] bu ?_
 refine eD (X:=Nat×Nat) (fun x=> [(3,vP sb 0),(8,vP fb 0),(9,vI 0),(16,vP x.2 0)]) (fun _=>True) (fun x=> [iB x.2 (aV ⟨p.n,(some ⟨x.1,0,none⟩,tot p.n,tot p.n)⟩) 43]) (fun x=> [Sl a7 (some ⟨x.1,0,none⟩) (tot p.n) (tot p.n) (treW p.L (Cs.fls p.n) (ra p.L s2))]) ?_ ?_
 ·intro K4
  exact t_ops (by kernel_rfl) (z_oldW h1 hP2.log0 (by omega) hn2 hP2.last hD1 K4)
 rintro ⟨ub,tb⟩ _
 (conv=>arg 2;simp only [List.cons_append,List.nil_append])
 (conv=>arg 3;simp only [List.cons_append,List.nil_append])
 dsimp only
 have hke:=z_cKe (tb:=ub) (to:=0) (m:=tot p.n) (c:=tot p.n) (q:=qE ad) hUO
 have hkl:=kepL_len (n:=p.n) (ts:=treW p.L (Cs.fls p.n) (ra p.L s2))
 have htl:=b9 h2
 have hwl:(treW p.L (Cs.fls p.n) (ra p.L s2)).length=tot p.n:=hUO.ln
 generalize hkL:kepL p.n (treW p.L (Cs.fls p.n) (ra p.L s2))=kL at hke hkep hkl
 (repeat' ((try refine aw ?_);(conv=>arg 4;whnf);first | refine aO ?_ |(refine sN ?_;intro b)|(refine sC ?_ ?_<;>intro h)|(refine au ?_ ?_<;>intro h<;>try contradiction)|(refine aa ?_;intro g c')|(refine cw hke ?_;intro x hx;refine bV ?_)| refine ai ?_ | exact ax |(refine aj rfl ?_;intro D lL)| refine af ?_ ?_ | refine ah ?_ ?_ ?_ | fail));(all_goals refine av ?_)
 obtain ⟨k1,k2⟩:=x
 dsimp only
 refine dh [] (X:=Nat) (fun i=> [(19,vI i)]) (fun i=>i≤M2.d.size) (fun _=> []) (fun i=>M2.d.size-i) 0 (Nat.zero_le _) rfl cD ?_
 intro i hi
 (conv=>arg 2;simp only [List.cons_append,List.nil_append])
 by_cases hlt:i<M2.d.size
 ·have hv0:=Ma (d:=M.d) (I:=M.I) (s:=i) hM.ok.ok (by have:=hM.ok.size;have:=hM2.sz;rw [hn2] at this;omega) (by have:=hM.ok.vl i;rw [←hM.ok.cn,DI.con_len] at this;omega)
  have hv2:=Ma (d:=M2.d) (I:=M2.I) (s:=i) hM2.ok.ok (by have:=hM2.ok.size;have:=hM2.sz;omega) (by have:=hM2.ok.vl i;rw [←hM2.ok.cn,DI.con_len] at this;omega)
  rw [←DI.con_len,hM.ok.cn] at hv0
  rw [←DI.con_len,hM2.ok.cn] at hv2
  have hmo:=(hmore i).1
  by_cases hgt2:(p.con i).length<(p2.con i).length
  ·have hmem:=hkep i hgt2
   (repeat' ((try refine aw ?_);(conv=>arg 4;whnf);first | refine aO ?_ |(refine sN ?_;intro b)|(refine sC ?_ ?_<;>intro h)|(refine au ?_ ?_<;>intro h<;>try contradiction)|(refine aa ?_;intro g c')|((first | refine aA hsz2 ?_ | refine aA hdk0 ?_ | refine aA hdk2 ?_ | refine aA hv0 ?_ | refine aA hv2 ?_);intro x hx;refine aH ?_)| refine ai ?_ | exact ax |(refine aj rfl ?_;intro D lL)| refine af ?_ ?_ | refine ah ?_ ?_ ?_ | fail));(all_goals refine av ?_)
   obtain ⟨jq0,hj0,hj1⟩:=List.mem_iff_getElem.1 hmem
   refine dh [] (X:=Nat×Bool) (fun x=> [(24, .bool x.2),(25,vI x.1)]) (fun x=>x.1≤kL.length∧(x.2=false→x.1≤jq0)) (fun _=> []) (fun x=>kL.length-x.1) (0,false) ⟨Nat.zero_le _,fun _=>Nat.zero_le _⟩ rfl cD ?_
   rintro ⟨j,fb2⟩ ⟨hj,hjf⟩
   (conv=>arg 2;simp only [List.cons_append,List.nil_append])
   dsimp only at hj hjf⊢
   by_cases hjl:j<kL.length
   ·have hge:kL.getD j default=kL[j]'hjl:=(List.getElem_eq_getD (h:=hjl) default).symm
    have hjm:(j.mul 0).add j=j:=by show j*0+j=j;omega
    cases fb2 with
    | true=>
     (repeat' ((try refine aw ?_);(conv=>arg 4;whnf);first | refine aO ?_ |(refine sN ?_;intro b)|(refine sC ?_ ?_<;>intro h)|(refine au ?_ ?_<;>intro h<;>try contradiction)|(refine aa ?_;intro g c')| refine ai ?_ | exact ax |(refine aj rfl ?_;intro D lL)| refine af ?_ ?_ | refine ah ?_ ?_ ?_ | fail));(all_goals refine av ?_)
     all_goals exact jV (j+1,true) ⟨hjl,fun e=>by cases e⟩ cD (by dsimp only;omega) bu
    | false=>
     have hjj:=hjf rfl
     by_cases he:kL.getD ((j.mul 0).add j) default=i
     ·(repeat' ((try refine aw ?_);(conv=>arg 4;whnf);first | refine aO ?_ |(refine sN ?_;intro b)|(refine sC ?_ ?_<;>intro h)|(refine au ?_ ?_<;>intro h<;>try contradiction)|(refine aa ?_;intro g c')| refine ai ?_ | exact ax |(refine aj rfl ?_;intro D lL)| refine af ?_ ?_ | refine ah ?_ ?_ ?_ | fail));(all_goals refine av ?_)
      all_goals first | exact (h (by rw [he])).elim | exact jV (j+1,true) ⟨hjl,fun e=>by cases e⟩ cD (by dsimp only;omega) bu
     ·have hne:j≠jq0:=fun e=>he (by rw [hjm];subst e;rw [hge];exact hj1)
      (repeat' ((try refine aw ?_);(conv=>arg 4;whnf);first | refine aO ?_ |(refine sN ?_;intro b)|(refine sC ?_ ?_<;>intro h)|(refine au ?_ ?_<;>intro h<;>try contradiction)|(refine aa ?_;intro g c')| refine ai ?_ | exact ax |(refine aj rfl ?_;intro D lL)| refine af ?_ ?_ | refine ah ?_ ?_ ?_ | fail));(all_goals refine av ?_)
      all_goals first | exact (he (Int.ofNat_inj.1 h)).elim | exact jV (j+1,false) ⟨hjl,fun _=>by dsimp only;omega⟩ cD (by dsimp only;omega) bu
   ·obtain rfl:j=kL.length:=by omega
    cases fb2 with
    | true=>
     (repeat' ((try refine aw ?_);(conv=>arg 4;whnf);first | refine aO ?_ |(refine sN ?_;intro b)|(refine sC ?_ ?_<;>intro h)|(refine au ?_ ?_<;>intro h<;>try contradiction)|(refine aa ?_;intro g c')| refine ai ?_ | exact ax |(refine aj rfl ?_;intro D lL)| refine af ?_ ?_ | refine ah ?_ ?_ ?_ | fail));(all_goals refine av ?_)
     exact jV (i+1) hlt cD (by omega) bu
    | false=>exact absurd (hjf rfl) (by omega)
  ·(repeat' ((try refine aw ?_);(conv=>arg 4;whnf);first | refine aO ?_ |(refine sN ?_;intro b)|(refine sC ?_ ?_<;>intro h)|(refine au ?_ ?_<;>intro h<;>try contradiction)|(refine aa ?_;intro g c')|((first | refine aA hsz2 ?_ | refine aA hdk0 ?_ | refine aA hdk2 ?_ | refine aA hv0 ?_ | refine aA hv2 ?_);intro x hx;refine aH ?_)| refine ai ?_ | exact ax |(refine aj rfl ?_;intro D lL)| refine af ?_ ?_ | refine ah ?_ ?_ ?_ | fail));(all_goals refine av ?_)
   exact jV (i+1) hlt cD (by omega)
 ·obtain rfl:i=M2.d.size:=by omega
  (repeat' ((try refine aw ?_);(conv=>arg 4;whnf);first | refine aO ?_ |(refine sN ?_;intro b)|(refine sC ?_ ?_<;>intro h)|(refine au ?_ ?_<;>intro h<;>try contradiction)|(refine aa ?_;intro g c')|((first | refine aA hsz2 ?_ | refine aA hdk2 ?_ | refine aA LK ?_);intro x hx;refine aH ?_)| refine ai ?_ | exact ax |(refine aj rfl ?_;intro D lL)| refine af ?_ ?_ | refine ah ?_ ?_ ?_ | fail));(all_goals refine av ?_)
end
end Go.Proofs.YtbobhnldhpjdlaaGreatDoor
namespace Go.Proofs.YtbobhnldhpjdlaaGreatDoor
open Go Go.RowKit Go.Cs Go.Cz
theorem c_TopOld {a:Option Addr} {m c:Nat} {zs:List (UInt8×UInt8×UInt8)} (k:Nat) (W:World) (hm:Ms yF 3 0 W.heap.size W a m c zs) (h1:k<256) (hg:∃ad,HD ad W):
  Calls Tryz.prog 5 #[.agg ([.int .u8 ((k:Nat):Int), .slice a m c]:List Value).toArray] W (Ret fun v W'=>v= .bool true∧Ext W W'):=GT (fun _ _=>z_old) hm h1 hg
end Go.Proofs.YtbobhnldhpjdlaaGreatDoor
