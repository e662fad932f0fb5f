/- Lemmas and walks: what each function does, by its own code. No condition beyond those of each statement. -/
import Derived.Test.YtbobhnldhpjdlaaGreatDoorP10
import Derived.Test.YtbobhnldhpjdlaaGreatDoorP17
import Derived.Test.YtbobhnldhpjdlaaGreatDoorP23
import Derived.Test.YtbobhnldhpjdlaaGreatDoorP31
import Derived.Test.YtbobhnldhpjdlaaGreatDoorP36
import Derived.Test.YtbobhnldhpjdlaaGreatDoorP38
set_option linter.all false
set_option linter.unusedVariables false
namespace Go.Proofs.YtbobhnldhpjdlaaGreatDoor
open Go Go.RowKit Go.Cs Go.Cz
set_option maxRecDepth 100000
set_option maxHeartbeats 4000000
section
variable {n tb to m c:Nat} {ts:List Un} {q:Value×Value}
theorem UOk.st2 (h:UOk n ts) {b:Nat} (hb:b<n):((ts.getD (b/4) default).nd.rs.l.getD (b%4) default).st≤2:=by
 have hG:=GoodT.of h.ln (oC h.nd)
 have hw:b%4<4:=by omega
 have h0:=hG.pl 0 (b/4) (Nat.zero_le _) (by have:=gI n;unfold kc at*;omega)
 unfold eX at h0
 rw [show num n 0=0 from rfl,Nat.zero_add] at h0
 have h3:=bh.1 (gY h0.1 h0.2.1) (b%4) hw
 unfold cD at h3
 by_cases hg:2<((ts.getD (b/4) default).nd.rs.l.getD (b%4) default).st
 ·rw [if_pos (show 2<((ts.getD (b/4) Un.zero).nd.rs.get (b%4)).st from hg)] at h3;cases h3
 ·omega
theorem AO {n k:Nat} {x:Non} {t:Dig} (ts:List Un):(rA n ts k x t).length=ts.length:=by
 unfold rA set1
 rw [oV];simp
theorem Fx (hU:UOk n ts) {bi:Nat} (hb:bi<n) {k:Key} {xn:Non} {yd:Dig}:Zp Tryz.prog 185 [vA (a9 ⟨n,(some ⟨tb,to,none⟩,m,c)⟩),vA (cf k),vI bi,vA (cz xn),vA (aE yd)] [] [Sl br (some ⟨tb,to,none⟩) m c ts,Gs q] (Nat×Nat) (fun _=>True) (fun z=> .tuple #[vA (a9 ⟨n,(some ⟨z.1,0,none⟩,ts.length,ts.length)⟩),vA (dh ⟨2*bi+f5 (ts.getD (bi/4) default) (bi%4),(some ⟨z.2,0,none⟩,32,32)⟩),vI 0]) (fun _=> []) (fun z=> [Sl br (some ⟨z.1,0,none⟩) ts.length ts.length (rA n ts bi xn (fA k bi xn (cG k xn yd))),Sl cB (some ⟨z.2,0,none⟩) 32 32 (cG k xn yd).l]):=by
 have h1:=hU.h1
 have h2:=hU.h2
 have htg:=lQ (ts.getD (bi/4) default) (bi%4)
 have hs:=hU.st2 hb
 refine an fun G=> ?_
 refine bc 0 ?_
 intro hn hc hm ha
 subst hn
 (repeat' ((try refine au ?_);(conv=>arg 4;whnf);first | refine ax ?_ |(refine sN ?_;intro b)|(refine sC ?_ ?_<;>intro h)|(refine ar ?_ ?_<;>intro h<;>try contradiction)|(refine aa ?_;intro g c')|((first | refine ay (Gg hU hb hs) ?_ | refine ay (m6 (q:=q) (i:=bi) (by omega)) ?_ | refine ay (Fp hU hb) ?_ | refine ay (kQ h1 h2 hb htg) ?_);intro x hx;refine aN ?_)| refine ae ?_ | refine ai ?_ | exact aw |(refine ak rfl ?_;intro D lL)| refine ah ?_ ?_ | refine aj ?_ ?_ ?_ | fail));(all_goals refine av ?_)
 rename_i db _ zb _
 refine gh (K:=cB) (l:=(cG k xn yd).l) db 32 32 ?_
 refine gh (K:=br) zb ts.length ts.length ?_ (hn:=⟨(AO _).symm,Nat.le_refl _,by have:=cV h2;have:=hU.ln;omega⟩)
 exact aG (zb,db) True.intro rfl (af _) cR
theorem Io {y:Nod} {l j t:Nat} (h1:1≤n) (h2:n≤4096) (hc:cd y=0) (hlv:y.lv=l) (hix:y.ix=j) (hl:l≤hgt n) (hj:j<cnt n l) (ht:t≤1):Zp Tryz.prog 133 [vI n,vA (a7 y),vI t] [] [Gs q] Nat (fun _=>True) (fun b=>vA (dh ⟨bas n l+2*j+t,(some ⟨b,0,none⟩,d7 y,d7 y)⟩)) (fun _=> []) (fun b=> [Sl cB (some ⟨b,0,none⟩) (d7 y) (d7 y) (aL y)]):=by
 subst hlv hix
 have h5:=bu n
 have hcn:=dx n y.lv
 have hnd:=tu (n:=n) (l:=y.lv) (j:=y.ix) (t:=t) h1 h2 hl hj ht
 refine an fun G=> ?_
 (repeat' ((try refine au ?_);(conv=>arg 4;whnf);first | refine ax ?_ |(refine sN ?_;intro b)|(refine sC ?_ ?_<;>intro h)|(refine ar ?_ ?_<;>intro h<;>try contradiction)|(refine aa ?_;intro g c')|((first | refine ay hnd ?_ | refine ay (pP (q:=q) hc) ?_);intro x hx;refine aN ?_)| refine ae ?_ | refine ai ?_ | exact aw |(refine ak rfl ?_;intro D lL)| refine ah ?_ ?_ | refine aj ?_ ?_ ?_ | fail));(all_goals refine av ?_)
 refine gh (K:=cB) (l:=aL y) x (d7 y) (d7 y) ?_ (hn:=⟨(eK _).symm,Nat.le_refl _,by unfold d7;split<;>omega⟩)
 exact aG x True.intro rfl (af _) cR
end
end Go.Proofs.YtbobhnldhpjdlaaGreatDoor
namespace Go.Proofs.YtbobhnldhpjdlaaGreatDoor
open Go Go.RowKit Go.Cs Go.Cz
set_option maxRecDepth 100000
set_option maxHeartbeats 4000000
def Wm:List SWri→List (Nat×List UInt8)→Pt
 | [], []=>fun _=>True
 | v::vs,x::xs=>fun w=>v.Sector=x.1∧Sl cB v.Bytes.1 v.Bytes.2.1 v.Bytes.2.2 x.2 w∧Wm vs xs w
 | _,_=>fun _=>False
theorem Wm.app {w:World} {v:SWri} {y:Nat×List UInt8} (h1:v.Sector=y.1) (h2:Sl cB v.Bytes.1 v.Bytes.2.1 v.Bytes.2.2 y.2 w):∀{vs:List SWri} {xs:List (Nat×List UInt8)},Wm vs xs w→Wm (vs++ [v]) (xs++ [y]) w
 | [], [],h=>⟨h1,h2,trivial⟩
 | a::vs,c::xs,h=>⟨h.1,h.2.1,Wm.app h1 h2 h.2.2⟩
 | [],_::_,h=>h.elim
 | _::_, [],h=>h.elim
theorem Wm.len {w:World}:∀{vs:List SWri} {xs:List (Nat×List UInt8)},Wm vs xs w→vs.length=xs.length
 | [], [],h=>rfl
 | a::vs,c::xs,h=>congrArg Nat.succ (Wm.len h.2.2)
 | [],_::_,h=>h.elim
 | _::_, [],h=>h.elim
theorem Wm.get {w:World}:∀{vs:List SWri} {xs:List (Nat×List UInt8)} {i:Nat},Wm vs xs w→i<xs.length→(vs.getD i default).Sector=(xs.getD i default).1∧Sl cB (vs.getD i default).Bytes.1 (vs.getD i default).Bytes.2.1 (vs.getD i default).Bytes.2.2 (xs.getD i default).2 w
 | a::vs,c::xs,0,h,_=>⟨h.1,h.2.1⟩
 | a::vs,c::xs,i+1,h,hi=>Wm.get (i:=i) h.2.2 (by simpa using hi)
 | [], [],i,h,hi=>by simp at hi
 | [],_::_,_,h,_=>h.elim
 | _::_, [],_,h,_=>h.elim
section
variable {n tb to m c:Nat} {ts:List Un} {q:Value×Value}
theorem HB {v:SUtr}:Zp Tryz.prog 214 [vA (a9 v)] [] [] Nat (fun _=>True) (fun b=> .func (.func 272) #[] #[vP b 0]) (fun _=> []) (fun b=> [Bk b (a9 v)]):=by
 refine an fun G=> ?_
 (repeat' ((try refine au ?_);(conv=>arg 4;whnf);first | refine ax ?_ |(refine sN ?_;intro b)|(refine sC ?_ ?_<;>intro h)|(refine ar ?_ ?_<;>intro h<;>try contradiction)|(refine aa ?_;intro g c')| refine ae ?_ | refine ai ?_ | exact aw |(refine ak rfl ?_;intro D lL)| refine ah ?_ ?_ | refine aj ?_ ?_ ?_ | fail));(all_goals refine av ?_)
 revert b;intro tx
 refine c7 tx ?_
 exact aG tx True.intro rfl (af _) cR
theorem UOk.at (h:UOk n ts) {k:Nat} (hk:k<ts.length):∃l j,l≤hgt n∧j<cnt n l∧num n l+j=k∧cd (ts.getD k default).nd=0∧(ts.getD k default).nd.lv=l∧(ts.getD k default).nd.ix=j:=by
 have h0:=hk
 rw [h.ln] at h0
 obtain ⟨a,b,c⟩:=qV h0
 have e:num n (BU n k)+(k-num n (BU n k))=k:=by omega
 have h1:=(gi (h.nd _ _ a c)).1
 unfold eX at h1
 rw [e] at h1
 exact ⟨_,_,a,c,e,(dm h1.2.2).1,h1.1,h1.2.1⟩
theorem iG {k:Nat} (h:jd n ts k=true):dQ n ts (k+1)=dQ n ts k++ [mf n ts k]:=if_pos h
theorem wT {k:Nat} (h:¬jd n ts k=true):dQ n ts (k+1)=dQ n ts k:=if_neg h
theorem Ih {bx:Nat} (h:UOk n ts):Zp Tryz.prog 213 [.func (.func 272) #[] #[vP bx 0]] [] [Bk bx (a9 ⟨n,(some ⟨tb,to,none⟩,m,c)⟩),Sl br (some ⟨tb,to,none⟩) m c ts,Gs q] (List SWri×Nat×Nat×Nat) (fun x=>x.2.2.2≤9223372036854775807∧x.1.length≤x.2.2.2∧0<x.1.length∧x.1.length=(dQ n ts ts.length).length) (fun x=> .slice (some ⟨x.2.1,x.2.2.1,none⟩) x.1.length x.2.2.2) (fun _=> []) (fun x=> [Sl dh (some ⟨x.2.1,x.2.2.1,none⟩) x.1.length x.2.2.2 x.1,Wm x.1 (dQ n ts ts.length)]):=by
 have h1:=h.h1
 have h2:=h.h2
 have htl:=cV h2
 have hln:=h.ln
 refine an fun G=> ?_
 refine bc 1 ?_
 intro hn hc hm ha
 subst hn
 have hpos:0<ts.length:=by have:=e7 (n:=n) (l:=hgt n) (j:=0) (Nat.le_refl _) (dS h1 _);omega
 have hlast:ts.length-1=tot n-1:=by omega
 (repeat' ((try refine au ?_);(conv=>arg 4;whnf);first | refine ax ?_ |(refine sN ?_;intro b)|(refine sC ?_ ?_<;>intro h)|(refine ar ?_ ?_<;>intro h<;>try contradiction)|(refine aa ?_;intro g c')| refine ae ?_ | refine ai ?_ | exact aw |(refine ak rfl ?_;intro D lL)| refine ah ?_ ?_ | refine aj ?_ ?_ ?_ | fail));(all_goals refine av ?_)
 revert b;intro xb
 refine bq (Wm [] (dQ n ts 0)) (fun w _ _=>trivial) ?_
 refine EH [xb] (X:=Nat×List SWri×Option Addr×Nat) (fun x=> [(13,vI x.1)]) (fun x=>x.1≤ts.length∧x.2.1.length≤x.1) (fun x=> [iB xb [.slice x.2.2.1 x.2.1.length x.2.2.2] 248,iN dh 2 x.2.2.1 x.2.1.length x.2.2.2 266 x.2.1]) (fun x=> [Wm x.2.1 (dQ n ts x.1)]) (fun x=>ts.length-x.1) (0, [],none,0) ⟨Nat.zero_le _,Nat.le_refl _⟩ rfl (by
  ((repeat' (first | with_reducible exact am _ | exact af _ | refine aB ?_ ?_ | refine aD inferInstance ?_ | refine aI ?_ | refine wm rfl ?_))<;>(try with_reducible rfl))
  all_goals rfl) cR ?_
 rintro ⟨k,vs,a,c0⟩ ⟨hk,hvl⟩
 (conv=>arg 2;simp only [List.cons_append,List.nil_append])
 (conv=>arg 3;simp only [List.cons_append,List.nil_append])
 dsimp only at hk hvl⊢
 by_cases hlt:k<ts.length
 ·obtain ⟨l,j,hl,hj,hp,hck,hlv,hix⟩:=h.at hlt
  obtain ⟨s,hs1,hs⟩:∃s:Nat,s≤1∧(ts.getD k default).sl=(s:Int):=by
   rcases h.sl k hlt with e | e
   ·exact ⟨0,by omega,e⟩
   ·exact ⟨1,by omega,e⟩
  have hS:Sb (br (ts.getD k default)) 274 [.int .i64 ((s:Nat):Int)] True:=⟨fun _=>by have:=(inferInstance:Sb (br (ts.getD k default)) 274 [.int .i64 (ts.getD k default).sl] True).sb True.intro;rwa [hs] at this⟩
  have hnd:=Io (q:=q) (y:=(ts.getD k default).nd) (t:=1-s) h1 h2 hck hlv hix hl hj (by omega)
  have hkey:bas n l+2*j+(1-s)=eW n k (1-(ts.getD k default).sl).toNat:=by rw [i6,hp,hs];congr 1;omega
  have hkk:mf n ts k=(eW n k (1-(ts.getD k default).sl).toNat,aL (ts.getD k default).nd):=rfl
  cases hdt:(ts.getD k default).dt with
  | true=>
   have hD:Sb (br (ts.getD k default)) 275 [.bool true] True:=⟨fun _=>by have:=(inferInstance:Sb (br (ts.getD k default)) 275 [.bool (ts.getD k default).dt] True).sb True.intro;rwa [hdt] at this⟩
   have hw:jd n ts k=true:=by unfold jd;rw [show (ts.getD k Un.zero).dt=true from hdt];rfl
   by_cases hla:k=ts.length-1
   ·(repeat' ((try refine au ?_);(conv=>arg 4;whnf);first | refine ax ?_ |(refine sN ?_;intro b)|(refine sC ?_ ?_<;>intro h)|(refine ar ?_ ?_<;>intro h<;>try contradiction)|(refine aa ?_;intro g c')|(refine dD hnd ?_;intro x hx;refine c9 ?_)| refine ae ?_ | refine ai ?_ | exact aw |(refine ak rfl ?_;intro D lL)| refine ah ?_ ?_ | refine aj ?_ ?_ ?_ | fail));(all_goals refine av ?_)
    refine bq (Wm (vs++ [⟨bas n l+2*j+(1-s),(some ⟨x,0,none⟩,d7 (ts.getD k default).nd,d7 (ts.getD k default).nd)⟩]) (dQ n ts (k+1))) (fun w _ hf=>by
     rw [iG hw]
     exact Wm.app hkey (hf _ (.head _)) (hf _ (.tail _ (.head _)))) ?_
    refine rR (k+1,vs++ [⟨bas n l+2*j+(1-s),(some ⟨x,0,none⟩,d7 (ts.getD k default).nd,d7 (ts.getD k default).nd)⟩],some ⟨g,0,none⟩,c') ⟨by omega,by simp;omega⟩ (by
     dsimp only
     rw [List.length_append]
     ((repeat' (first | with_reducible exact am _ | exact af _ | refine aB ?_ ?_ | refine aD inferInstance ?_ | refine aI ?_))<;>(try with_reducible rfl))
     all_goals rfl) (by dsimp only;omega) cR
   ·(repeat' ((try refine au ?_);(conv=>arg 4;whnf);first | refine ax ?_ |(refine sN ?_;intro b)|(refine sC ?_ ?_<;>intro h)|(refine ar ?_ ?_<;>intro h<;>try contradiction)|(refine aa ?_;intro g c')|(refine dD hnd ?_;intro x hx;refine c9 ?_)| refine ae ?_ | refine ai ?_ | exact aw |(refine ak rfl ?_;intro D lL)| refine ah ?_ ?_ | refine aj ?_ ?_ ?_ | fail));(all_goals refine av ?_)
    refine bq (Wm (vs++ [⟨bas n l+2*j+(1-s),(some ⟨x,0,none⟩,d7 (ts.getD k default).nd,d7 (ts.getD k default).nd)⟩]) (dQ n ts (k+1))) (fun w _ hf=>by
     rw [iG hw]
     exact Wm.app hkey (hf _ (.head _)) (hf _ (.tail _ (.head _)))) ?_
    refine rR (k+1,vs++ [⟨bas n l+2*j+(1-s),(some ⟨x,0,none⟩,d7 (ts.getD k default).nd,d7 (ts.getD k default).nd)⟩],some ⟨g,0,none⟩,c') ⟨by omega,by simp;omega⟩ (by
     dsimp only
     rw [List.length_append]
     ((repeat' (first | with_reducible exact am _ | exact af _ | refine aB ?_ ?_ | refine aD inferInstance ?_ | refine aI ?_))<;>(try with_reducible rfl))
     all_goals rfl) (by dsimp only;omega) cR
  | false=>
   have hD:Sb (br (ts.getD k default)) 275 [.bool false] True:=⟨fun _=>by have:=(inferInstance:Sb (br (ts.getD k default)) 275 [.bool (ts.getD k default).dt] True).sb True.intro;rwa [hdt] at this⟩
   by_cases hla:k=ts.length-1
   ·have hw:jd n ts k=true:=by unfold jd;rw [hla,hlast];simp
    (repeat' ((try refine au ?_);(conv=>arg 4;whnf);first | refine ax ?_ |(refine sN ?_;intro b)|(refine sC ?_ ?_<;>intro h)|(refine ar ?_ ?_<;>intro h<;>try contradiction)|(refine aa ?_;intro g c')|(refine dD hnd ?_;intro x hx;refine c9 ?_)| refine ae ?_ | refine ai ?_ | exact aw |(refine ak rfl ?_;intro D lL)| refine ah ?_ ?_ | refine aj ?_ ?_ ?_ | fail));(all_goals refine av ?_)
    refine bq (Wm (vs++ [⟨bas n l+2*j+(1-s),(some ⟨x,0,none⟩,d7 (ts.getD k default).nd,d7 (ts.getD k default).nd)⟩]) (dQ n ts (k+1))) (fun w _ hf=>by
     rw [iG hw]
     exact Wm.app hkey (hf _ (.head _)) (hf _ (.tail _ (.head _)))) ?_
    refine rR (k+1,vs++ [⟨bas n l+2*j+(1-s),(some ⟨x,0,none⟩,d7 (ts.getD k default).nd,d7 (ts.getD k default).nd)⟩],some ⟨g,0,none⟩,c') ⟨by omega,by simp;omega⟩ (by
     dsimp only
     rw [List.length_append]
     ((repeat' (first | with_reducible exact am _ | exact af _ | refine aB ?_ ?_ | refine aD inferInstance ?_ | refine aI ?_))<;>(try with_reducible rfl))
     all_goals rfl) (by dsimp only;omega) cR
   ·have hw:¬jd n ts k=true:=by unfold jd;rw [show (ts.getD k Un.zero).dt=false from hdt];simp;omega
    (repeat' ((try refine au ?_);(conv=>arg 4;whnf);first | refine ax ?_ |(refine sN ?_;intro b)|(refine sC ?_ ?_<;>intro h)|(refine ar ?_ ?_<;>intro h<;>try contradiction)|(refine aa ?_;intro g c')|(refine dD hnd ?_;intro x hx;refine c9 ?_)| refine ae ?_ | refine ai ?_ | exact aw |(refine ak rfl ?_;intro D lL)| refine ah ?_ ?_ | refine aj ?_ ?_ ?_ | fail));(all_goals refine av ?_)
    rw [←wT hw]
    exact rR (k+1,vs,a,c0) ⟨by omega,by dsimp only;omega⟩ (by
     ((repeat' (first | with_reducible exact am _ | exact af _ | refine aB ?_ ?_ | refine aD inferInstance ?_ | refine aI ?_))<;>(try with_reducible rfl))
     all_goals rfl) (by dsimp only;omega) cR
 ·obtain rfl:k=ts.length:=by omega
  (repeat' ((try refine au ?_);(conv=>arg 4;whnf);first | refine ax ?_ |(refine sN ?_;intro b)|(refine sC ?_ ?_<;>intro h)|(refine ar ?_ ?_<;>intro h<;>try contradiction)|(refine aa ?_;intro g c')| refine ae ?_ | refine ai ?_ | exact aw |(refine ak rfl ?_;intro D lL)| refine ah ?_ ?_ | refine aj ?_ ?_ ?_ | fail));(all_goals refine av ?_)
  refine ic (m:=2) (e:=266) dh a vs.length c0 ?_
  refine gM (p:=vs.length=(dQ n ts ts.length).length) (fun w _ hf=>Wm.len (hf (Wm vs (dQ n ts ts.length)) (.tail _ (.head _)))) ?_
  intro hlen
  have hwp:0<(dQ n ts ts.length).length:=by
   obtain ⟨k,hk1⟩:∃k,ts.length=k+1:=⟨ts.length-1,by omega⟩
   have hw:jd n ts k=true:=by unfold jd;rw [show k=tot n-1 by omega];simp
   rw [hk1,iG hw];simp
  have hv0:0<vs.length:=by omega
  refine bc 0 ?_
  intro _ hc1 hm1 ha1
  obtain ⟨g,o,rfl⟩:=ha1 hv0 (by decide)
  exact aG (vs,g,o,c0) ⟨hm1,hc1,hv0,hlen⟩ rfl (af _) cR
end
end Go.Proofs.YtbobhnldhpjdlaaGreatDoor
namespace Go.Proofs.YtbobhnldhpjdlaaGreatDoor
open Go Go.RowKit Go.Cs Go.Cz
set_option maxRecDepth 100000
set_option maxHeartbeats 4000000
section
variable {n tb to m c:Nat} {ts:List Un} {q:Value×Value}
theorem Jy {cell:Cel} (h:UOk n ts) (hsl:(ts.getD (ts.length-1) default).sl=((cell.ep%2:Nat):Int)) (hep:cell.ep<2^63):Zp Tryz.prog 122 [vA (a9 ⟨n,(some ⟨tb,to,none⟩,m,c)⟩),vA (aM cell)] [] [Sl br (some ⟨tb,to,none⟩) m c ts,Gs q] (List SWri×Nat×Nat) (fun x=>0<x.1.length∧x.1.length=(dQ n ts ts.length).length) (fun x=> .tuple #[.slice (some ⟨x.2.1,x.2.2,none⟩) x.1.length x.1.length,vA (aM (cell.nxt (cq (aL (ts.getD (ts.length-1) default).nd)))),vI 0]) (fun _=> []) (fun x=> [Sl dh (some ⟨x.2.1,x.2.2,none⟩) x.1.length x.1.length x.1,Wm x.1 (dQ n ts ts.length)]):=by
 have h1:=h.h1
 have h2:=h.h2
 have htl:=cV h2
 have hln:=h.ln
 have hpos:0<ts.length:=by have:=e7 (n:=n) (l:=hgt n) (j:=0) (Nat.le_refl _) (dS h1 _);omega
 have hS:Sb (br (ts.getD (ts.length-1) default)) 274 [.int .i64 ((cell.ep%2:Nat):Int)] True:=⟨fun _=>by have:=(inferInstance:Sb (br (ts.getD (ts.length-1) default)) 274 [.int .i64 (ts.getD (ts.length-1) default).sl] True).sb True.intro;rwa [hsl] at this⟩
 refine an fun G=> ?_
 refine bc 0 ?_
 intro hn hc hm ha
 subst hn
 have hrt:=GU (tb:=tb) (to:=to) (m:=ts.length) (c:=c) (q:=q) h
 have hco:=fun bx=>Ih (bx:=bx) (tb:=tb) (to:=to) (m:=ts.length) (c:=c) (q:=q) h
 (repeat' ((try refine au ?_);(conv=>arg 4;whnf);first | refine cp ?_ |(refine sN ?_;intro b)|(refine sC ?_ ?_<;>intro h)|(refine ar ?_ ?_<;>intro h<;>try contradiction)|(refine aa ?_;intro g c')|((first | refine ay hrt ?_ | refine ay nO ?_ | refine ay (uU (y:=cell) hep) ?_);intro x hx;refine aN ?_)| refine ae ?_ | refine ai ?_ | exact aw |(refine ak rfl ?_;intro D lL)| refine ah ?_ ?_ | refine aj ?_ ?_ ?_ | fail));(all_goals refine av ?_)
 (first | refine eY rfl rfl ?_ |(refine dT ?_;(conv=>arg 4;whnf);refine d5 rfl ?_))
 (repeat' ((try refine au ?_);(conv=>arg 4;whnf);first | refine cp ?_ |(refine sN ?_;intro b)|(refine sC ?_ ?_<;>intro h)|(refine ar ?_ ?_<;>intro h<;>try contradiction)|(refine aa ?_;intro g c')|((first | refine ay hrt ?_ | refine ay nO ?_ | refine ay (uU (y:=cell) hep) ?_);intro x hx;refine aN ?_)| refine ae ?_ | refine ai ?_ | exact aw |(refine ak rfl ?_;intro D lL)| refine ah ?_ ?_ | refine aj ?_ ?_ ?_ | fail));(all_goals refine av ?_)
 refine GB rfl ?_
 (repeat' ((try refine au ?_);(conv=>arg 4;whnf);first | refine cp ?_ |(refine sN ?_;intro b)|(refine sC ?_ ?_<;>intro h)|(refine ar ?_ ?_<;>intro h<;>try contradiction)|(refine aa ?_;intro g c')|((first | refine dD HB ?_ | refine dD (hco _) ?_);intro x hx;refine c9 ?_)| refine ae ?_ | refine ai ?_ | exact aw |(refine ak rfl ?_;intro D lL)| refine ah ?_ ?_ | refine aj ?_ ?_ ?_ | fail));(all_goals refine av ?_)
 obtain ⟨vs,g,o,c0⟩:=x
 refine kg 0 ?_
 exact aG (vs,g,o) ⟨hx.2.2.1,hx.2.2.2⟩ rfl (af _) cR
end
theorem HQ {d:SDsk} {I:DI} {sz B:Nat} {con:Con} {vs:List SWri} {l:List (Nat×List UInt8)} {g o:Nat} (hD:DOk d I sz B con) (hB:B+l.length≤1099511627776) (hv0:0<vs.length) (hvm:vs.length≤65536) (hl:∀i,i<l.length→(l.getD i default).1<sz∧(l.getD i default).2.length≤256):Zp Tryz.prog 123 [vA (aJ d), .slice (some ⟨g,o,none⟩) vs.length vs.length,vI vs.length] [] [Dm d I,Sl dh (some ⟨g,o,none⟩) vs.length vs.length vs,Wm vs l] (SDsk×DI) (fun x=>DOk x.1 x.2 sz (B+l.length) (con.puts l)∧x.1.size=d.size) (fun x=> .tuple #[vA (aJ x.1),vI 0]) (fun _=> []) (fun x=> [Dm x.1 x.2]):=by
 refine an fun G=> ?_
 refine gM (p:=vs.length=l.length) (fun w _ hf=>Wm.len (hf (Wm vs l) (.tail _ (.tail _ (.head _))))) ?_
 intro hlen
 (repeat' ((try refine au ?_);(conv=>arg 4;whnf);first | refine ax ?_ |(refine sN ?_;intro b)|(refine sC ?_ ?_<;>intro h)|(refine ar ?_ ?_<;>intro h<;>try contradiction)|(refine aa ?_;intro g c')| refine ae ?_ | refine ai ?_ | exact aw |(refine ak rfl ?_;intro D lL)| refine ah ?_ ?_ | refine aj ?_ ?_ ?_ | fail));(all_goals refine av ?_)
 rename_i db
 revert b;intro rb
 refine EH [db] (X:=Nat×SDsk×DI) (fun x=> [(7, .int .i64 0),(25,vI x.1)]) (fun x=>x.1≤l.length∧DOk x.2.1 x.2.2 sz (B+x.1) (con.puts (l.take x.1))∧x.2.1.size=d.size) (fun x=> [iB db (aJ x.2.1) 36]) (fun x=> [Dm x.2.1 x.2.2]) (fun x=>l.length-x.1) (0,d,I) ⟨Nat.zero_le _,hD,rfl⟩ rfl eG cR ?_
 rintro ⟨i,d1,I1⟩ ⟨hi,hD1,hs1⟩
 (conv=>arg 2;simp only [List.cons_append,List.nil_append])
 (conv=>arg 3;simp only [List.cons_append,List.nil_append])
 dsimp only at hi hD1 hs1⊢
 by_cases hlt:i<l.length
 ·obtain ⟨hlt1,hlt2⟩:=hl i hlt
  have hch:=hD1.chg
  have hvl:=hD1.vl
  refine gM (p:=(vs.getD i default).Sector=(l.getD i default).1) (fun w _ hf=>((hf (Wm vs l) (by simp)).get hlt).1) ?_
  intro hsec
  refine bq (Sl cB (vs.getD i default).Bytes.1 (vs.getD i default).Bytes.2.1 (vs.getD i default).Bytes.2.2 (l.getD i default).2) (fun w _ hf=>((hf (Wm vs l) (by simp)).get hlt).2) ?_
  have hsI:(vs.getD i default).Sector<I1.size:=by rw [hD1.size,hsec];exact hlt1
  have hvl2:(I1.vs.getD (vs.getD i default).Sector []).length≤1099511627776:=by
   have:=hvl (vs.getD i default).Sector
   rw [←hD1.cn,DI.con_len] at this;omega
  have hdw:=fun (a:Option Addr) (n c:Nat)=>wh (d:=d1) (I:=I1) (s:=(vs.getD i default).Sector) (a:=a) (n:=n) (c:=c) (l:=(l.getD i default).2) hD1.ok hsI (by omega) hvl2 hlt2
  (repeat' ((try refine au ?_);(conv=>arg 4;whnf);first | refine ax ?_ |(refine sN ?_;intro b)|(refine sC ?_ ?_<;>intro h)|(refine ar ?_ ?_<;>intro h<;>try contradiction)|(refine aa ?_;intro g c')|(refine dD (hdw _ _ _) ?_;intro x hx;refine c9 ?_)| refine ae ?_ | refine ai ?_ | exact aw |(refine ak rfl ?_;intro D lL)| refine ah ?_ ?_ | refine aj ?_ ?_ ?_ | fail));(all_goals refine av ?_)
  obtain ⟨d',nb,v1,v2⟩:=x
  have hput:=hD1.put (d':=d') (nb:=nb) (s:=(vs.getD i default).Sector) (v:=⟨v1,v2,true,(l.getD i default).2⟩) (by rw [hsec];exact hlt1) hx.2 (fun _=>hlt2)
  rw [if_pos (show (⟨v1,v2,true,(l.getD i default).2⟩:VN).th=true from rfl)] at hput
  have hge:l[i]'hlt=l.getD i default:=List.getElem_eq_getD (h:=hlt) default
  have e:con.puts (l.take (i+1))=(con.puts (l.take i)).put (vs.getD i default).Sector (some (l.getD i default).2):=by
   rw [List.take_succ_eq_append_getElem hlt,Con.puts_app,hsec,hge];rfl
  exact rR (i+1,d',I1.put (vs.getD i default).Sector nb ⟨v1,v2,true,(l.getD i default).2⟩) ⟨hlt,by dsimp only;rw [e,←Nat.add_assoc];exact hput,hx.1.trans hs1⟩ eG (by dsimp only;omega) cR
 ·obtain rfl:i=l.length:=by omega
  rw [List.take_length] at hD1
  (repeat' ((try refine au ?_);(conv=>arg 4;whnf);first | refine ax ?_ |(refine sN ?_;intro b)|(refine sC ?_ ?_<;>intro h)|(refine ar ?_ ?_<;>intro h<;>try contradiction)|(refine aa ?_;intro g c')| refine ae ?_ | refine ai ?_ | exact aw |(refine ak rfl ?_;intro D lL)| refine ah ?_ ?_ | refine aj ?_ ?_ ?_ | fail));(all_goals refine av ?_)
  exact aG (d1,I1) ⟨hD1,hs1⟩ rfl (af _) cR
end Go.Proofs.YtbobhnldhpjdlaaGreatDoor
