/- Lemmas and walks: what each function does, by its own code. No condition beyond those of each statement. -/
import Derived.Test.YtbobhnldhpjdlaaGreatDoorP20
import Derived.Test.YtbobhnldhpjdlaaGreatDoorP22
import Derived.Test.YtbobhnldhpjdlaaGreatDoorP28
import Derived.Test.YtbobhnldhpjdlaaGreatDoorP29
import Derived.Test.YtbobhnldhpjdlaaGreatDoorP30
set_option linter.all false
set_option linter.unusedVariables false
namespace Go.Proofs.YtbobhnldhpjdlaaGreatDoor
open Go Go.RowKit Go.Cs Go.Cz
set_option maxRecDepth 100000
set_option maxHeartbeats 4000000
theorem tt {l:List UInt8} {p:Nat} (h:p<4) (h0:byt l 0=0):(⟨(c9 l p).lv,(c9 l p).ix,(c9 l p).rs.set p (Rec.of (eI l 45 p)),(c9 l p).es,(c9 l p).hlv,(c9 l p).hix⟩:Nod)=c9 l (p+1):=xA h h0
theorem uk {l:List UInt8} {p:Nat} (h:p<4) (h0:¬byt l 0=0):(⟨(c9 l p).lv,(c9 l p).ix,(c9 l p).rs,(c9 l p).es.set p (Ent.of (eI l 33 p)),(c9 l p).hlv,(c9 l p).hix⟩:Nod)=c9 l (p+1):=xK h h0
theorem FF {y:Nod} {a:Option Addr} {n c:Nat} {q:Value×Value} (hc:bA y=0) (h0:y.lv=0):Zp Tryz.prog 287 [.slice a n c] [] [Sl cB a n c (aM y),Gs q] Unit (fun _=>True) (fun _=> .tuple #[vA (aU y),vI 0]) (fun _=> []) (fun _=> []):=by
 have hl:(aM y).length=185:=by rw [dN,if_pos h0]
 have hb0:byt (aM y) 0=0:=by rw [dZ];exact h0
 have hb1:((aM y).getD 0 default).toNat=0:=hb0
 have hk:=po (n:=((aM y).getD 0 default).toNat) (by omega)
 rw [show min ((aM y).getD 0 default).toNat 1=0 by omega] at hk
 have hfin:c9 (aM y) 4=y:=by have:=jN hc;rwa [pR (gx hc),if_pos rfl] at this
 have hR:∀i,i<4→bS (Rec.of (eI (aM y) 45 i))=0:=fun i hi=>by rw [sq h0 hi,Rec.of_B];exact aZ.1 (gA hc h0) i hi
 have hP:∀i,i<4→(eI (aM y) 45 i).length=45:=fun i hi=>by simp only [eI,List.length_take,List.length_drop];omega
 have hz0:=nX (aM y) (kc _ _) (d5 _ 4)
 generalize aM y=L at*
 refine ak fun G=> ?_
 refine aS 0 ?_
 intro hn hcc hm ha
 rw [hl] at hn
 subst hn
 obtain ⟨sb,o,rfl⟩:=ha (by omega) (by decide)
 (repeat' ((try refine aw ?_);(conv=>arg 4;whnf);first | refine az ?_ |(refine sN ?_;intro b)|(refine sC ?_ ?_<;>intro h)|(refine au ?_ ?_<;>intro h<;>try contradiction)|(refine aa ?_;intro g c')|((first | refine aA hk ?_ | refine aA BA ?_);intro x hx;refine aH ?_)| refine ae ?_ | refine ai ?_ | exact ax |(refine aj rfl ?_;intro D lL)| refine af ?_ ?_ | refine ah ?_ ?_ ?_ | fail));(all_goals refine av ?_)
 refine fL b (aU (c9 L 0)) (congrArg aU hz0) ?_
 refine dh [b] (X:=Nat) (fun i=> [(3,vI 0),(51,vI i)]) (fun i=>i≤4) (fun i=> [iB b (aU (c9 L i)) 217]) (fun i=>4-i) 0 (Nat.zero_le _) rfl cD ?_
 intro i hi
 (conv=>arg 2;simp only [List.cons_append,List.nil_append])
 by_cases h4:i<4
 ·have hT:((L.drop (5+i*45)).take (5+(i+1)*45-(5+i*45)))=eI L 45 i:=by rw [eI];congr 1;omega
  have hT2:=hP i h4
  rw [←hT] at hT2
  have hG:=fun a n c=>FZ (a:=a) (n:=n) (c:=c) hT2
  rw [hT,hR i h4,if_pos rfl,←hT] at hG
  (repeat' ((try refine aw ?_);(conv=>arg 4;whnf);first | refine az ?_ |(refine sN ?_;intro b)|(refine sC ?_ ?_<;>intro h)|(refine au ?_ ?_<;>intro h<;>try contradiction)|(refine aa ?_;intro g c')|(refine aA (hG _ _ _) ?_;intro x hx;refine aH ?_)| refine ae ?_ | refine ai ?_ | exact ax |(refine aj rfl ?_;intro D lL)| refine af ?_ ?_ | refine ah ?_ ?_ ?_ | fail));(all_goals refine av ?_)
  refine a5 (i+1) rfl h4 ?_ (by omega)
  rw [hT,tt h4 hb0]
  ((repeat' (first | with_reducible exact ar _ | exact am _ | refine aE ?_ ?_ | refine aG inferInstance ?_ | refine aX ?_))<;>(try with_reducible rfl))
 ·obtain rfl:i=4:=by omega
  rw [hfin]
  (repeat' ((try refine aw ?_);(conv=>arg 4;whnf);first | refine az ?_ |(refine sN ?_;intro b)|(refine sC ?_ ?_<;>intro h)|(refine au ?_ ?_<;>intro h<;>try contradiction)|(refine aa ?_;intro g c')| refine ae ?_ | refine ai ?_ | exact ax |(refine aj rfl ?_;intro D lL)| refine af ?_ ?_ | refine ah ?_ ?_ ?_ | fail));(all_goals refine av ?_)
theorem Fa {y:Nod} {a:Option Addr} {n c:Nat} {q:Value×Value} (hc:bA y=0) (h0:¬y.lv=0):Zp Tryz.prog 287 [.slice a n c] [] [Sl cB a n c (aM y),Gs q] Unit (fun _=>True) (fun _=> .tuple #[vA (aU y),vI 0]) (fun _=> []) (fun _=> []):=by
 have hl:(aM y).length=137:=by rw [dN,if_neg h0]
 have hlv:=gG hc
 have hb9:byt (aM y) 0=y.lv:=dZ y
 have hb0:¬byt (aM y) 0=0:=by rw [dZ];exact h0
 have hb1:((aM y).getD 0 default).toNat=y.lv:=hb9
 have hk:=po (n:=((aM y).getD 0 default).toNat) (by omega)
 rw [show min ((aM y).getD 0 default).toNat 1=1 by omega] at hk
 have hfin:c9 (aM y) 4=y:=by have:=jN hc;rwa [pR (gx hc),if_pos rfl] at this
 have hR:∀i,i<4→dK (Ent.of (eI (aM y) 33 i))=0:=fun i hi=>by rw [s5 h0 hi,Ent.of_B];exact aZ.1 (jy hc h0) i hi
 have hP:∀i,i<4→(eI (aM y) 33 i).length=33:=fun i hi=>by simp only [eI,List.length_take,List.length_drop];omega
 have hz0:=nX (aM y) (kc _ _) (d5 _ 4)
 generalize aM y=L at*
 refine ak fun G=> ?_
 refine aS 0 ?_
 intro hn hcc hm ha
 rw [hl] at hn
 subst hn
 obtain ⟨sb,o,rfl⟩:=ha (by omega) (by decide)
 (repeat' ((try refine aw ?_);(conv=>arg 4;whnf);first | refine az ?_ |(refine sN ?_;intro b)|(refine sC ?_ ?_<;>intro h)|(refine au ?_ ?_<;>intro h<;>try contradiction)|(refine aa ?_;intro g c')|((first | refine aA hk ?_ | refine aA BA ?_);intro x hx;refine aH ?_)| refine ae ?_ | refine ai ?_ | exact ax |(refine aj rfl ?_;intro D lL)| refine af ?_ ?_ | refine ah ?_ ?_ ?_ | fail));(all_goals refine av ?_)
 refine fL b (aU (c9 L 0)) (congrArg aU hz0) ?_
 refine dh [b] (X:=Nat) (fun i=> [(3,vI 0),(51,vI i)]) (fun i=>i≤4) (fun i=> [iB b (aU (c9 L i)) 217]) (fun i=>4-i) 0 (Nat.zero_le _) rfl cD ?_
 intro i hi
 (conv=>arg 2;simp only [List.cons_append,List.nil_append])
 by_cases h4:i<4
 ·have hT:((L.drop (5+i*33)).take (5+(i+1)*33-(5+i*33)))=eI L 33 i:=by rw [eI];congr 1;omega
  have hT2:=hP i h4
  rw [←hT] at hT2
  have hG:=fun a n c=>E9 (a:=a) (n:=n) (c:=c) hT2
  rw [hT,hR i h4,if_pos rfl,←hT] at hG
  (repeat' ((try refine aw ?_);(conv=>arg 4;whnf);first | refine az ?_ |(refine sN ?_;intro b)|(refine sC ?_ ?_<;>intro h)|(refine au ?_ ?_<;>intro h<;>try contradiction)|(refine aa ?_;intro g c')|(refine aA (hG _ _ _) ?_;intro x hx;refine aH ?_)| refine ae ?_ | refine ai ?_ | exact ax |(refine aj rfl ?_;intro D lL)| refine af ?_ ?_ | refine ah ?_ ?_ ?_ | fail));(all_goals refine av ?_)
  refine a5 (i+1) rfl h4 ?_ (by omega)
  rw [hT,uk h4 hb0]
  ((repeat' (first | with_reducible exact ar _ | exact am _ | refine aE ?_ ?_ | refine aG inferInstance ?_ | refine aX ?_))<;>(try with_reducible rfl))
 ·obtain rfl:i=4:=by omega
  rw [hfin]
  (repeat' ((try refine aw ?_);(conv=>arg 4;whnf);first | refine az ?_ |(refine sN ?_;intro b)|(refine sC ?_ ?_<;>intro h)|(refine au ?_ ?_<;>intro h<;>try contradiction)|(refine aa ?_;intro g c')| refine ae ?_ | refine ai ?_ | exact ax |(refine aj rfl ?_;intro D lL)| refine af ?_ ?_ | refine ah ?_ ?_ ?_ | fail));(all_goals refine av ?_)
theorem I0 {y:Nod} {a:Option Addr} {n c:Nat} {q:Value×Value} (hc:bA y=0):Zp Tryz.prog 287 [.slice a n c] [] [Sl cB a n c (aM y),Gs q] Unit (fun _=>True) (fun _=> .tuple #[vA (aU y),vI 0]) (fun _=> []) (fun _=> []):=by
 by_cases h0:y.lv=0
 ·exact FF hc h0
 ·exact Fa hc h0
end Go.Proofs.YtbobhnldhpjdlaaGreatDoor
namespace Go.Proofs.YtbobhnldhpjdlaaGreatDoor
open Go Go.RowKit Go.Cs Go.Cz
set_option maxRecDepth 100000
set_option maxHeartbeats 4000000
theorem oB {n:Nat} {d:SDsk} (h1:1≤n) (h2:n≤4096) (hd:d.size=bas n (hgt n+1)):Zp Tryz.prog 144 [vI n,vA (aJ d)] [] [] Unit (fun _=>True) (fun _=> .tuple #[vA (cO ⟨n,d⟩),vI 0]) (fun _=> []) (fun _=> []):=by
 refine ak fun G=> ?_
 (repeat' ((try refine aw ?_);(conv=>arg 4;whnf);first | refine az ?_ |(refine sN ?_;intro b)|(refine sC ?_ ?_<;>intro h)|(refine au ?_ ?_<;>intro h<;>try contradiction)|(refine aa ?_;intro g c')|((first | refine aA (Am h1 h2) ?_ | refine aA HM ?_);intro x hx;refine aH ?_)| refine ae ?_ | refine ai ?_ | exact ax |(refine aj rfl ?_;intro D lL)| refine af ?_ ?_ | refine ah ?_ ?_ ?_ | fail));(all_goals refine av ?_)
theorem zB {s:Nat}:Zp Tryz.prog 158 [vI s, .int .u8 0] [] [] Unit (fun _=>True) (fun _=> .tuple #[vA (bW SPrb.zero),vI 0]) (fun _=> []) (fun _=> []):=by
 refine ak fun G=> ?_
 (repeat' ((try refine aw ?_);(conv=>arg 4;whnf);first | refine az ?_ |(refine sN ?_;intro b)|(refine sC ?_ ?_<;>intro h)|(refine au ?_ ?_<;>intro h<;>try contradiction)|(refine aa ?_;intro g c')| refine ae ?_ | refine ai ?_ | exact ax |(refine aj rfl ?_;intro D lL)| refine af ?_ ?_ | refine ah ?_ ?_ ?_ | fail));(all_goals refine av ?_)
theorem Gm {s f:Nat} (hf:f≠0) (h8:f<256):Zp Tryz.prog 158 [vI s, .int .u8 ((f:Nat):Int)] [] [] Unit (fun _=>True) (fun _=> .tuple #[vA (bW ⟨s,f⟩),vI 9]) (fun _=> []) (fun _=> []):=by
 refine ak fun G=> ?_
 (repeat' ((try refine aw ?_);(conv=>arg 4;whnf);first | refine az ?_ |(refine sN ?_;intro b)|(refine sC ?_ ?_<;>intro h)|(refine au ?_ ?_<;>intro h<;>try contradiction)|(refine aa ?_;intro g c')| refine ae ?_ | refine ai ?_ | exact ax |(refine aj rfl ?_;intro D lL)| refine af ?_ ?_ | refine ah ?_ ?_ ?_ | fail));(all_goals refine av ?_)
theorem EX {n l j t:Nat} {d:SDsk} {I:DI} {y:Nod} {want:Dig} {q:Value×Value} (h1:1≤n) (h2:n≤4096) (hl:l≤hgt n) (hj:j<cnt n l) (ht:t≤1) (hI:I.Ok) (hsz:I.size=bas n (hgt n+1)) (hpv:I.pv (bas n l+2*j+t)=some (aM y))
  (hc:bA y=0) (hlv:y.lv=l) (hix:y.ix=j) (hfit:fj n y=0) (hw:bI (aM y)=want):Zp Tryz.prog 228 [vA (cO ⟨n,d⟩),vA (co ⟨l,j⟩),vI t,vA (ay want)] [] [Dm d I,Gs q] Unit (fun _=>True) (fun _=> .tuple #[vA (aU y),vA (bW SPrb.zero),vI 0]) (fun _=> []) (fun _=> []):=by
 have h5:=a8 n
 have hs:bas n l+2*j+t<I.size:=by
  have:=AQ n (l:=l+1) (m:=hgt n+1) (by omega)
  rw [hsz];simp only [bas] at this⊢;omega
 have hbl:(aM y).length≤65536:=by rw [dN];split<;>decide
 have hcn:=cH n l
 refine ak fun G=> ?_
 (repeat' ((try refine aw ?_);(conv=>arg 4;whnf);first | refine az ?_ |(refine sN ?_;intro b)|(refine sC ?_ ?_<;>intro h)|(refine au ?_ ?_<;>intro h<;>try contradiction)|(refine aa ?_;intro g c')|(refine aA (ue h1 h2 hl hj ht) ?_;intro x hx;refine aH ?_)| refine ae ?_ | refine ai ?_ | exact ax |(refine aj rfl ?_;intro D lL)| refine af ?_ ?_ | refine ah ?_ ?_ ?_ | fail));(all_goals refine av ?_)
 rename_i vb pb wb rx rp eb cb xb
 refine fL b ([⟨some (.func 285, #[], #[vP vb 0,vP eb 0,vP cb 0]),1⟩,⟨some (.func 286, #[], #[vP cb 0,vP xb 0]),2⟩,⟨some (.func 288, #[], #[vP xb 0,vP pb 0,vP vb 0]),3⟩,⟨some (.func 289, #[], #[vP xb 0,vP wb 0]),4⟩].flatMap gI) rfl ?_
 revert b;intro db
 refine gJ 5 (bN ?_)
 (repeat' ((try refine aw ?_);(conv=>arg 4;whnf);first | refine az ?_ |(refine sN ?_;intro b)|(refine sC ?_ ?_<;>intro h)|(refine au ?_ ?_<;>intro h<;>try contradiction)|(refine aa ?_;intro g c')|(refine cw (oW hI hs hpv hbl) ?_;intro x hx;refine bV ?_)| refine ae ?_ | refine ai ?_ | exact ax |(refine aj rfl ?_;intro D lL)| refine af ?_ ?_ | refine ah ?_ ?_ ?_ | fail));(all_goals refine av ?_)
 refine bN ?_
 (repeat' ((try refine aw ?_);(conv=>arg 4;whnf);first | refine az ?_ |(refine sN ?_;intro b)|(refine sC ?_ ?_<;>intro h)|(refine au ?_ ?_<;>intro h<;>try contradiction)|(refine aa ?_;intro g c')|(refine aA (I0 (q:=q) hc) ?_;intro x hx;refine aH ?_)| refine ae ?_ | refine ai ?_ | exact ax |(refine aj rfl ?_;intro D lL)| refine af ?_ ?_ | refine ah ?_ ?_ ?_ | fail));(all_goals refine av ?_)
 refine bN ?_
 (repeat' ((try refine aw ?_);(conv=>arg 4;whnf);first | refine az ?_ |(refine sN ?_;intro b)|(refine sC ?_ ?_<;>intro h)|(refine au ?_ ?_<;>intro h<;>try contradiction)|(refine aa ?_;intro g c')|(refine aA (kI h1 h2 hfit) ?_;intro x hx;refine aH ?_)| refine ae ?_ | refine ai ?_ | exact ax |(refine aj rfl ?_;intro D lL)| refine af ?_ ?_ | refine ah ?_ ?_ ?_ | fail));(all_goals refine av ?_)
 refine bN ?_
 (repeat' ((try refine aw ?_);(conv=>arg 4;whnf);first | refine az ?_ |(refine sN ?_;intro b)|(refine sC ?_ ?_<;>intro h)|(refine au ?_ ?_<;>intro h<;>try contradiction)|(refine aa ?_;intro g c')|(refine aA (jB (q:=q) hc) ?_;intro x hx;refine aH ?_)| refine ae ?_ | refine ai ?_ | exact ax |(refine aj rfl ?_;intro D lL)| refine af ?_ ?_ | refine ah ?_ ?_ ?_ | fail));(all_goals refine av ?_)
 refine bN ?_
 (repeat' ((try refine aw ?_);(conv=>arg 4;whnf);first | refine az ?_ |(refine sN ?_;intro b)|(refine sC ?_ ?_<;>intro h)|(refine au ?_ ?_<;>intro h<;>try contradiction)|(refine aa ?_;intro g c')|(refine aA zB ?_;intro x hx;refine aH ?_)| refine ae ?_ | refine ai ?_ | exact ax |(refine aj rfl ?_;intro D lL)| refine af ?_ ?_ | refine ah ?_ ?_ ?_ | fail));(all_goals refine av ?_)
end Go.Proofs.YtbobhnldhpjdlaaGreatDoor
namespace Go.Proofs.YtbobhnldhpjdlaaGreatDoor
open Go Go.RowKit Go.Cs Go.Cz
set_option maxRecDepth 100000
set_option maxHeartbeats 4000000
theorem D4 {n:Nat} {d:SDsk} {I:DI} {cell:Cel} {y:Nod} {q:Value×Value} (h1:1≤n) (h2:n≤4096) (hI:I.Ok) (hsz:I.size=bas n (hgt n+1)) (hpv:I.pv (bas n (hgt n)+2*0+cell.ep%2)=some (aM y))
  (hc:bA y=0) (hlv:y.lv=hgt n) (hix:y.ix=0) (hfit:fj n y=0) (hw:bI (aM y)=cell.root):Zp Tryz.prog 146 [vA (cO ⟨n,d⟩),vA (aL cell)] [] [Dm d I,Gs q] Unit (fun _=>True) (fun _=> .tuple #[vA (aU y),vA (bW SPrb.zero),vI 0]) (fun _=> []) (fun _=> []):=by
 have h5:=a8 n
 have hcp:=dk h1 (hgt n)
 refine ak fun G=> ?_
 (repeat' ((try refine aw ?_);(conv=>arg 4;whnf);first | refine az ?_ |(refine sN ?_;intro b)|(refine sC ?_ ?_<;>intro h)|(refine au ?_ ?_<;>intro h<;>try contradiction)|(refine aa ?_;intro g c')|((first | refine aA (rB h1 h2) ?_ | refine aA nL ?_ | refine aA (EX (q:=q) (t:=cell.ep%2) h1 h2 (Nat.le_refl _) hcp (by omega) hI hsz hpv hc hlv hix hfit hw) ?_);intro x hx;refine aH ?_)| refine ae ?_ | refine ai ?_ | exact ax |(refine aj rfl ?_;intro D lL)| refine af ?_ ?_ | refine ah ?_ ?_ ?_ | fail));(all_goals refine av ?_)
theorem EI {n w:Nat} {d:SDsk} {I:DI} {p y:Nod} {q:Value×Value} (h1:1≤n) (h2:n≤4096) (hI:I.Ok) (hsz:I.size=bas n (hgt n+1)) (hw4:w<4) (hp0:p.lv≠0) (hpl:p.lv≤hgt n) (hpj:4*p.ix+w<cnt n (p.lv-1)) (hs:¬(p.es.get w).st=0) (hs2:(p.es.get w).st≤2)
  (hpv:I.pv (bas n (p.lv-1)+2*(4*p.ix+w)+((p.es.get w).st-1))=some (aM y))
  (hc:bA y=0) (hlv:y.lv=p.lv-1) (hix:y.ix=4*p.ix+w) (hfit:fj n y=0) (hw:bI (aM y)=(p.es.get w).dg):Zp Tryz.prog 147 [vA (cO ⟨n,d⟩),vA (aU p),vI w] [] [Dm d I,Gs q] Unit (fun _=>True) (fun _=> .tuple #[vA (aU y),vA (bW SPrb.zero),vI 0]) (fun _=> []) (fun _=> []):=by
 have h5:=a8 n
 have hcn:=cH n (p.lv-1)
 have hq:=kt (st:=(p.es.get w).st) hs2 hs
 have hv:=EX (q:=q) (d:=d) (t:=(p.es.get w).st-1) h1 h2 (show p.lv-1≤hgt n by omega) hpj (by omega) hI hsz hpv hc hlv hix hfit hw
 have h32:=p.hix
 refine ak fun G=> ?_
 (repeat' ((try refine aw ?_);(conv=>arg 4;whnf);first | refine az ?_ |(refine sN ?_;intro b)|(refine sC ?_ ?_<;>intro h)|(refine au ?_ ?_<;>intro h<;>try contradiction)|(refine aa ?_;intro g c')|((first | refine aA hq ?_ | refine aA hv ?_);intro x hx;refine aH ?_)| refine ae ?_ | refine ai ?_ | exact ax |(refine aj rfl ?_;intro D lL)| refine af ?_ ?_ | refine ah ?_ ?_ ?_ | fail));(all_goals refine av ?_)
theorem Il {n:Nat} {d:SDsk} {I:DI} {cell:Cel} {y:Nod} {q:Value×Value} (h1:1≤n) (h2:n≤4096) (hI:I.Ok) (hd:d.size=bas n (hgt n+1)) (hsz:I.size=bas n (hgt n+1)) (hpv:I.pv (bas n (hgt n)+2*0+cell.ep%2)=some (aM y))
  (hc:bA y=0) (hlv:y.lv=hgt n) (hix:y.ix=0) (hfit:fj n y=0) (hw:bI (aM y)=cell.root):Zp Tryz.prog 135 [vI n,vA (aJ d),vA (aL cell)] [] [Dm d I,Gs q] Unit (fun _=>True) (fun _=> .tuple #[vA (aU y),vA (bW SPrb.zero),vI 0]) (fun _=> []) (fun _=> []):=by
 have hr:=D4 (q:=q) (d:=d) h1 h2 hI hsz hpv hc hlv hix hfit hw
 refine ak fun G=> ?_
 (repeat' ((try refine aw ?_);(conv=>arg 4;whnf);first | refine az ?_ |(refine sN ?_;intro b)|(refine sC ?_ ?_<;>intro h)|(refine au ?_ ?_<;>intro h<;>try contradiction)|(refine aa ?_;intro g c')|((first | refine aA (oB h1 h2 hd) ?_ | refine aA hr ?_);intro x hx;refine aH ?_)| refine ae ?_ | refine ai ?_ | exact ax |(refine aj rfl ?_;intro D lL)| refine af ?_ ?_ | refine ah ?_ ?_ ?_ | fail));(all_goals refine av ?_)
theorem JZ {n w:Nat} {d:SDsk} {I:DI} {p y:Nod} {q:Value×Value} (h1:1≤n) (h2:n≤4096) (hI:I.Ok) (hd:d.size=bas n (hgt n+1)) (hsz:I.size=bas n (hgt n+1)) (hw4:w<4) (hpf:fj n p=0) (hp0:p.lv≠0) (hpl:p.lv≤hgt n) (hpj:4*p.ix+w<cnt n (p.lv-1)) (hs:¬(p.es.get w).st=0) (hs2:(p.es.get w).st≤2)
  (hpv:I.pv (bas n (p.lv-1)+2*(4*p.ix+w)+((p.es.get w).st-1))=some (aM y))
  (hc:bA y=0) (hlv:y.lv=p.lv-1) (hix:y.ix=4*p.ix+w) (hfit:fj n y=0) (hw:bI (aM y)=(p.es.get w).dg):Zp Tryz.prog 141 [vI n,vA (aJ d),vA (aU p),vI w] [] [Dm d I,Gs q] Unit (fun _=>True) (fun _=> .tuple #[vA (aU y),vA (bW SPrb.zero),vI 0]) (fun _=> []) (fun _=> []):=by
 have hv:=EI (q:=q) (d:=d) h1 h2 hI hsz hw4 hp0 hpl hpj hs hs2 hpv hc hlv hix hfit hw
 have hs':¬(p.es.l.getD w default).st=0:=hs
 refine ak fun G=> ?_
 (repeat' ((try refine aw ?_);(conv=>arg 4;whnf);first | refine az ?_ |(refine sN ?_;intro b)|(refine sC ?_ ?_<;>intro h)|(refine au ?_ ?_<;>intro h<;>try contradiction)|(refine aa ?_;intro g c')|((first | refine aA (oB h1 h2 hd) ?_ | refine aA (kI h1 h2 hpf) ?_ | refine aA hv ?_);intro x hx;refine aH ?_)| refine ae ?_ | refine ai ?_ | exact ax |(refine aj rfl ?_;intro D lL)| refine af ?_ ?_ | refine ah ?_ ?_ ?_ | fail));(all_goals refine av ?_)
end Go.Proofs.YtbobhnldhpjdlaaGreatDoor
