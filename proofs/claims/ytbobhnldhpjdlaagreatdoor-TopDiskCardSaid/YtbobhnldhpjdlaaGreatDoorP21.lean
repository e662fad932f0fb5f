/- Lemmas and walks: what each function does, by its own code. No condition beyond those of each statement. -/
import Derived.Test.YtbobhnldhpjdlaaGreatDoorP8
import Derived.Test.YtbobhnldhpjdlaaGreatDoorP14
import Derived.Test.YtbobhnldhpjdlaaGreatDoorP18
import Derived.Test.YtbobhnldhpjdlaaGreatDoorP19
import Derived.Test.YtbobhnldhpjdlaaGreatDoorP20
set_option linter.all false
set_option linter.unusedVariables false
namespace Go.Proofs.YtbobhnldhpjdlaaGreatDoor
open Go Go.RowKit Go.Cs Go.Cz
set_option maxRecDepth 100000
set_option maxHeartbeats 4000000
theorem tt {l:List UInt8} {p:Nat} (h:p<4) (h0:byt l 0=0):(⟨(c9 l p).lv,(c9 l p).ix,(c9 l p).rs.set p (Rec.of (eI l 45 p)),(c9 l p).es,(c9 l p).hlv,(c9 l p).hix⟩:Nod)=c9 l (p+1):=xA h h0
theorem uk {l:List UInt8} {p:Nat} (h:p<4) (h0:¬byt l 0=0):(⟨(c9 l p).lv,(c9 l p).ix,(c9 l p).rs,(c9 l p).es.set p (Ent.of (eI l 33 p)),(c9 l p).hlv,(c9 l p).hix⟩:Nod)=c9 l (p+1):=xK h h0
theorem FF {y:Nod} {a:Option Addr} {n c:Nat} {q:Value×Value} (hc:bA y=0) (h0:y.lv=0):Zp Tryz.prog 287 [.slice a n c] [] [Sl cB a n c (aM y),Gs q] Unit (fun _=>True) (fun _=> .tuple #[vA (aU y),vI 0]) (fun _=> []) (fun _=> []):=by
 have hl:(aM y).length=185:=by rw [dN,if_pos h0]
 have hb0:byt (aM y) 0=0:=by rw [dZ];exact h0
 have hb1:((aM y).getD 0 default).toNat=0:=hb0
 have hk:=po (n:=((aM y).getD 0 default).toNat) (by omega)
 rw [show min ((aM y).getD 0 default).toNat 1=0 by omega] at hk
 have hfin:c9 (aM y) 4=y:=by have:=jN hc;rwa [pR (gx hc),if_pos rfl] at this
 have hR:∀i,i<4→bS (Rec.of (eI (aM y) 45 i))=0:=fun i hi=>by rw [sq h0 hi,Rec.of_B];exact aZ.1 (gA hc h0) i hi
 have hP:∀i,i<4→(eI (aM y) 45 i).length=45:=fun i hi=>by simp only [eI,List.length_take,List.length_drop];omega
 have hz0:=nX (aM y) (kc _ _) (d5 _ 4)
 generalize aM y=L at*
 refine ak fun G=> ?_
 refine aS 0 ?_
 intro hn hcc hm ha
 rw [hl] at hn
 subst hn
 obtain ⟨sb,o,rfl⟩:=ha (by omega) (by decide)
 (repeat' ((try refine aw ?_);(conv=>arg 4;whnf);first | refine az ?_ |(refine sN ?_;intro b)|((first | refine aA hk ?_ | refine aA BA ?_);intro x hx;refine aH ?_)| exact ax | fail));(all_goals refine av ?_)
 refine fL b (aU (c9 L 0)) (congrArg aU hz0) ?_
 refine dh [b] (X:=Nat) (fun i=> [(3,vI 0),(51,vI i)]) (fun i=>i≤4) (fun i=> [iB b (aU (c9 L i)) 217]) (fun i=>4-i) 0 (Nat.zero_le _) rfl cD ?_
 intro i hi
 (conv=>arg 2;simp only [List.cons_append,List.nil_append])
 by_cases h4:i<4
 ·have hT:((L.drop (5+i*45)).take (5+(i+1)*45-(5+i*45)))=eI L 45 i:=by rw [eI];congr 1;omega
  have hT2:=hP i h4
  rw [←hT] at hT2
  have hG:=fun a n c=>FZ (a:=a) (n:=n) (c:=c) hT2
  rw [hT,hR i h4,if_pos rfl,←hT] at hG
  (repeat' ((try refine aw ?_);(conv=>arg 4;whnf);first | refine az ?_ |(refine sN ?_;intro b)|(refine aA (hG _ _ _) ?_;intro x hx;refine aH ?_)| exact ax | fail));(all_goals refine av ?_)
  refine a5 (i+1) rfl h4 ?_ (by omega)
  rw [hT,tt h4 hb0]
  ((repeat' (first | exact am _ | refine aE ?_ ?_ | fail))<;>(try with_reducible rfl))
 ·obtain rfl:i=4:=by omega
  rw [hfin]
  (repeat' ((try refine aw ?_);(conv=>arg 4;whnf);first | refine az ?_ |(refine sN ?_;intro b)| exact ax | fail));(all_goals refine av ?_)
theorem Fa {y:Nod} {a:Option Addr} {n c:Nat} {q:Value×Value} (hc:bA y=0) (h0:¬y.lv=0):Zp Tryz.prog 287 [.slice a n c] [] [Sl cB a n c (aM y),Gs q] Unit (fun _=>True) (fun _=> .tuple #[vA (aU y),vI 0]) (fun _=> []) (fun _=> []):=by
 have hl:(aM y).length=137:=by rw [dN,if_neg h0]
 have hlv:=gG hc
 have hb9:byt (aM y) 0=y.lv:=dZ y
 have hb0:¬byt (aM y) 0=0:=by rw [dZ];exact h0
 have hb1:((aM y).getD 0 default).toNat=y.lv:=hb9
 have hk:=po (n:=((aM y).getD 0 default).toNat) (by omega)
 rw [show min ((aM y).getD 0 default).toNat 1=1 by omega] at hk
 have hfin:c9 (aM y) 4=y:=by have:=jN hc;rwa [pR (gx hc),if_pos rfl] at this
 have hR:∀i,i<4→dK (Ent.of (eI (aM y) 33 i))=0:=fun i hi=>by rw [s5 h0 hi,Ent.of_B];exact aZ.1 (jy hc h0) i hi
 have hP:∀i,i<4→(eI (aM y) 33 i).length=33:=fun i hi=>by simp only [eI,List.length_take,List.length_drop];omega
 have hz0:=nX (aM y) (kc _ _) (d5 _ 4)
 generalize aM y=L at*
 refine ak fun G=> ?_
 refine aS 0 ?_
 intro hn hcc hm ha
 rw [hl] at hn
 subst hn
 obtain ⟨sb,o,rfl⟩:=ha (by omega) (by decide)
 (repeat' ((try refine aw ?_);(conv=>arg 4;whnf);first | refine az ?_ |(refine sN ?_;intro b)|((first | refine aA hk ?_ | refine aA BA ?_);intro x hx;refine aH ?_)| exact ax | fail));(all_goals refine av ?_)
 refine fL b (aU (c9 L 0)) (congrArg aU hz0) ?_
 refine dh [b] (X:=Nat) (fun i=> [(3,vI 0),(51,vI i)]) (fun i=>i≤4) (fun i=> [iB b (aU (c9 L i)) 217]) (fun i=>4-i) 0 (Nat.zero_le _) rfl cD ?_
 intro i hi
 (conv=>arg 2;simp only [List.cons_append,List.nil_append])
 by_cases h4:i<4
 ·have hT:((L.drop (5+i*33)).take (5+(i+1)*33-(5+i*33)))=eI L 33 i:=by rw [eI];congr 1;omega
  have hT2:=hP i h4
  rw [←hT] at hT2
  have hG:=fun a n c=>E9 (a:=a) (n:=n) (c:=c) hT2
  rw [hT,hR i h4,if_pos rfl,←hT] at hG
  (repeat' ((try refine aw ?_);(conv=>arg 4;whnf);first | refine az ?_ |(refine sN ?_;intro b)|(refine aA (hG _ _ _) ?_;intro x hx;refine aH ?_)| exact ax | fail));(all_goals refine av ?_)
  refine a5 (i+1) rfl h4 ?_ (by omega)
  rw [hT,uk h4 hb0]
  ((repeat' (first | exact am _ | refine aE ?_ ?_ | fail))<;>(try with_reducible rfl))
 ·obtain rfl:i=4:=by omega
  rw [hfin]
  (repeat' ((try refine aw ?_);(conv=>arg 4;whnf);first | refine az ?_ |(refine sN ?_;intro b)| exact ax | fail));(all_goals refine av ?_)
theorem I0 {y:Nod} {a:Option Addr} {n c:Nat} {q:Value×Value} (hc:bA y=0):Zp Tryz.prog 287 [.slice a n c] [] [Sl cB a n c (aM y),Gs q] Unit (fun _=>True) (fun _=> .tuple #[vA (aU y),vI 0]) (fun _=> []) (fun _=> []):=by
 by_cases h0:y.lv=0
 ·exact FF hc h0
 ·exact Fa hc h0
end Go.Proofs.YtbobhnldhpjdlaaGreatDoor
namespace Go.Proofs.YtbobhnldhpjdlaaGreatDoor
open Go Go.RowKit Go.Cs Go.Cz
set_option maxRecDepth 100000
set_option maxHeartbeats 4000000
theorem oB {n:Nat} {d:SDsk} (h1:1≤n) (h2:n≤4096) (hd:d.size=bas n (hgt n+1)):Zp Tryz.prog 144 [vI n,vA (aJ d)] [] [] Unit (fun _=>True) (fun _=> .tuple #[vA (cO ⟨n,d⟩),vI 0]) (fun _=> []) (fun _=> []):=by
 refine ak fun G=> ?_
 (repeat' ((try refine aw ?_);(conv=>arg 4;whnf);first | refine az ?_ |(refine sN ?_;intro b)|((first | refine aA (Am h1 h2) ?_ | refine aA HM ?_);intro x hx;refine aH ?_)| exact ax | fail));(all_goals refine av ?_)
theorem zB {s:Nat}:Zp Tryz.prog 158 [vI s, .int .u8 0] [] [] Unit (fun _=>True) (fun _=> .tuple #[vA (bW SPrb.zero),vI 0]) (fun _=> []) (fun _=> []):=by
 refine ak fun G=> ?_
 (repeat' ((try refine aw ?_);(conv=>arg 4;whnf);first | refine az ?_ |(refine sN ?_;intro b)| exact ax | fail));(all_goals refine av ?_)
theorem Gm {s f:Nat} (hf:f≠0) (h8:f<256):Zp Tryz.prog 158 [vI s, .int .u8 ((f:Nat):Int)] [] [] Unit (fun _=>True) (fun _=> .tuple #[vA (bW ⟨s,f⟩),vI 9]) (fun _=> []) (fun _=> []):=by
 refine ak fun G=> ?_
 (repeat' ((try refine aw ?_);(conv=>arg 4;whnf);first | refine az ?_ |(refine sN ?_;intro b)| exact ax | fail));(all_goals refine av ?_)
theorem EX {n l j t:Nat} {d:SDsk} {I:DI} {y:Nod} {want:Dig} {q:Value×Value} (h1:1≤n) (h2:n≤4096) (hl:l≤hgt n) (hj:j<cnt n l) (ht:t≤1) (hI:I.Ok) (hsz:I.size=bas n (hgt n+1)) (hpv:I.pv (bas n l+2*j+t)=some (aM y))
  (hc:bA y=0) (hlv:y.lv=l) (hix:y.ix=j) (hfit:fj n y=0) (hw:bI (aM y)=want):Zp Tryz.prog 228 [vA (cO ⟨n,d⟩),vA (co ⟨l,j⟩),vI t,vA (ay want)] [] [Dm d I,Gs q] Unit (fun _=>True) (fun _=> .tuple #[vA (aU y),vA (bW SPrb.zero),vI 0]) (fun _=> []) (fun _=> []):=by
 have h5:=a8 n
 have hs:bas n l+2*j+t<I.size:=by
  have:=AQ n (l:=l+1) (m:=hgt n+1) (by omega)
  rw [hsz];simp only [bas] at this⊢;omega
 have hbl:(aM y).length≤65536:=by rw [dN];split<;>decide
 have hcn:=cH n l
 refine ak fun G=> ?_
 (repeat' ((try refine aw ?_);(conv=>arg 4;whnf);first | refine az ?_ |(refine sN ?_;intro b)|(refine au ?_ ?_<;>intro h<;>try contradiction)|(refine aA (ue h1 h2 hl hj ht) ?_;intro x hx;refine aH ?_)| refine ae ?_ | exact ax | fail));(all_goals refine av ?_)
 rename_i vb pb wb rx rp eb cb xb
 refine fL b ([⟨some (.func 285, #[], #[vP vb 0,vP eb 0,vP cb 0]),1⟩,⟨some (.func 286, #[], #[vP cb 0,vP xb 0]),2⟩,⟨some (.func 288, #[], #[vP xb 0,vP pb 0,vP vb 0]),3⟩,⟨some (.func 289, #[], #[vP xb 0,vP wb 0]),4⟩].flatMap gI) rfl ?_
 revert b;intro db
 refine gJ 5 (bN ?_)
 (repeat' ((try refine aw ?_);(conv=>arg 4;whnf);first | refine az ?_ |(refine sN ?_;intro b)|(refine au ?_ ?_<;>intro h<;>try contradiction)|(refine cw (oW hI hs hpv hbl) ?_;intro x hx;refine bV ?_)| refine ae ?_ | exact ax | fail));(all_goals refine av ?_)
 refine bN ?_
 (repeat' ((try refine aw ?_);(conv=>arg 4;whnf);first | refine az ?_ |(refine sN ?_;intro b)|(refine au ?_ ?_<;>intro h<;>try contradiction)|(refine aA (I0 (q:=q) hc) ?_;intro x hx;refine aH ?_)| refine ae ?_ | exact ax | fail));(all_goals refine av ?_)
 refine bN ?_
 (repeat' ((try refine aw ?_);(conv=>arg 4;whnf);first | refine az ?_ |(refine sN ?_;intro b)|(refine au ?_ ?_<;>intro h<;>try contradiction)|(refine aA (kI h1 h2 hfit) ?_;intro x hx;refine aH ?_)| refine ae ?_ | exact ax | fail));(all_goals refine av ?_)
 refine bN ?_
 (repeat' ((try refine aw ?_);(conv=>arg 4;whnf);first | refine az ?_ |(refine sN ?_;intro b)|(refine au ?_ ?_<;>intro h<;>try contradiction)|(refine aA (jB (q:=q) hc) ?_;intro x hx;refine aH ?_)| refine ae ?_ | exact ax | fail));(all_goals refine av ?_)
 refine bN ?_
 (repeat' ((try refine aw ?_);(conv=>arg 4;whnf);first | refine az ?_ |(refine sN ?_;intro b)|(refine au ?_ ?_<;>intro h<;>try contradiction)|(refine aA zB ?_;intro x hx;refine aH ?_)| refine ae ?_ | exact ax | fail));(all_goals refine av ?_)
end Go.Proofs.YtbobhnldhpjdlaaGreatDoor
namespace Go.Proofs.YtbobhnldhpjdlaaGreatDoor
open Go Go.RowKit Go.Cs Go.Cz
set_option maxRecDepth 100000
set_option maxHeartbeats 4000000
theorem D4 {n:Nat} {d:SDsk} {I:DI} {cell:Cel} {y:Nod} {q:Value×Value} (h1:1≤n) (h2:n≤4096) (hI:I.Ok) (hsz:I.size=bas n (hgt n+1)) (hpv:I.pv (bas n (hgt n)+2*0+cell.ep%2)=some (aM y))
  (hc:bA y=0) (hlv:y.lv=hgt n) (hix:y.ix=0) (hfit:fj n y=0) (hw:bI (aM y)=cell.root):Zp Tryz.prog 146 [vA (cO ⟨n,d⟩),vA (aL cell)] [] [Dm d I,Gs q] Unit (fun _=>True) (fun _=> .tuple #[vA (aU y),vA (bW SPrb.zero),vI 0]) (fun _=> []) (fun _=> []):=by
 have h5:=a8 n
 have hcp:=dk h1 (hgt n)
 refine ak fun G=> ?_
 (repeat' ((try refine aw ?_);(conv=>arg 4;whnf);first | refine az ?_ |(refine sN ?_;intro b)|((first | refine aA (rB h1 h2) ?_ | refine aA nL ?_ | refine aA (EX (q:=q) (t:=cell.ep%2) h1 h2 (Nat.le_refl _) hcp (by omega) hI hsz hpv hc hlv hix hfit hw) ?_);intro x hx;refine aH ?_)| exact ax | fail));(all_goals refine av ?_)
theorem EI {n w:Nat} {d:SDsk} {I:DI} {p y:Nod} {q:Value×Value} (h1:1≤n) (h2:n≤4096) (hI:I.Ok) (hsz:I.size=bas n (hgt n+1)) (hw4:w<4) (hp0:p.lv≠0) (hpl:p.lv≤hgt n) (hpj:4*p.ix+w<cnt n (p.lv-1)) (hs:¬(p.es.get w).st=0) (hs2:(p.es.get w).st≤2)
  (hpv:I.pv (bas n (p.lv-1)+2*(4*p.ix+w)+((p.es.get w).st-1))=some (aM y))
  (hc:bA y=0) (hlv:y.lv=p.lv-1) (hix:y.ix=4*p.ix+w) (hfit:fj n y=0) (hw:bI (aM y)=(p.es.get w).dg):Zp Tryz.prog 147 [vA (cO ⟨n,d⟩),vA (aU p),vI w] [] [Dm d I,Gs q] Unit (fun _=>True) (fun _=> .tuple #[vA (aU y),vA (bW SPrb.zero),vI 0]) (fun _=> []) (fun _=> []):=by
 have h5:=a8 n
 have hcn:=cH n (p.lv-1)
 have hq:=kt (st:=(p.es.get w).st) hs2 hs
 have hv:=EX (q:=q) (d:=d) (t:=(p.es.get w).st-1) h1 h2 (show p.lv-1≤hgt n by omega) hpj (by omega) hI hsz hpv hc hlv hix hfit hw
 have h32:=p.hix
 refine ak fun G=> ?_
 (repeat' ((try refine aw ?_);(conv=>arg 4;whnf);first | refine az ?_ |(refine sN ?_;intro b)|((first | refine aA hq ?_ | refine aA hv ?_);intro x hx;refine aH ?_)| exact ax | fail));(all_goals refine av ?_)
theorem Il {n:Nat} {d:SDsk} {I:DI} {cell:Cel} {y:Nod} {q:Value×Value} (h1:1≤n) (h2:n≤4096) (hI:I.Ok) (hd:d.size=bas n (hgt n+1)) (hsz:I.size=bas n (hgt n+1)) (hpv:I.pv (bas n (hgt n)+2*0+cell.ep%2)=some (aM y))
  (hc:bA y=0) (hlv:y.lv=hgt n) (hix:y.ix=0) (hfit:fj n y=0) (hw:bI (aM y)=cell.root):Zp Tryz.prog 135 [vI n,vA (aJ d),vA (aL cell)] [] [Dm d I,Gs q] Unit (fun _=>True) (fun _=> .tuple #[vA (aU y),vA (bW SPrb.zero),vI 0]) (fun _=> []) (fun _=> []):=by
 have hr:=D4 (q:=q) (d:=d) h1 h2 hI hsz hpv hc hlv hix hfit hw
 refine ak fun G=> ?_
 (repeat' ((try refine aw ?_);(conv=>arg 4;whnf);first | refine az ?_ |(refine sN ?_;intro b)|((first | refine aA (oB h1 h2 hd) ?_ | refine aA hr ?_);intro x hx;refine aH ?_)| exact ax | fail));(all_goals refine av ?_)
theorem JZ {n w:Nat} {d:SDsk} {I:DI} {p y:Nod} {q:Value×Value} (h1:1≤n) (h2:n≤4096) (hI:I.Ok) (hd:d.size=bas n (hgt n+1)) (hsz:I.size=bas n (hgt n+1)) (hw4:w<4) (hpf:fj n p=0) (hp0:p.lv≠0) (hpl:p.lv≤hgt n) (hpj:4*p.ix+w<cnt n (p.lv-1)) (hs:¬(p.es.get w).st=0) (hs2:(p.es.get w).st≤2)
  (hpv:I.pv (bas n (p.lv-1)+2*(4*p.ix+w)+((p.es.get w).st-1))=some (aM y))
  (hc:bA y=0) (hlv:y.lv=p.lv-1) (hix:y.ix=4*p.ix+w) (hfit:fj n y=0) (hw:bI (aM y)=(p.es.get w).dg):Zp Tryz.prog 141 [vI n,vA (aJ d),vA (aU p),vI w] [] [Dm d I,Gs q] Unit (fun _=>True) (fun _=> .tuple #[vA (aU y),vA (bW SPrb.zero),vI 0]) (fun _=> []) (fun _=> []):=by
 have hv:=EI (q:=q) (d:=d) h1 h2 hI hsz hw4 hp0 hpl hpj hs hs2 hpv hc hlv hix hfit hw
 have hs':¬(p.es.l.getD w default).st=0:=hs
 refine ak fun G=> ?_
 (repeat' ((try refine aw ?_);(conv=>arg 4;whnf);first | refine az ?_ |(refine sN ?_;intro b)|((first | refine aA (oB h1 h2 hd) ?_ | refine aA (kI h1 h2 hpf) ?_ | refine aA hv ?_);intro x hx;refine aH ?_)| exact ax | fail));(all_goals refine av ?_)
end Go.Proofs.YtbobhnldhpjdlaaGreatDoor
namespace Go.Proofs.YtbobhnldhpjdlaaGreatDoor
open Go Go.RowKit Go.Cs Go.Cz
set_option maxRecDepth 100000
set_option maxHeartbeats 4000000
section
variable {a:Option Addr} {n c:Nat} {L:List UInt8} {q:Value×Value}
theorem IJ (hl:L.length=0):Zp Tryz.prog 287 [.slice a n c] [] [Sl cB a n c L,Gs q] Nat (fun e=>e=nN L) (fun e=> .tuple #[vA (aU Nod.zero),vI e]) (fun _=> []) (fun _=> []):=by
 refine ak fun G=> ?_
 refine aS 0 ?_
 intro hn hcc hm ha
 obtain rfl:n=0:=by omega
 (repeat' ((try refine aw ?_);(conv=>arg 4;whnf);first | refine az ?_ |(refine sN ?_;intro b)| fail));(all_goals refine av ?_)
 exact aD 6 (wB hl).symm rfl (am _) bu
theorem IX (hl:¬L.length=0) (h5:5<byt L 0):Zp Tryz.prog 287 [.slice a n c] [] [Sl cB a n c L,Gs q] Nat (fun e=>e=nN L) (fun e=> .tuple #[vA (aU Nod.zero),vI e]) (fun _=> []) (fun _=> []):=by
 have hb1:5<(L.getD 0 default).toNat:=h5
 refine ak fun G=> ?_
 refine aS 0 ?_
 intro hn hcc hm ha
 obtain ⟨sb,o,rfl⟩:=ha (by omega) (by decide)
 (repeat' ((try refine aw ?_);(conv=>arg 4;whnf);first | refine az ?_ |(refine sN ?_;intro b)| fail));(all_goals refine av ?_)
 exact aD 1 (yk hl h5).symm rfl (am _) bu
theorem Iz (hl:¬L.length=0) (h5:¬5<byt L 0) (hs:¬L.length=xX L):Zp Tryz.prog 287 [.slice a n c] [] [Sl cB a n c L,Gs q] Nat (fun e=>e=nN L) (fun e=> .tuple #[vA (aU Nod.zero),vI e]) (fun _=> []) (fun _=> []):=by
 have hb1:¬5<(L.getD 0 default).toNat:=h5
 have hk:=po (n:=(L.getD 0 default).toNat) (by omega)
 have hE1:L.length<xX L→nN L=6:=ow h5
 have hE2:xX L<L.length→nN L=5:=t4 h5
 refine ak fun G=> ?_
 refine aS 0 ?_
 intro hn hcc hm ha
 obtain ⟨sb,o,rfl⟩:=ha (by omega) (by decide)
 by_cases h0:byt L 0=0
 ·have h0':(L.getD 0 default).toNat=0:=h0
  rw [show min (L.getD 0 default).toNat 1=0 by omega] at hk
  rw [show xX L=185 from if_pos h0] at hs hE1 hE2
  rcases Nat.lt_or_ge L.length 185 with h | h
  ·(repeat' ((try refine aw ?_);(conv=>arg 4;whnf);first | refine az ?_ |(refine sN ?_;intro b)|(refine aA hk ?_;intro x hx;refine aH ?_)| fail));(all_goals refine av ?_)
   exact aD 6 (hE1 h).symm rfl (am _) bu
  ·(repeat' ((try refine aw ?_);(conv=>arg 4;whnf);first | refine az ?_ |(refine sN ?_;intro b)|(refine aA hk ?_;intro x hx;refine aH ?_)| fail));(all_goals refine av ?_)
   exact aD 5 (hE2 (by omega)).symm rfl (am _) bu
 ·have h0':¬(L.getD 0 default).toNat=0:=h0
  rw [show min (L.getD 0 default).toNat 1=1 by omega] at hk
  rw [show xX L=137 from if_neg h0] at hs hE1 hE2
  rcases Nat.lt_or_ge L.length 137 with h | h
  ·(repeat' ((try refine aw ?_);(conv=>arg 4;whnf);first | refine az ?_ |(refine sN ?_;intro b)|(refine aA hk ?_;intro x hx;refine aH ?_)| fail));(all_goals refine av ?_)
   exact aD 6 (hE1 h).symm rfl (am _) bu
  ·(repeat' ((try refine aw ?_);(conv=>arg 4;whnf);first | refine az ?_ |(refine sN ?_;intro b)|(refine aA hk ?_;intro x hx;refine aH ?_)| fail));(all_goals refine av ?_)
   exact aD 5 (hE2 (by omega)).symm rfl (am _) bu
theorem Ic (h0:byt L 0=0) (hl:L.length=185) (hk4:¬LT L 4=0):Zp Tryz.prog 287 [.slice a n c] [] [Sl cB a n c L,Gs q] Nat (fun e=>e=nN L) (fun e=> .tuple #[vA (aU Nod.zero),vI e]) (fun _=> []) (fun _=> []):=by
 have hb1:(L.getD 0 default).toNat=0:=h0
 have hk:=po (n:=(L.getD 0 default).toNat) (by omega)
 rw [show min (L.getD 0 default).toNat 1=0 by omega] at hk
 have hE:nN L=LT L 4:=Bc (by omega) (by rw [hl];exact (if_pos h0).symm)
 have hP:∀i,i<4→(eI L 45 i).length=45:=fun i hi=>by simp only [eI,List.length_take,List.length_drop];omega
 have hz0:=nX L (kc _ _) (d5 _ 4)
 have hck:∀i,LT L i=0→i≤4:=fun i h=>by
  rcases Nat.lt_or_ge 4 i with h9 | h9
  ·exact absurd (by unfold Go.Cs.LT at h⊢;rw [if_pos h0] at h⊢;exact aZ.2 fun k hk=>aZ.1 h k (by omega)) hk4
  ·exact h9
 refine ak fun G=> ?_
 refine aS 0 ?_
 intro hn hcc hm ha
 rw [hl] at hn
 subst hn
 obtain ⟨sb,o,rfl⟩:=ha (by omega) (by decide)
 (repeat' ((try refine aw ?_);(conv=>arg 4;whnf);first | refine az ?_ |(refine sN ?_;intro b)|((first | refine aA hk ?_ | refine aA BA ?_);intro x hx;refine aH ?_)| fail));(all_goals refine av ?_)
 refine fL b (aU (c9 L 0)) (congrArg aU hz0) ?_
 refine dh [b] (X:=Nat) (fun i=> [(3,vI 0),(51,vI i)]) (fun i=>LT L i=0) (fun i=> [iB b (aU (c9 L i)) 217]) (fun i=>4-i) 0 (q8 L) rfl cD ?_
 intro i hci
 have hi:=hck i hci
 (conv=>arg 2;simp only [List.cons_append,List.nil_append])
 by_cases h4:i<4
 ·have hT:((L.drop (5+i*45)).take (5+(i+1)*45-(5+i*45)))=eI L 45 i:=by rw [eI];congr 1;omega
  have hT2:=hP i h4
  rw [←hT] at hT2
  have hG:=fun a n c=>FZ (a:=a) (n:=n) (c:=c) hT2
  rcases gK (Rec.of (eI L 45 i)) with hc0 | hc0
  ·rw [hT,hc0,if_pos rfl,←hT] at hG
   (repeat' ((try refine aw ?_);(conv=>arg 4;whnf);first | refine az ?_ |(refine sN ?_;intro b)|(refine aA (hG _ _ _) ?_;intro x hx;refine aH ?_)| fail));(all_goals refine av ?_)
   refine a5 (i+1) rfl (M4 hci h0 hc0) ?_ (by omega)
   rw [hT,tt h4 h0]
   ((repeat' (first | exact am _ | refine aE ?_ ?_ | fail))<;>(try with_reducible rfl))
  ·obtain ⟨Zr,hZr⟩:∃Zr,Zr=Rec.zero:=⟨_,rfl⟩
   rw [hT,hc0,if_neg (by decide),←hT,←hZr] at hG
   clear hZr
   (repeat' ((try refine aw ?_);(conv=>arg 4;whnf);first | refine az ?_ |(refine sN ?_;intro b)|(refine aA (hG _ _ _) ?_;intro x hx;refine aH ?_)| fail));(all_goals refine av ?_)
   exact aD 1 (by rw [hE,yi h4 h0 hc0]) rfl (am _) bu
 ·obtain rfl:i=4:=by omega
  exact absurd hci hk4
theorem Iy (h5:¬5<byt L 0) (h0:¬byt L 0=0) (hl:L.length=137) (hk4:¬LT L 4=0):Zp Tryz.prog 287 [.slice a n c] [] [Sl cB a n c L,Gs q] Nat (fun e=>e=nN L) (fun e=> .tuple #[vA (aU Nod.zero),vI e]) (fun _=> []) (fun _=> []):=by
 have hb0:¬(L.getD 0 default).toNat=0:=h0
 have hb1:¬5<(L.getD 0 default).toNat:=h5
 have hk:=po (n:=(L.getD 0 default).toNat) (by omega)
 rw [show min (L.getD 0 default).toNat 1=1 by omega] at hk
 have hE:nN L=LT L 4:=Bc h5 (by rw [hl];exact (if_neg h0).symm)
 have hP:∀i,i<4→(eI L 33 i).length=33:=fun i hi=>by simp only [eI,List.length_take,List.length_drop];omega
 have hz0:=nX L (kc _ _) (d5 _ 4)
 have hck:∀i,LT L i=0→i≤4:=fun i h=>by
  rcases Nat.lt_or_ge 4 i with h9 | h9
  ·exact absurd (by unfold Go.Cs.LT at h⊢;rw [if_neg h0] at h⊢;exact aZ.2 fun k hk=>aZ.1 h k (by omega)) hk4
  ·exact h9
 refine ak fun G=> ?_
 refine aS 0 ?_
 intro hn hcc hm ha
 rw [hl] at hn
 subst hn
 obtain ⟨sb,o,rfl⟩:=ha (by omega) (by decide)
 (repeat' ((try refine aw ?_);(conv=>arg 4;whnf);first | refine az ?_ |(refine sN ?_;intro b)|((first | refine aA hk ?_ | refine aA BA ?_);intro x hx;refine aH ?_)| fail));(all_goals refine av ?_)
 refine fL b (aU (c9 L 0)) (congrArg aU hz0) ?_
 refine dh [b] (X:=Nat) (fun i=> [(3,vI 0),(51,vI i)]) (fun i=>LT L i=0) (fun i=> [iB b (aU (c9 L i)) 217]) (fun i=>4-i) 0 (q8 L) rfl cD ?_
 intro i hci
 have hi:=hck i hci
 (conv=>arg 2;simp only [List.cons_append,List.nil_append])
 by_cases h4:i<4
 ·have hT:((L.drop (5+i*33)).take (5+(i+1)*33-(5+i*33)))=eI L 33 i:=by rw [eI];congr 1;omega
  have hT2:=hP i h4
  rw [←hT] at hT2
  have hG:=fun a n c=>E9 (a:=a) (n:=n) (c:=c) hT2
  rcases iW (Ent.of (eI L 33 i)) with hc0 | hc0
  ·rw [hT,hc0,if_pos rfl,←hT] at hG
   (repeat' ((try refine aw ?_);(conv=>arg 4;whnf);first | refine az ?_ |(refine sN ?_;intro b)|(refine aA (hG _ _ _) ?_;intro x hx;refine aH ?_)| fail));(all_goals refine av ?_)
   refine a5 (i+1) rfl (L7 hci h0 hc0) ?_ (by omega)
   rw [hT,uk h4 h0]
   ((repeat' (first | exact am _ | refine aE ?_ ?_ | fail))<;>(try with_reducible rfl))
  ·obtain ⟨Zr,hZr⟩:∃Zr,Zr=Ent.zero:=⟨_,rfl⟩
   rw [hT,hc0,if_neg (by decide),←hT,←hZr] at hG
   clear hZr
   (repeat' ((try refine aw ?_);(conv=>arg 4;whnf);first | refine az ?_ |(refine sN ?_;intro b)|(refine aA (hG _ _ _) ?_;intro x hx;refine aH ?_)| fail));(all_goals refine av ?_)
   exact aD 1 (by rw [hE,yG h4 h0 hc0]) rfl (am _) bu
 ·obtain rfl:i=4:=by omega
  exact absurd hci hk4
theorem LR (h:¬nN L=0):Zp Tryz.prog 287 [.slice a n c] [] [Sl cB a n c L,Gs q] Nat (fun e=>e=nN L) (fun e=> .tuple #[vA (aU Nod.zero),vI e]) (fun _=> []) (fun _=> []):=by
 by_cases h0:L.length=0
 ·exact IJ h0
 by_cases h5:5<byt L 0
 ·exact IX h0 h5
 by_cases hs:L.length=xX L
 ·rw [Bc h5 hs] at h
  by_cases hb:byt L 0=0
  ·exact Ic hb (by rw [hs];exact if_pos hb) h
  ·exact Iy h5 hb (by rw [hs];exact if_neg hb) h
 ·exact Iz h0 h5 hs
end
theorem IS {n:Nat} {y:Nod} (h1:1≤n) (h2:n≤4096) (hc:bA y=0) (hl:y.lv≤hgt n) (hj:y.ix<cnt n y.lv) (h:¬fj n y=0):Zp Tryz.prog 225 [vI n,vA (aU y)] [] [] Unit (fun _=>True) (fun _=>vI 17) (fun _=> []) (fun _=> []):=by
 refine ak fun G=> ?_
 have hck:=BV (x:=y)
 rw [hc] at hck
 have hz:¬∀k,prt n y.lv y.ix≤k→k<4→y.rs.l.getD k default=Rec.zero∧y.es.l.getD k default=Ent.zero:=fun g=>h (Go.Cs.Fd hc hl hj g)
 have hp4:prt n y.lv y.ix≤4:=Nat.min_le_left _ _
 have hlv:=y.hlv
 have hix:=y.hix
 (repeat' ((try refine aw ?_);(conv=>arg 4;whnf);first | refine az ?_ |(refine sN ?_;intro b)|(refine au ?_ ?_<;>intro h<;>try contradiction)|((first | refine aA (kM h1 h2) ?_ | refine aA hck ?_ | refine aA (JH h1 h2 hl hj) ?_);intro x hx;refine aH ?_)| exact ax | fail));(all_goals refine av ?_)
 generalize hP:prt n y.lv y.ix=p at hz hp4⊢
 refine dh [] (X:=Nat) (fun i=> [(4,vI 0),(9,vI i)]) (fun i=>p≤i∧i≤4∧∀k,p≤k→k<i→y.rs.l.getD k default=Rec.zero∧y.es.l.getD k default=Ent.zero) (fun i=> []) (fun i=>4-i) p ⟨Nat.le_refl _,hp4,fun k h3 h4=>by omega⟩ rfl (ar _) ?_
 rintro i ⟨hi,hi4,hq⟩
 (conv=>arg 2;simp only [List.cons_append,List.nil_append])
 by_cases h5:i<4
 ·by_cases hr:y.rs.l.getD i default=Rec.zero
  ·by_cases hE:y.es.l.getD i default=Ent.zero
   ·(repeat' ((try refine aw ?_);(conv=>arg 4;whnf);first | refine az ?_ |(refine sN ?_;intro b)|(refine au ?_ ?_<;>intro h<;>try contradiction)| exact ax | fail));(all_goals refine av ?_)
    refine a5 (i+1) rfl ⟨by omega,h5,fun k h3 h4=> ?_⟩ cD (by omega)
    rcases Nat.lt_succ_iff_lt_or_eq.1 h4 with h6 | rfl
    ·exact hq k h3 h6
    ·exact ⟨hr,hE⟩
   ·(repeat' ((try refine aw ?_);(conv=>arg 4;whnf);first | refine az ?_ |(refine sN ?_;intro b)|(refine au ?_ ?_<;>intro h<;>try contradiction)| exact ax | fail));(all_goals refine av ?_)
  ·(repeat' ((try refine aw ?_);(conv=>arg 4;whnf);first | refine az ?_ |(refine sN ?_;intro b)|(refine au ?_ ?_<;>intro h<;>try contradiction)| exact ax | fail));(all_goals refine av ?_)
 ·exact absurd (fun k h3 h4=>hq k h3 (by omega)) hz
end Go.Proofs.YtbobhnldhpjdlaaGreatDoor
namespace Go.Proofs.YtbobhnldhpjdlaaGreatDoor
open Go Go.RowKit Go.Cs Go.Cz
set_option maxRecDepth 100000
set_option maxHeartbeats 4000000
structure AnD (n:Nat) (d:SDsk) (I:DI):Prop where
 n1:1≤n
 n2:n≤4096
 ok:I.Ok
 sd:d.size=bas n (hgt n+1)
 si:I.size=bas n (hgt n+1)
 bl:∀s b,I.pv s=some b→b.length≤65536
section
variable {n l j t:Nat} {d:SDsk} {I:DI} {want:Dig} {q:Value×Value}
theorem AnD.lt (h:AnD n d I) (hl:l≤hgt n) (hj:j<cnt n l) (ht:t≤1):bas n l+2*j+t<I.size:=by
 have:=AQ n (l:=l+1) (m:=hgt n+1) (by omega)
 rw [h.si];simp only [bas] at this⊢;omega
theorem LH (h:AnD n d I) (hl:l≤hgt n) (hj:j<cnt n l) (ht:t≤1) (hpv:I.pv (bas n l+2*j+t)=none):Zp Tryz.prog 228 [vA (cO ⟨n,d⟩),vA (co ⟨l,j⟩),vI t,vA (ay want)] [] [Dm d I,Gs q] Unit (fun _=>True) (fun _=> .tuple #[vA (aU Nod.zero),vA (bW ⟨bas n l+2*j+t,1⟩),vI 9]) (fun _=> []) (fun _=> []):=by
 have h1:=h.n1
 have h2:=h.n2
 have hI:=h.ok
 have h5:=a8 n
 have hs:=h.lt hl hj ht
 have hcn:=cH n l
 refine ak fun G=> ?_
 (repeat' ((try refine aw ?_);(conv=>arg 4;whnf);first | refine az ?_ |(refine sN ?_;intro b)|(refine aA (ue h1 h2 hl hj ht) ?_;intro x hx;refine aH ?_)| refine ae ?_ | exact ax | fail));(all_goals refine av ?_)
 rename_i vb pb wb rx rp eb cb xb
 refine fL b ([⟨some (.func 285, #[], #[vP vb 0,vP eb 0,vP cb 0]),1⟩,⟨some (.func 286, #[], #[vP cb 0,vP xb 0]),2⟩,⟨some (.func 288, #[], #[vP xb 0,vP pb 0,vP vb 0]),3⟩,⟨some (.func 289, #[], #[vP xb 0,vP wb 0]),4⟩].flatMap gI) rfl ?_
 revert b;intro db
 refine gJ 5 (bN ?_)
 (repeat' ((try refine aw ?_);(conv=>arg 4;whnf);first | refine az ?_ |(refine sN ?_;intro b)|((first | refine aA (LM hI hs hpv) ?_ | refine aA (Gm (s:=bas n l+2*j+t) (f:=1) (by decide) (by decide)) ?_);intro x hx;refine aH ?_)| refine ae ?_ | exact ax | fail));(all_goals refine av ?_)
theorem LU {L:List UInt8} (h:AnD n d I) (hl:l≤hgt n) (hj:j<cnt n l) (ht:t≤1) (hpv:I.pv (bas n l+2*j+t)=some L) (hg:¬nN L=0):Zp Tryz.prog 228 [vA (cO ⟨n,d⟩),vA (co ⟨l,j⟩),vI t,vA (ay want)] [] [Dm d I,Gs q] Unit (fun _=>True) (fun _=> .tuple #[vA (aU Nod.zero),vA (bW ⟨bas n l+2*j+t,2⟩),vI 9]) (fun _=> []) (fun _=> []):=by
 have h1:=h.n1
 have h2:=h.n2
 have hI:=h.ok
 have h5:=a8 n
 have hs:=h.lt hl hj ht
 have hcn:=cH n l
 have hbl:=h.bl _ _ hpv
 refine ak fun G=> ?_
 (repeat' ((try refine aw ?_);(conv=>arg 4;whnf);first | refine az ?_ |(refine sN ?_;intro b)|(refine aA (ue h1 h2 hl hj ht) ?_;intro x hx;refine aH ?_)| refine ae ?_ | exact ax | fail));(all_goals refine av ?_)
 rename_i vb pb wb rx rp eb cb xb
 refine fL b ([⟨some (.func 285, #[], #[vP vb 0,vP eb 0,vP cb 0]),1⟩,⟨some (.func 286, #[], #[vP cb 0,vP xb 0]),2⟩,⟨some (.func 288, #[], #[vP xb 0,vP pb 0,vP vb 0]),3⟩,⟨some (.func 289, #[], #[vP xb 0,vP wb 0]),4⟩].flatMap gI) rfl ?_
 revert b;intro db
 refine gJ 5 (bN ?_)
 (repeat' ((try refine aw ?_);(conv=>arg 4;whnf);first | refine az ?_ |(refine sN ?_;intro b)|(refine cw (oW hI hs hpv hbl) ?_;intro x hx;refine bV ?_)| refine ae ?_ | exact ax | fail));(all_goals refine av ?_)
 refine bN ?_
 have hg9:=fun a n c=>LR (a:=a) (n:=n) (c:=c) (q:=q) hg
 (repeat' ((try refine aw ?_);(conv=>arg 4;whnf);first | refine az ?_ |(refine sN ?_;intro b)|((first | refine aA (hg9 _ _ _) ?_ | refine aA (Gm (s:=bas n l+2*j+t) (f:=2) (by decide) (by decide)) ?_);intro x hx;refine aH ?_)| refine ae ?_ | exact ax | fail));(all_goals refine av ?_)
theorem Ji {y:Nod} (h:AnD n d I) (hl:l≤hgt n) (hj:j<cnt n l) (ht:t≤1) (hpv:I.pv (bas n l+2*j+t)=some (aM y)) (hc:bA y=0) (hm:kZ n y l j):Zp Tryz.prog 228 [vA (cO ⟨n,d⟩),vA (co ⟨l,j⟩),vI t,vA (ay want)] [] [Dm d I,Gs q] Unit (fun _=>True) (fun _=> .tuple #[vA (aU Nod.zero),vA (bW ⟨bas n l+2*j+t,3⟩),vI 9]) (fun _=> []) (fun _=> []):=by
 have h1:=h.n1
 have h2:=h.n2
 have hI:=h.ok
 have h5:=a8 n
 have hs:=h.lt hl hj ht
 have hcn:=cH n l
 have hbl:=h.bl _ _ hpv
 have hylv:=y.hlv
 have hyix:=y.hix
 refine ak fun G=> ?_
 (repeat' ((try refine aw ?_);(conv=>arg 4;whnf);first | refine az ?_ |(refine sN ?_;intro b)|(refine aA (ue h1 h2 hl hj ht) ?_;intro x hx;refine aH ?_)| refine ae ?_ | exact ax | fail));(all_goals refine av ?_)
 rename_i vb pb wb rx rp eb cb xb
 refine fL b ([⟨some (.func 285, #[], #[vP vb 0,vP eb 0,vP cb 0]),1⟩,⟨some (.func 286, #[], #[vP cb 0,vP xb 0]),2⟩,⟨some (.func 288, #[], #[vP xb 0,vP pb 0,vP vb 0]),3⟩,⟨some (.func 289, #[], #[vP xb 0,vP wb 0]),4⟩].flatMap gI) rfl ?_
 revert b;intro db
 refine gJ 5 (bN ?_)
 (repeat' ((try refine aw ?_);(conv=>arg 4;whnf);first | refine az ?_ |(refine sN ?_;intro b)|(refine cw (oW hI hs hpv hbl) ?_;intro x hx;refine bV ?_)| refine ae ?_ | exact ax | fail));(all_goals refine av ?_)
 refine bN ?_
 (repeat' ((try refine aw ?_);(conv=>arg 4;whnf);first | refine az ?_ |(refine sN ?_;intro b)|(refine aA (I0 (q:=q) hc) ?_;intro x hx;refine aH ?_)| refine ae ?_ | exact ax | fail));(all_goals refine av ?_)
 refine bN ?_
 by_cases e1:y.lv=l
 ·by_cases e2:y.ix=j
  ·have hf:¬fj n y=0:=fun g=>hm ⟨e1,e2,g⟩
   have hf9:=IS (y:=y) h1 h2 hc (by omega) (by rw [e1,e2];exact hj) hf
   (repeat' ((try refine aw ?_);(conv=>arg 4;whnf);first | refine az ?_ |(refine sN ?_;intro b)|((first | refine aA hf9 ?_ | refine aA (Gm (s:=bas n l+2*j+t) (f:=3) (by decide) (by decide)) ?_);intro x hx;refine aH ?_)| refine ae ?_ | exact ax | fail));(all_goals refine av ?_)
  ·(repeat' ((try refine aw ?_);(conv=>arg 4;whnf);first | refine az ?_ |(refine sN ?_;intro b)|(refine aA (Gm (s:=bas n l+2*j+t) (f:=3) (by decide) (by decide)) ?_;intro x hx;refine aH ?_)| refine ae ?_ | exact ax | fail));(all_goals refine av ?_)
 ·(repeat' ((try refine aw ?_);(conv=>arg 4;whnf);first | refine az ?_ |(refine sN ?_;intro b)|(refine aA (Gm (s:=bas n l+2*j+t) (f:=3) (by decide) (by decide)) ?_;intro x hx;refine aH ?_)| refine ae ?_ | exact ax | fail));(all_goals refine av ?_)
theorem MK {y:Nod} (h:AnD n d I) (hl:l≤hgt n) (hj:j<cnt n l) (ht:t≤1) (hpv:I.pv (bas n l+2*j+t)=some (aM y)) (hc:bA y=0) (hm:¬kZ n y l j) (hw:¬bI (aM y)=want):Zp Tryz.prog 228 [vA (cO ⟨n,d⟩),vA (co ⟨l,j⟩),vI t,vA (ay want)] [] [Dm d I,Gs q] Unit (fun _=>True) (fun _=> .tuple #[vA (aU Nod.zero),vA (bW ⟨bas n l+2*j+t,4⟩),vI 9]) (fun _=> []) (fun _=> []):=by
 have h1:=h.n1
 have h2:=h.n2
 have hI:=h.ok
 have h5:=a8 n
 have hs:=h.lt hl hj ht
 have hcn:=cH n l
 have hbl:=h.bl _ _ hpv
 have hylv:=y.hlv
 have hyix:=y.hix
 obtain ⟨e1,e2,hfit⟩:y.lv=l∧y.ix=j∧fj n y=0:=Classical.not_not.1 hm
 refine ak fun G=> ?_
 (repeat' ((try refine aw ?_);(conv=>arg 4;whnf);first | refine az ?_ |(refine sN ?_;intro b)|(refine au ?_ ?_<;>intro h<;>try contradiction)|(refine aA (ue h1 h2 hl hj ht) ?_;intro x hx;refine aH ?_)| refine ae ?_ | exact ax | fail));(all_goals refine av ?_)
 rename_i vb pb wb rx rp eb cb xb
 refine fL b ([⟨some (.func 285, #[], #[vP vb 0,vP eb 0,vP cb 0]),1⟩,⟨some (.func 286, #[], #[vP cb 0,vP xb 0]),2⟩,⟨some (.func 288, #[], #[vP xb 0,vP pb 0,vP vb 0]),3⟩,⟨some (.func 289, #[], #[vP xb 0,vP wb 0]),4⟩].flatMap gI) rfl ?_
 revert b;intro db
 refine gJ 5 (bN ?_)
 (repeat' ((try refine aw ?_);(conv=>arg 4;whnf);first | refine az ?_ |(refine sN ?_;intro b)|(refine au ?_ ?_<;>intro h<;>try contradiction)|(refine cw (oW hI hs hpv hbl) ?_;intro x hx;refine bV ?_)| refine ae ?_ | exact ax | fail));(all_goals refine av ?_)
 refine bN ?_
 (repeat' ((try refine aw ?_);(conv=>arg 4;whnf);first | refine az ?_ |(refine sN ?_;intro b)|(refine au ?_ ?_<;>intro h<;>try contradiction)|(refine aA (I0 (q:=q) hc) ?_;intro x hx;refine aH ?_)| refine ae ?_ | exact ax | fail));(all_goals refine av ?_)
 refine bN ?_
 (repeat' ((try refine aw ?_);(conv=>arg 4;whnf);first | refine az ?_ |(refine sN ?_;intro b)|(refine au ?_ ?_<;>intro h<;>try contradiction)|(refine aA (kI h1 h2 hfit) ?_;intro x hx;refine aH ?_)| refine ae ?_ | exact ax | fail));(all_goals refine av ?_)
 refine bN ?_
 (repeat' ((try refine aw ?_);(conv=>arg 4;whnf);first | refine az ?_ |(refine sN ?_;intro b)|(refine au ?_ ?_<;>intro h<;>try contradiction)|((first | refine aA (jB (q:=q) hc) ?_ | refine aA (Gm (s:=bas n l+2*j+t) (f:=4) (by decide) (by decide)) ?_);intro x hx;refine aH ?_)| refine ae ?_ | exact ax | fail));(all_goals refine av ?_)
theorem HC {p:Nat×Nat} {y:Nod} (h:AnD n d I) (hl:l≤hgt n) (hj:j<cnt n l) (ht:t≤1) (he:Ca n I.pv l j t want=(p,y)) (hp:p.2≠0):Zp Tryz.prog 228 [vA (cO ⟨n,d⟩),vA (co ⟨l,j⟩),vI t,vA (ay want)] [] [Dm d I,Gs q] Unit (fun _=>True) (fun _=> .tuple #[vA (aU Nod.zero),vA (bW ⟨p.1,p.2⟩),vI 9]) (fun _=> []) (fun _=> []):=by
 unfold Ca at he
 cases hpv:I.pv (bas n l+2*j+t) with
 | none=>rw [hpv] at he;cases he;exact LH h hl hj ht hpv
 | some L=>
  rw [hpv] at he
  dsimp only at he
  by_cases hg:nN L=0
  ·rw [if_neg (fun g=>g hg)] at he
   have hL:=v7 hg
   by_cases hm:kZ n (yw L) l j
   ·rw [if_pos hm] at he;cases he;exact Ji h hl hj ht (by rw [hL];exact hpv) (ji hg) hm
   ·rw [if_neg hm] at he
    by_cases hw:bI (aM (yw L))=want
    ·rw [if_neg (fun g=>g hw)] at he;cases he;exact absurd rfl hp
    ·rw [if_pos hw] at he;cases he;exact MK h hl hj ht (by rw [hL];exact hpv) (ji hg) hm hw
  ·rw [if_pos hg] at he;cases he;exact LU h hl hj ht hpv hg
theorem kE {p:Nat×Nat} {y:Nod} {pv:Pv} (he:Ca n pv l j t want=(p,y)) (hp:p.2=0):p=(0,0)∧pv (bas n l+2*j+t)=some (aM y)∧bA y=0∧¬kZ n y l j∧bI (aM y)=want:=by
 unfold Ca at he
 cases hpv:pv (bas n l+2*j+t) with
 | none=>rw [hpv] at he;cases he;cases hp
 | some L=>
  rw [hpv] at he
  dsimp only at he
  by_cases hg:nN L=0
  ·rw [if_neg (fun g=>g hg)] at he
   have hL:=v7 hg
   by_cases hm:kZ n (yw L) l j
   ·rw [if_pos hm] at he;cases he;cases hp
   ·rw [if_neg hm] at he
    by_cases hw:bI (aM (yw L))=want
    ·rw [if_neg (fun g=>g hw)] at he;cases he;exact ⟨rfl,by rw [hL],ji hg,hm,hw⟩
    ·rw [if_pos hw] at he;cases he;cases hp
  ·rw [if_pos hg] at he;cases he;cases hp
theorem Hh {p:Nat×Nat} {y:Nod} (h:AnD n d I) (hl:l≤hgt n) (hj:j<cnt n l) (ht:t≤1) (he:Ca n I.pv l j t want=(p,y)) (hp:p.2=0):Zp Tryz.prog 228 [vA (cO ⟨n,d⟩),vA (co ⟨l,j⟩),vI t,vA (ay want)] [] [Dm d I,Gs q] Unit (fun _=>True) (fun _=> .tuple #[vA (aU y),vA (bW SPrb.zero),vI 0]) (fun _=> []) (fun _=> []):=by
 obtain ⟨h1,h2,h3,h4,h5⟩:=kE he hp
 obtain ⟨e1,e2,e3⟩:y.lv=l∧y.ix=j∧fj n y=0:=Classical.not_not.1 h4
 exact EX h.n1 h.n2 hl hj ht h.ok h.si h2 h3 e1 e2 e3 h5
theorem Jx {cell:Cel} {p:Nat×Nat} {y:Nod} (h:AnD n d I) (he:Hc n I.pv cell=(p,y)) (hp:p.2≠0):Zp Tryz.prog 146 [vA (cO ⟨n,d⟩),vA (aL cell)] [] [Dm d I,Gs q] Unit (fun _=>True) (fun _=> .tuple #[vA (aU Nod.zero),vA (bW ⟨p.1,p.2⟩),vI 9]) (fun _=> []) (fun _=> []):=by
 have h1:=h.n1
 have h2:=h.n2
 have h5:=a8 n
 have hcp:=dk h1 (hgt n)
 have hn:=HC (q:=q) (t:=cell.ep%2) h (Nat.le_refl _) hcp (by omega) he hp
 refine ak fun G=> ?_
 (repeat' ((try refine aw ?_);(conv=>arg 4;whnf);first | refine az ?_ |(refine sN ?_;intro b)|((first | refine aA (rB h1 h2) ?_ | refine aA nL ?_ | refine aA hn ?_);intro x hx;refine aH ?_)| exact ax | fail));(all_goals refine av ?_)
theorem MA {cell:Cel} {p:Nat×Nat} {y:Nod} (h:AnD n d I) (he:Hc n I.pv cell=(p,y)) (hp:p.2=0):Zp Tryz.prog 146 [vA (cO ⟨n,d⟩),vA (aL cell)] [] [Dm d I,Gs q] Unit (fun _=>True) (fun _=> .tuple #[vA (aU y),vA (bW SPrb.zero),vI 0]) (fun _=> []) (fun _=> []):=by
 have h1:=h.n1
 have h2:=h.n2
 have h5:=a8 n
 have hcp:=dk h1 (hgt n)
 have hn:=Hh (q:=q) (t:=cell.ep%2) h (Nat.le_refl _) hcp (by omega) he hp
 refine ak fun G=> ?_
 (repeat' ((try refine aw ?_);(conv=>arg 4;whnf);first | refine az ?_ |(refine sN ?_;intro b)|((first | refine aA (rB h1 h2) ?_ | refine aA nL ?_ | refine aA hn ?_);intro x hx;refine aH ?_)| exact ax | fail));(all_goals refine av ?_)
theorem LZ {w:Nat} {x y:Nod} {p:Nat×Nat} (h:AnD n d I) (hw4:w<4) (hp0:x.lv≠0) (hpl:x.lv≤hgt n) (hpj:4*x.ix+w<cnt n (x.lv-1)) (hs:¬(x.es.get w).st=0) (hs2:(x.es.get w).st≤2)
  (he:Ca n I.pv (x.lv-1) (4*x.ix+w) ((x.es.get w).st-1) (x.es.get w).dg=(p,y)) (hp:p.2≠0):Zp Tryz.prog 147 [vA (cO ⟨n,d⟩),vA (aU x),vI w] [] [Dm d I,Gs q] Unit (fun _=>True) (fun _=> .tuple #[vA (aU Nod.zero),vA (bW ⟨p.1,p.2⟩),vI 9]) (fun _=> []) (fun _=> []):=by
 have h5:=a8 n
 have hcn:=cH n (x.lv-1)
 have h2:=h.n2
 have hq:=kt (st:=(x.es.get w).st) hs2 hs
 have hv:=HC (q:=q) (d:=d) h (show x.lv-1≤hgt n by omega) hpj (by omega) he hp
 have h32:=x.hix
 refine ak fun G=> ?_
 (repeat' ((try refine aw ?_);(conv=>arg 4;whnf);first | refine az ?_ |(refine sN ?_;intro b)|((first | refine aA hq ?_ | refine aA hv ?_);intro x hx;refine aH ?_)| exact ax | fail));(all_goals refine av ?_)
theorem MU {w:Nat} {x y:Nod} {p:Nat×Nat} (h:AnD n d I) (hw4:w<4) (hp0:x.lv≠0) (hpl:x.lv≤hgt n) (hpj:4*x.ix+w<cnt n (x.lv-1)) (hs:¬(x.es.get w).st=0) (hs2:(x.es.get w).st≤2)
  (he:Ca n I.pv (x.lv-1) (4*x.ix+w) ((x.es.get w).st-1) (x.es.get w).dg=(p,y)) (hp:p.2=0):Zp Tryz.prog 147 [vA (cO ⟨n,d⟩),vA (aU x),vI w] [] [Dm d I,Gs q] Unit (fun _=>True) (fun _=> .tuple #[vA (aU y),vA (bW SPrb.zero),vI 0]) (fun _=> []) (fun _=> []):=by
 have h5:=a8 n
 have hcn:=cH n (x.lv-1)
 have h2:=h.n2
 have hq:=kt (st:=(x.es.get w).st) hs2 hs
 have hv:=Hh (q:=q) (d:=d) h (show x.lv-1≤hgt n by omega) hpj (by omega) he hp
 have h32:=x.hix
 refine ak fun G=> ?_
 (repeat' ((try refine aw ?_);(conv=>arg 4;whnf);first | refine az ?_ |(refine sN ?_;intro b)|((first | refine aA hq ?_ | refine aA hv ?_);intro x hx;refine aH ?_)| exact ax | fail));(all_goals refine av ?_)
end
end Go.Proofs.YtbobhnldhpjdlaaGreatDoor
