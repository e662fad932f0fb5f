/- Lemmas and walks: what each function does, by its own code. No condition beyond those of each statement. -/
import Derived.Test.YtbobhnldhpjdlaaGreatDoorP15
import Derived.Test.YtbobhnldhpjdlaaGreatDoorP17
import Derived.Test.YtbobhnldhpjdlaaGreatDoorP19
import Derived.Test.YtbobhnldhpjdlaaGreatDoorP25
import Derived.Test.YtbobhnldhpjdlaaGreatDoorP26
set_option linter.all false
set_option linter.unusedVariables false
namespace Go.Proofs.YtbobhnldhpjdlaaGreatDoor
open Go Go.RowKit Go.Cs Go.Cz
set_option maxRecDepth 100000
set_option maxHeartbeats 4000000
theorem s6 {l:List UInt8} {p:Nat} (h:p<4) (h0:byt l 0=0):(⟨(dG l p).lv,(dG l p).ix,(dG l p).rs.set p (Rec.of (fB l 45 p)),(dG l p).es,(dG l p).hlv,(dG l p).hix⟩:Nod)=dG l (p+1):=xB h h0
theorem sI {l:List UInt8} {p:Nat} (h:p<4) (h0:¬byt l 0=0):(⟨(dG l p).lv,(dG l p).ix,(dG l p).rs,(dG l p).es.set p (Ent.of (fB l 33 p)),(dG l p).hlv,(dG l p).hix⟩:Nod)=dG l (p+1):=xu h h0
theorem GR {y:Nod} {a:Option Addr} {n c:Nat} {q:Value×Value} (hc:cd y=0) (h0:y.lv=0):Zp Tryz.prog 287 [.slice a n c] [] [Sl cB a n c (aL y),Gs q] Unit (fun _=>True) (fun _=> .tuple #[vA (a7 y),vI 0]) (fun _=> []) (fun _=> []):=by
 have hl:(aL y).length=185:=by rw [eK,if_pos h0]
 have hb0:byt (aL y) 0=0:=by rw [eQ];exact h0
 have hb1:((aL y).getD 0 default).toNat=0:=hb0
 have hk:=pZ (n:=((aL y).getD 0 default).toNat) (by omega)
 rw [show min ((aL y).getD 0 default).toNat 1=0 by omega] at hk
 have hfin:dG (aL y) 4=y:=by have:=j9 hc;rwa [pC (gN hc),if_pos rfl] at this
 have hR:∀i,i<4→cD (Rec.of (fB (aL y) 45 i))=0:=fun i hi=>by rw [tr h0 hi,Rec.of_B];exact bh.1 (gY hc h0) i hi
 have hP:∀i,i<4→(fB (aL y) 45 i).length=45:=fun i hi=>by simp only [fB,List.length_take,List.length_drop];omega
 have hz0:=nN (aL y) (ka _ _) (eI _ 4)
 generalize aL y=L at*
 refine an fun G=> ?_
 refine bc 0 ?_
 intro hn hcc hm ha
 rw [hl] at hn
 subst hn
 obtain ⟨sb,o,rfl⟩:=ha (by omega) (by decide)
 (repeat' ((try refine au ?_);(conv=>arg 4;whnf);first | refine ax ?_ |(refine sN ?_;intro b)|(refine sC ?_ ?_<;>intro h)|(refine ar ?_ ?_<;>intro h<;>try contradiction)|(refine aa ?_;intro g c')|((first | refine ay hk ?_ | refine ay Bm ?_);intro x hx;refine aN ?_)| refine ae ?_ | refine ai ?_ | exact aw |(refine ak rfl ?_;intro D lL)| refine ah ?_ ?_ | refine aj ?_ ?_ ?_ | fail));(all_goals refine av ?_)
 refine eV b (a7 (dG L 0)) (congrArg a7 hz0) ?_
 refine eA [b] (X:=Nat) (fun i=> [(3,vI 0),(51,vI i)]) (fun i=>i≤4) (fun i=> [iB b (a7 (dG L i)) 217]) (fun i=>4-i) 0 (Nat.zero_le _) rfl eG ?_
 intro i hi
 (conv=>arg 2;simp only [List.cons_append,List.nil_append])
 by_cases h4:i<4
 ·have hT:((L.drop (5+i*45)).take (5+(i+1)*45-(5+i*45)))=fB L 45 i:=by rw [fB];congr 1;omega
  have hT2:=hP i h4
  rw [←hT] at hT2
  have hG:=fun a n c=>GK (a:=a) (n:=n) (c:=c) hT2
  rw [hT,hR i h4,if_pos rfl,←hT] at hG
  (repeat' ((try refine au ?_);(conv=>arg 4;whnf);first | refine ax ?_ |(refine sN ?_;intro b)|(refine sC ?_ ?_<;>intro h)|(refine ar ?_ ?_<;>intro h<;>try contradiction)|(refine aa ?_;intro g c')|(refine ay (hG _ _ _) ?_;intro x hx;refine aN ?_)| refine ae ?_ | refine ai ?_ | exact aw |(refine ak rfl ?_;intro D lL)| refine ah ?_ ?_ | refine aj ?_ ?_ ?_ | fail));(all_goals refine av ?_)
  refine bj (i+1) rfl h4 ?_ (by omega)
  rw [hT,s6 h4 hb0]
  ((repeat' (first | with_reducible exact am _ | exact af _ | refine aB ?_ ?_ | refine aD inferInstance ?_ | refine aI ?_))<;>(try with_reducible rfl))
 ·obtain rfl:i=4:=by omega
  rw [hfin]
  (repeat' ((try refine au ?_);(conv=>arg 4;whnf);first | refine ax ?_ |(refine sN ?_;intro b)|(refine sC ?_ ?_<;>intro h)|(refine ar ?_ ?_<;>intro h<;>try contradiction)|(refine aa ?_;intro g c')| refine ae ?_ | refine ai ?_ | exact aw |(refine ak rfl ?_;intro D lL)| refine ah ?_ ?_ | refine aj ?_ ?_ ?_ | fail));(all_goals refine av ?_)
theorem GE {y:Nod} {a:Option Addr} {n c:Nat} {q:Value×Value} (hc:cd y=0) (h0:¬y.lv=0):Zp Tryz.prog 287 [.slice a n c] [] [Sl cB a n c (aL y),Gs q] Unit (fun _=>True) (fun _=> .tuple #[vA (a7 y),vI 0]) (fun _=> []) (fun _=> []):=by
 have hl:(aL y).length=137:=by rw [eK,if_neg h0]
 have hlv:=gP hc
 have hb9:byt (aL y) 0=y.lv:=eQ y
 have hb0:¬byt (aL y) 0=0:=by rw [eQ];exact h0
 have hb1:((aL y).getD 0 default).toNat=y.lv:=hb9
 have hk:=pZ (n:=((aL y).getD 0 default).toNat) (by omega)
 rw [show min ((aL y).getD 0 default).toNat 1=1 by omega] at hk
 have hfin:dG (aL y) 4=y:=by have:=j9 hc;rwa [pC (gN hc),if_pos rfl] at this
 have hR:∀i,i<4→eF (Ent.of (fB (aL y) 33 i))=0:=fun i hi=>by rw [sF h0 hi,Ent.of_B];exact bh.1 (jQ hc h0) i hi
 have hP:∀i,i<4→(fB (aL y) 33 i).length=33:=fun i hi=>by simp only [fB,List.length_take,List.length_drop];omega
 have hz0:=nN (aL y) (ka _ _) (eI _ 4)
 generalize aL y=L at*
 refine an fun G=> ?_
 refine bc 0 ?_
 intro hn hcc hm ha
 rw [hl] at hn
 subst hn
 obtain ⟨sb,o,rfl⟩:=ha (by omega) (by decide)
 (repeat' ((try refine au ?_);(conv=>arg 4;whnf);first | refine ax ?_ |(refine sN ?_;intro b)|(refine sC ?_ ?_<;>intro h)|(refine ar ?_ ?_<;>intro h<;>try contradiction)|(refine aa ?_;intro g c')|((first | refine ay hk ?_ | refine ay Bm ?_);intro x hx;refine aN ?_)| refine ae ?_ | refine ai ?_ | exact aw |(refine ak rfl ?_;intro D lL)| refine ah ?_ ?_ | refine aj ?_ ?_ ?_ | fail));(all_goals refine av ?_)
 refine eV b (a7 (dG L 0)) (congrArg a7 hz0) ?_
 refine eA [b] (X:=Nat) (fun i=> [(3,vI 0),(51,vI i)]) (fun i=>i≤4) (fun i=> [iB b (a7 (dG L i)) 217]) (fun i=>4-i) 0 (Nat.zero_le _) rfl eG ?_
 intro i hi
 (conv=>arg 2;simp only [List.cons_append,List.nil_append])
 by_cases h4:i<4
 ·have hT:((L.drop (5+i*33)).take (5+(i+1)*33-(5+i*33)))=fB L 33 i:=by rw [fB];congr 1;omega
  have hT2:=hP i h4
  rw [←hT] at hT2
  have hG:=fun a n c=>GQ (a:=a) (n:=n) (c:=c) hT2
  rw [hT,hR i h4,if_pos rfl,←hT] at hG
  (repeat' ((try refine au ?_);(conv=>arg 4;whnf);first | refine ax ?_ |(refine sN ?_;intro b)|(refine sC ?_ ?_<;>intro h)|(refine ar ?_ ?_<;>intro h<;>try contradiction)|(refine aa ?_;intro g c')|(refine ay (hG _ _ _) ?_;intro x hx;refine aN ?_)| refine ae ?_ | refine ai ?_ | exact aw |(refine ak rfl ?_;intro D lL)| refine ah ?_ ?_ | refine aj ?_ ?_ ?_ | fail));(all_goals refine av ?_)
  refine bj (i+1) rfl h4 ?_ (by omega)
  rw [hT,sI h4 hb0]
  ((repeat' (first | with_reducible exact am _ | exact af _ | refine aB ?_ ?_ | refine aD inferInstance ?_ | refine aI ?_))<;>(try with_reducible rfl))
 ·obtain rfl:i=4:=by omega
  rw [hfin]
  (repeat' ((try refine au ?_);(conv=>arg 4;whnf);first | refine ax ?_ |(refine sN ?_;intro b)|(refine sC ?_ ?_<;>intro h)|(refine ar ?_ ?_<;>intro h<;>try contradiction)|(refine aa ?_;intro g c')| refine ae ?_ | refine ai ?_ | exact aw |(refine ak rfl ?_;intro D lL)| refine ah ?_ ?_ | refine aj ?_ ?_ ?_ | fail));(all_goals refine av ?_)
theorem Hn {y:Nod} {a:Option Addr} {n c:Nat} {q:Value×Value} (hc:cd y=0):Zp Tryz.prog 287 [.slice a n c] [] [Sl cB a n c (aL y),Gs q] Unit (fun _=>True) (fun _=> .tuple #[vA (a7 y),vI 0]) (fun _=> []) (fun _=> []):=by
 by_cases h0:y.lv=0
 ·exact GR hc h0
 ·exact GE hc h0
end Go.Proofs.YtbobhnldhpjdlaaGreatDoor
namespace Go.Proofs.YtbobhnldhpjdlaaGreatDoor
open Go Go.RowKit Go.Cs Go.Cz
set_option maxRecDepth 100000
set_option maxHeartbeats 4000000
theorem oB {n:Nat} {d:SDsk} (h1:1≤n) (h2:n≤4096) (hd:d.size=bas n (hgt n+1)):Zp Tryz.prog 144 [vI n,vA (aJ d)] [] [] Unit (fun _=>True) (fun _=> .tuple #[vA (dA ⟨n,d⟩),vI 0]) (fun _=> []) (fun _=> []):=by
 refine an fun G=> ?_
 (repeat' ((try refine au ?_);(conv=>arg 4;whnf);first | refine ax ?_ |(refine sN ?_;intro b)|(refine sC ?_ ?_<;>intro h)|(refine ar ?_ ?_<;>intro h<;>try contradiction)|(refine aa ?_;intro g c')|((first | refine ay (AT h1 h2) ?_ | refine ay I3 ?_);intro x hx;refine aN ?_)| refine ae ?_ | refine ai ?_ | exact aw |(refine ak rfl ?_;intro D lL)| refine ah ?_ ?_ | refine aj ?_ ?_ ?_ | fail));(all_goals refine av ?_)
theorem yI {s:Nat}:Zp Tryz.prog 158 [vI s, .int .u8 0] [] [] Unit (fun _=>True) (fun _=> .tuple #[vA (cJ SPrb.zero),vI 0]) (fun _=> []) (fun _=> []):=by
 refine an fun G=> ?_
 (repeat' ((try refine au ?_);(conv=>arg 4;whnf);first | refine ax ?_ |(refine sN ?_;intro b)|(refine sC ?_ ?_<;>intro h)|(refine ar ?_ ?_<;>intro h<;>try contradiction)|(refine aa ?_;intro g c')| refine ae ?_ | refine ai ?_ | exact aw |(refine ak rfl ?_;intro D lL)| refine ah ?_ ?_ | refine aj ?_ ?_ ?_ | fail));(all_goals refine av ?_)
theorem E7 {s f:Nat} (hf:f≠0) (h8:f<256):Zp Tryz.prog 158 [vI s, .int .u8 ((f:Nat):Int)] [] [] Unit (fun _=>True) (fun _=> .tuple #[vA (cJ ⟨s,f⟩),vI 9]) (fun _=> []) (fun _=> []):=by
 refine an fun G=> ?_
 (repeat' ((try refine au ?_);(conv=>arg 4;whnf);first | refine ax ?_ |(refine sN ?_;intro b)|(refine sC ?_ ?_<;>intro h)|(refine ar ?_ ?_<;>intro h<;>try contradiction)|(refine aa ?_;intro g c')| refine ae ?_ | refine ai ?_ | exact aw |(refine ak rfl ?_;intro D lL)| refine ah ?_ ?_ | refine aj ?_ ?_ ?_ | fail));(all_goals refine av ?_)
theorem D9 {n l j t:Nat} {d:SDsk} {I:DI} {y:Nod} {want:Dig} {q:Value×Value} (h1:1≤n) (h2:n≤4096) (hl:l≤hgt n) (hj:j<cnt n l) (ht:t≤1) (hI:I.Ok) (hsz:I.size=bas n (hgt n+1)) (hpv:I.pv (bas n l+2*j+t)=some (aL y))
  (hc:cd y=0) (hlv:y.lv=l) (hix:y.ix=j) (hfit:gg n y=0) (hw:cq (aL y)=want):Zp Tryz.prog 228 [vA (dA ⟨n,d⟩),vA (de ⟨l,j⟩),vI t,vA (aE want)] [] [Dm d I,Gs q] Unit (fun _=>True) (fun _=> .tuple #[vA (a7 y),vA (cJ SPrb.zero),vI 0]) (fun _=> []) (fun _=> []):=by
 have h5:=bu n
 have hs:bas n l+2*j+t<I.size:=by
  have:=BI n (l:=l+1) (m:=hgt n+1) (by omega)
  rw [hsz];simp only [bas] at this⊢;omega
 have hbl:(aL y).length≤65536:=by rw [eK];split<;>decide
 have hcn:=dx n l
 refine an fun G=> ?_
 (repeat' ((try refine au ?_);(conv=>arg 4;whnf);first | refine ax ?_ |(refine sN ?_;intro b)|(refine sC ?_ ?_<;>intro h)|(refine ar ?_ ?_<;>intro h<;>try contradiction)|(refine aa ?_;intro g c')|(refine ay (tu h1 h2 hl hj ht) ?_;intro x hx;refine aN ?_)| refine ae ?_ | refine ai ?_ | exact aw |(refine ak rfl ?_;intro D lL)| refine ah ?_ ?_ | refine aj ?_ ?_ ?_ | fail));(all_goals refine av ?_)
 rename_i vb pb wb rx rp eb cb xb
 refine eV b ([⟨some (.func 285, #[], #[vP vb 0,vP eb 0,vP cb 0]),1⟩,⟨some (.func 286, #[], #[vP cb 0,vP xb 0]),2⟩,⟨some (.func 288, #[], #[vP xb 0,vP pb 0,vP vb 0]),3⟩,⟨some (.func 289, #[], #[vP xb 0,vP wb 0]),4⟩].flatMap gX) rfl ?_
 revert b;intro db
 refine ji 5 (cM ?_)
 (repeat' ((try refine au ?_);(conv=>arg 4;whnf);first | refine ax ?_ |(refine sN ?_;intro b)|(refine sC ?_ ?_<;>intro h)|(refine ar ?_ ?_<;>intro h<;>try contradiction)|(refine aa ?_;intro g c')|(refine dD (kB hI hs hpv hbl) ?_;intro x hx;refine c9 ?_)| refine ae ?_ | refine ai ?_ | exact aw |(refine ak rfl ?_;intro D lL)| refine ah ?_ ?_ | refine aj ?_ ?_ ?_ | fail));(all_goals refine av ?_)
 refine cM ?_
 (repeat' ((try refine au ?_);(conv=>arg 4;whnf);first | refine ax ?_ |(refine sN ?_;intro b)|(refine sC ?_ ?_<;>intro h)|(refine ar ?_ ?_<;>intro h<;>try contradiction)|(refine aa ?_;intro g c')|(refine ay (Hn (q:=q) hc) ?_;intro x hx;refine aN ?_)| refine ae ?_ | refine ai ?_ | exact aw |(refine ak rfl ?_;intro D lL)| refine ah ?_ ?_ | refine aj ?_ ?_ ?_ | fail));(all_goals refine av ?_)
 refine cM ?_
 (repeat' ((try refine au ?_);(conv=>arg 4;whnf);first | refine ax ?_ |(refine sN ?_;intro b)|(refine sC ?_ ?_<;>intro h)|(refine ar ?_ ?_<;>intro h<;>try contradiction)|(refine aa ?_;intro g c')|(refine ay (k4 h1 h2 hfit) ?_;intro x hx;refine aN ?_)| refine ae ?_ | refine ai ?_ | exact aw |(refine ak rfl ?_;intro D lL)| refine ah ?_ ?_ | refine aj ?_ ?_ ?_ | fail));(all_goals refine av ?_)
 refine cM ?_
 (repeat' ((try refine au ?_);(conv=>arg 4;whnf);first | refine ax ?_ |(refine sN ?_;intro b)|(refine sC ?_ ?_<;>intro h)|(refine ar ?_ ?_<;>intro h<;>try contradiction)|(refine aa ?_;intro g c')|(refine ay (jI (q:=q) hc) ?_;intro x hx;refine aN ?_)| refine ae ?_ | refine ai ?_ | exact aw |(refine ak rfl ?_;intro D lL)| refine ah ?_ ?_ | refine aj ?_ ?_ ?_ | fail));(all_goals refine av ?_)
 refine cM ?_
 (repeat' ((try refine au ?_);(conv=>arg 4;whnf);first | refine ax ?_ |(refine sN ?_;intro b)|(refine sC ?_ ?_<;>intro h)|(refine ar ?_ ?_<;>intro h<;>try contradiction)|(refine aa ?_;intro g c')|(refine ay yI ?_;intro x hx;refine aN ?_)| refine ae ?_ | refine ai ?_ | exact aw |(refine ak rfl ?_;intro D lL)| refine ah ?_ ?_ | refine aj ?_ ?_ ?_ | fail));(all_goals refine av ?_)
end Go.Proofs.YtbobhnldhpjdlaaGreatDoor
namespace Go.Proofs.YtbobhnldhpjdlaaGreatDoor
open Go Go.RowKit Go.Cs Go.Cz
set_option maxRecDepth 100000
set_option maxHeartbeats 4000000
theorem DK {n:Nat} {d:SDsk} {I:DI} {cell:Cel} {y:Nod} {q:Value×Value} (h1:1≤n) (h2:n≤4096) (hI:I.Ok) (hsz:I.size=bas n (hgt n+1)) (hpv:I.pv (bas n (hgt n)+2*0+cell.ep%2)=some (aL y))
  (hc:cd y=0) (hlv:y.lv=hgt n) (hix:y.ix=0) (hfit:gg n y=0) (hw:cq (aL y)=cell.root):Zp Tryz.prog 146 [vA (dA ⟨n,d⟩),vA (aM cell)] [] [Dm d I,Gs q] Unit (fun _=>True) (fun _=> .tuple #[vA (a7 y),vA (cJ SPrb.zero),vI 0]) (fun _=> []) (fun _=> []):=by
 have h5:=bu n
 have hcp:=dS h1 (hgt n)
 refine an fun G=> ?_
 (repeat' ((try refine au ?_);(conv=>arg 4;whnf);first | refine ax ?_ |(refine sN ?_;intro b)|(refine sC ?_ ?_<;>intro h)|(refine ar ?_ ?_<;>intro h<;>try contradiction)|(refine aa ?_;intro g c')|((first | refine ay (rD h1 h2) ?_ | refine ay nO ?_ | refine ay (D9 (q:=q) (t:=cell.ep%2) h1 h2 (Nat.le_refl _) hcp (by omega) hI hsz hpv hc hlv hix hfit hw) ?_);intro x hx;refine aN ?_)| refine ae ?_ | refine ai ?_ | exact aw |(refine ak rfl ?_;intro D lL)| refine ah ?_ ?_ | refine aj ?_ ?_ ?_ | fail));(all_goals refine av ?_)
theorem DJ {n w:Nat} {d:SDsk} {I:DI} {p y:Nod} {q:Value×Value} (h1:1≤n) (h2:n≤4096) (hI:I.Ok) (hsz:I.size=bas n (hgt n+1)) (hw4:w<4) (hp0:p.lv≠0) (hpl:p.lv≤hgt n) (hpj:4*p.ix+w<cnt n (p.lv-1)) (hs:¬(p.es.get w).st=0) (hs2:(p.es.get w).st≤2)
  (hpv:I.pv (bas n (p.lv-1)+2*(4*p.ix+w)+((p.es.get w).st-1))=some (aL y))
  (hc:cd y=0) (hlv:y.lv=p.lv-1) (hix:y.ix=4*p.ix+w) (hfit:gg n y=0) (hw:cq (aL y)=(p.es.get w).dg):Zp Tryz.prog 147 [vA (dA ⟨n,d⟩),vA (a7 p),vI w] [] [Dm d I,Gs q] Unit (fun _=>True) (fun _=> .tuple #[vA (a7 y),vA (cJ SPrb.zero),vI 0]) (fun _=> []) (fun _=> []):=by
 have h5:=bu n
 have hcn:=dx n (p.lv-1)
 have hq:=j6 (st:=(p.es.get w).st) hs2 hs
 have hv:=D9 (q:=q) (d:=d) (t:=(p.es.get w).st-1) h1 h2 (show p.lv-1≤hgt n by omega) hpj (by omega) hI hsz hpv hc hlv hix hfit hw
 have h32:=p.hix
 refine an fun G=> ?_
 (repeat' ((try refine au ?_);(conv=>arg 4;whnf);first | refine ax ?_ |(refine sN ?_;intro b)|(refine sC ?_ ?_<;>intro h)|(refine ar ?_ ?_<;>intro h<;>try contradiction)|(refine aa ?_;intro g c')|((first | refine ay hq ?_ | refine ay hv ?_);intro x hx;refine aN ?_)| refine ae ?_ | refine ai ?_ | exact aw |(refine ak rfl ?_;intro D lL)| refine ah ?_ ?_ | refine aj ?_ ?_ ?_ | fail));(all_goals refine av ?_)
theorem Jl {n:Nat} {d:SDsk} {I:DI} {cell:Cel} {y:Nod} {q:Value×Value} (h1:1≤n) (h2:n≤4096) (hI:I.Ok) (hd:d.size=bas n (hgt n+1)) (hsz:I.size=bas n (hgt n+1)) (hpv:I.pv (bas n (hgt n)+2*0+cell.ep%2)=some (aL y))
  (hc:cd y=0) (hlv:y.lv=hgt n) (hix:y.ix=0) (hfit:gg n y=0) (hw:cq (aL y)=cell.root):Zp Tryz.prog 135 [vI n,vA (aJ d),vA (aM cell)] [] [Dm d I,Gs q] Unit (fun _=>True) (fun _=> .tuple #[vA (a7 y),vA (cJ SPrb.zero),vI 0]) (fun _=> []) (fun _=> []):=by
 have hr:=DK (q:=q) (d:=d) h1 h2 hI hsz hpv hc hlv hix hfit hw
 refine an fun G=> ?_
 (repeat' ((try refine au ?_);(conv=>arg 4;whnf);first | refine ax ?_ |(refine sN ?_;intro b)|(refine sC ?_ ?_<;>intro h)|(refine ar ?_ ?_<;>intro h<;>try contradiction)|(refine aa ?_;intro g c')|((first | refine ay (oB h1 h2 hd) ?_ | refine ay hr ?_);intro x hx;refine aN ?_)| refine ae ?_ | refine ai ?_ | exact aw |(refine ak rfl ?_;intro D lL)| refine ah ?_ ?_ | refine aj ?_ ?_ ?_ | fail));(all_goals refine av ?_)
theorem H8 {n w:Nat} {d:SDsk} {I:DI} {p y:Nod} {q:Value×Value} (h1:1≤n) (h2:n≤4096) (hI:I.Ok) (hd:d.size=bas n (hgt n+1)) (hsz:I.size=bas n (hgt n+1)) (hw4:w<4) (hpf:gg n p=0) (hp0:p.lv≠0) (hpl:p.lv≤hgt n) (hpj:4*p.ix+w<cnt n (p.lv-1)) (hs:¬(p.es.get w).st=0) (hs2:(p.es.get w).st≤2)
  (hpv:I.pv (bas n (p.lv-1)+2*(4*p.ix+w)+((p.es.get w).st-1))=some (aL y))
  (hc:cd y=0) (hlv:y.lv=p.lv-1) (hix:y.ix=4*p.ix+w) (hfit:gg n y=0) (hw:cq (aL y)=(p.es.get w).dg):Zp Tryz.prog 141 [vI n,vA (aJ d),vA (a7 p),vI w] [] [Dm d I,Gs q] Unit (fun _=>True) (fun _=> .tuple #[vA (a7 y),vA (cJ SPrb.zero),vI 0]) (fun _=> []) (fun _=> []):=by
 have hv:=DJ (q:=q) (d:=d) h1 h2 hI hsz hw4 hp0 hpl hpj hs hs2 hpv hc hlv hix hfit hw
 have hs':¬(p.es.l.getD w default).st=0:=hs
 refine an fun G=> ?_
 (repeat' ((try refine au ?_);(conv=>arg 4;whnf);first | refine ax ?_ |(refine sN ?_;intro b)|(refine sC ?_ ?_<;>intro h)|(refine ar ?_ ?_<;>intro h<;>try contradiction)|(refine aa ?_;intro g c')|((first | refine ay (oB h1 h2 hd) ?_ | refine ay (k4 h1 h2 hpf) ?_ | refine ay hv ?_);intro x hx;refine aN ?_)| refine ae ?_ | refine ai ?_ | exact aw |(refine ak rfl ?_;intro D lL)| refine ah ?_ ?_ | refine aj ?_ ?_ ?_ | fail));(all_goals refine av ?_)
end Go.Proofs.YtbobhnldhpjdlaaGreatDoor
