/- Lemmas and walks: what each function does, by its own code. No condition beyond those of each statement. -/
import Derived.Test.YtbobhnldhpjdlaaGreatDoorP29
import Derived.Test.YtbobhnldhpjdlaaGreatDoorP30
set_option linter.all false
set_option linter.unusedVariables false
namespace Go.Proofs.YtbobhnldhpjdlaaGreatDoor
open Go Go.RowKit Go.Cs Go.Cz
set_option maxRecDepth 100000
set_option maxHeartbeats 4000000
section
variable {n tb to m c:Nat} {ts:List Un} {q:Value×Value}
theorem t6 (h:UOk n ts) {k:Nat} (hb:k<n):Zp Tryz.prog 86 [vA (a9 ⟨n,(some ⟨tb,to,none⟩,m,c)⟩),vI k] [] [Sl br (some ⟨tb,to,none⟩) m c ts,Gs q] Unit (fun _=>True) (fun x=> .tuple #[vA (cL ((ts.getD (k/4) default).nd.rs.l.getD (k%4) default)),vI 0]) (fun _=> []) (fun x=> []):=by
 have hb4:k/4<ts.length:=by
  rw [h.ln];have:=e7 (n:=n) (l:=0) (j:=k/4) (Nat.zero_le _) (by have:=gI n;unfold kc at*;omega);rw [show num n 0=0 from rfl] at this;omega
 have hw:k%4<4:=by omega
 have h2:=h.h2
 refine an fun G=> ?_
 refine bc 0 ?_
 intro hn hc hm ha
 subst hn
 (repeat' ((try refine au ?_);(conv=>arg 4;whnf);first | refine ax ?_ |(refine sN ?_;intro b)|(refine sC ?_ ?_<;>intro h)|(refine ar ?_ ?_<;>intro h<;>try contradiction)|(refine aa ?_;intro g c')|(refine ay (ue h hb) ?_;intro x hx;refine aN ?_)| refine ae ?_ | refine ai ?_ | exact aw |(refine ak rfl ?_;intro D lL)| refine ah ?_ ?_ | refine aj ?_ ?_ ?_ | fail));(all_goals refine av ?_)
theorem GU (h:UOk n ts):Zp Tryz.prog 211 [vA (a9 ⟨n,(some ⟨tb,to,none⟩,m,c)⟩)] [] [Sl br (some ⟨tb,to,none⟩) m c ts,Gs q] Unit (fun _=>True) (fun x=> .tuple #[vA (aE (cq (aL (ts.getD (ts.length-1) default).nd))),vI 0]) (fun _=> []) (fun x=> []):=by
 have h1:=h.h1
 have h2:=h.h2
 have htl:=cV h2
 have hln:=h.ln
 have hch:=fa h1 h2
 have hnd:=(dm (gi (h.nd (hgt n) 0 (Nat.le_refl _) (by omega))).1.2.2).1
 have hlast:num n (hgt n)+0=ts.length-1:=by rw [hln,tot,show num n (hgt n+1)=num n (hgt n)+cnt n (hgt n) from rfl,hch];omega
 have hpos:0<ts.length:=by have:=e7 (n:=n) (l:=hgt n) (j:=0) (Nat.le_refl _) (by omega);omega
 unfold eX at hnd
 rw [hlast] at hnd
 change cd (ts.getD (ts.length-1) default).nd=0 at hnd
 refine an fun G=> ?_
 refine bc 0 ?_
 intro hn hc hm ha
 subst hn
 (repeat' ((try refine au ?_);(conv=>arg 4;whnf);first | refine ax ?_ |(refine sN ?_;intro b)|(refine sC ?_ ?_<;>intro h)|(refine ar ?_ ?_<;>intro h<;>try contradiction)|(refine aa ?_;intro g c')|((first | refine ay (tW h) ?_ | refine ay (jI (q:=q) hnd) ?_);intro x hx;refine aN ?_)| refine ae ?_ | refine ai ?_ | exact aw |(refine ak rfl ?_;intro D lL)| refine ah ?_ ?_ | refine aj ?_ ?_ ?_ | fail));(all_goals refine av ?_)
theorem F5 (h:UOk n ts):Zp Tryz.prog 125 [vA (a9 ⟨n,(some ⟨tb,to,none⟩,m,c)⟩)] [] [Sl br (some ⟨tb,to,none⟩) m c ts,Gs q] Nat (fun _=>True) (fun x=> .tuple #[vA (a9 ⟨n,(some ⟨x,0,none⟩,ts.length,ts.length)⟩),vI 0]) (fun x=> [iB x ((yQ ts.length ts).flatMap br) 264]) (fun x=> []):=by
 have h2:=h.h2
 have htl:=cV h2
 have hln:=h.ln
 refine an fun G=> ?_
 refine bc 0 ?_
 intro hn hc hm ha
 subst hn
 (repeat' ((try refine au ?_);(conv=>arg 4;whnf);first | refine ax ?_ |(refine sN ?_;intro b)|(refine sC ?_ ?_<;>intro h)|(refine ar ?_ ?_<;>intro h<;>try contradiction)|(refine aa ?_;intro g c')|((first | refine ay (tW h) ?_ | refine ay (y9 (n:=n) (tb:=tb) (to:=to) (m:=ts.length) (c:=c) (ts:=ts) (by omega)) ?_);intro x hx;refine aN ?_)| refine ae ?_ | refine ai ?_ | exact aw |(refine ak rfl ?_;intro D lL)| refine ah ?_ ?_ | refine aj ?_ ?_ ?_ | fail));(all_goals refine av ?_)
 obtain ⟨rb,rfl⟩:∃r,r=x:=⟨x,rfl⟩
 have hu0:fe ts.length (mN ts.length ts) (fun i=>ts.getD i Un.zero) 0=ts:=yi Un.zero rfl
 have e0:ts.flatMap br=(fe ts.length (mN ts.length ts) (fun i=>ts.getD i Un.zero) 0).flatMap br:=by rw [hu0]
 refine eA [rb] (X:=Nat) (fun k=> [(20,vI k)]) (fun k=>k≤ts.length) (fun k=> [iB rb ((fe ts.length (mN ts.length ts) (fun i=>ts.getD i Un.zero) k).flatMap br) 264]) (fun k=>ts.length-k) 0 (Nat.zero_le _) rfl (by rw [hu0];((repeat' (first | with_reducible exact am _ | exact af _ | refine aB ?_ ?_ | refine aD inferInstance ?_ | refine aI ?_))<;>(try with_reducible rfl))) ?_
 intro k hk
 (conv=>arg 2;simp only [List.cons_append,List.nil_append])
 by_cases hlt:k<ts.length
 ·have hy:(fe ts.length (mN ts.length ts) (fun i=>ts.getD i Un.zero) k).getD k default=ts.getD k default:=BS _ hlt (Nat.le_refl _)
  have hUl:(fe ts.length (mN ts.length ts) (fun i=>ts.getD i Un.zero) k).length=ts.length:=rL
  have hset:=q9 (f:=mN ts.length ts) (g:=fun i=>ts.getD i Un.zero) hlt
  have hs:(ts.getD k default).sl=0∨(ts.getD k default).sl=1:=h.sl k hlt
  have hpe:mN ts.length ts k=⟨(ts.getD k default).nd,if k=ts.length-1 then 1-(ts.getD k default).sl else kV (ts.getD k default),false,List.replicate 4 false,rfl⟩:=rfl
  rw [hpe,←hy] at hset
  rw [←hy] at hs
  generalize hU:fe ts.length (mN ts.length ts) (fun i=>ts.getD i Un.zero) k=U at*
  by_cases hlast:k=ts.length-1
  ·rw [if_pos hlast] at hset
   rcases hs with hs0 | hs0
   ·have hS:Sb (br (U.getD k default)) 274 [.int .i64 ((0:Nat):Int)] True:=⟨fun _=>by have:=(inferInstance:Sb (br (U.getD k default)) 274 [.int .i64 (U.getD k default).sl] True).sb True.intro;rwa [hs0] at this⟩
    (repeat' ((try refine au ?_);(conv=>arg 4;whnf);first | refine ax ?_ |(refine sN ?_;intro b)|(refine sC ?_ ?_<;>intro h)|(refine ar ?_ ?_<;>intro h<;>try contradiction)|(refine aa ?_;intro g c')|(refine ay (pD (.inl hs0)) ?_;intro x hx;refine aN ?_)| refine ae ?_ | refine ai ?_ | exact aw |(refine ak rfl ?_;intro D lL)| refine ah ?_ ?_ | refine aj ?_ ?_ ?_ | fail));(all_goals refine av ?_)
    refine bj (k+1) rfl hlt ?_ (by omega)
    rw [←hset,hs0]
    ((repeat' (first | with_reducible exact am _ | exact af _ | refine aB ?_ ?_ | refine aD inferInstance ?_ | refine aI ?_))<;>(try with_reducible rfl))
    all_goals rfl
   ·have hS:Sb (br (U.getD k default)) 274 [.int .i64 ((1:Nat):Int)] True:=⟨fun _=>by have:=(inferInstance:Sb (br (U.getD k default)) 274 [.int .i64 (U.getD k default).sl] True).sb True.intro;rwa [hs0] at this⟩
    (repeat' ((try refine au ?_);(conv=>arg 4;whnf);first | refine ax ?_ |(refine sN ?_;intro b)|(refine sC ?_ ?_<;>intro h)|(refine ar ?_ ?_<;>intro h<;>try contradiction)|(refine aa ?_;intro g c')|(refine ay (pD (.inr hs0)) ?_;intro x hx;refine aN ?_)| refine ae ?_ | refine ai ?_ | exact aw |(refine ak rfl ?_;intro D lL)| refine ah ?_ ?_ | refine aj ?_ ?_ ?_ | fail));(all_goals refine av ?_)
    refine bj (k+1) rfl hlt ?_ (by omega)
    rw [←hset,hs0]
    ((repeat' (first | with_reducible exact am _ | exact af _ | refine aB ?_ ?_ | refine aD inferInstance ?_ | refine aI ?_))<;>(try with_reducible rfl))
    all_goals rfl
  ·rw [if_neg hlast] at hset
   (repeat' ((try refine au ?_);(conv=>arg 4;whnf);first | refine ax ?_ |(refine sN ?_;intro b)|(refine sC ?_ ?_<;>intro h)|(refine ar ?_ ?_<;>intro h<;>try contradiction)|(refine aa ?_;intro g c')|(refine ay (pD hs) ?_;intro x hx;refine aN ?_)| refine ae ?_ | refine ai ?_ | exact aw |(refine ak rfl ?_;intro D lL)| refine ah ?_ ?_ | refine aj ?_ ?_ ?_ | fail));(all_goals refine av ?_)
   refine bj (k+1) rfl hlt ?_ (by omega)
   rw [←hset]
   ((repeat' (first | with_reducible exact am _ | exact af _ | refine aB ?_ ?_ | refine aD inferInstance ?_ | refine aI ?_))<;>(try with_reducible rfl))
   all_goals rfl
 ·obtain rfl:k=ts.length:=by omega
  (repeat' ((try refine au ?_);(conv=>arg 4;whnf);first | refine ax ?_ |(refine sN ?_;intro b)|(refine sC ?_ ?_<;>intro h)|(refine ar ?_ ?_<;>intro h<;>try contradiction)|(refine aa ?_;intro g c')| refine ae ?_ | refine ai ?_ | exact aw |(refine ak rfl ?_;intro D lL)| refine ah ?_ ?_ | refine aj ?_ ?_ ?_ | fail));(all_goals refine av ?_)
  rw [nL]
  refine aG rb True.intro rfl ?_ cR
  show Wk _ [iB rb (((List.range ts.length).map (mN ts.length ts)).flatMap br) 264]
  ((repeat' (first | with_reducible exact am _ | exact af _ | refine aB ?_ ?_ | refine aD inferInstance ?_ | refine aI ?_))<;>(try with_reducible rfl))
end
end Go.Proofs.YtbobhnldhpjdlaaGreatDoor
