/- Lemmas and walks: what each function does, by its own code. No condition beyond those of each statement. -/
import Derived.Test.YtbobhnldhpjdlaaGreatDoorP29
import Derived.Test.YtbobhnldhpjdlaaGreatDoorP30
import Derived.Test.YtbobhnldhpjdlaaGreatDoorP37
set_option linter.all false
set_option linter.unusedVariables false
namespace Go.Proofs.YtbobhnldhpjdlaaGreatDoor
open Go Go.RowKit Go.Cs Go.Cz
set_option maxRecDepth 100000
set_option maxHeartbeats 4000000
theorem Hg {s:Nat} (h:s≤1):Zp Tryz.prog 219 [vI s] [] [] Unit (fun _=>True) (fun _=> .bool false) (fun _=> []) (fun _=> []):=by
 refine an fun G=> ?_
 rcases Nat.eq_zero_or_pos s with h0 | h0
 ·subst h0
  (repeat' ((try refine au ?_);(conv=>arg 4;whnf);first | refine ax ?_ |(refine sN ?_;intro b)|(refine sC ?_ ?_<;>intro h)|(refine ar ?_ ?_<;>intro h<;>try contradiction)|(refine aa ?_;intro g c')| refine ae ?_ | refine ai ?_ | exact aw |(refine ak rfl ?_;intro D lL)| refine ah ?_ ?_ | refine aj ?_ ?_ ?_ | fail));(all_goals refine av ?_)
 ·obtain rfl:s=1:=by omega
  (repeat' ((try refine au ?_);(conv=>arg 4;whnf);first | refine ax ?_ |(refine sN ?_;intro b)|(refine sC ?_ ?_<;>intro h)|(refine ar ?_ ?_<;>intro h<;>try contradiction)|(refine aa ?_;intro g c')| refine ae ?_ | refine ai ?_ | exact aw |(refine ak rfl ?_;intro D lL)| refine ah ?_ ?_ | refine aj ?_ ?_ ?_ | fail));(all_goals refine av ?_)
theorem HU {a:Option Addr} {n c:Nat} {xs:List Nat} (hs:∀i,i<xs.length→xs.getD i default≤1) (hx:xs.length≤65536):Zp Tryz.prog 218 [.slice a n c, .func (.func 219) #[] #[]] [] [Sl cI a n c xs] Unit (fun _=>True) (fun _=> .bool false) (fun _=> []) (fun _=> []):=by
 refine an fun G=> ?_
 refine bc 0 ?_
 intro hn hc hm ha
 subst hn
 (repeat' ((try refine au ?_);(conv=>arg 4;whnf);first | refine ax ?_ |(refine sN ?_;intro b)|(refine sC ?_ ?_<;>intro h)|(refine ar ?_ ?_<;>intro h<;>try contradiction)|(refine aa ?_;intro g c')| refine ae ?_ | refine ai ?_ | exact aw |(refine ak rfl ?_;intro D lL)| refine ah ?_ ?_ | refine aj ?_ ?_ ?_ | fail));(all_goals refine av ?_)
 refine eA [] (X:=Nat) (fun k=> [(8,vI k)]) (fun k=>k≤xs.length) (fun k=> []) (fun k=>xs.length-k) 0 (Nat.zero_le _) rfl eG ?_
 intro k hk
 (conv=>arg 2;simp only [List.cons_append,List.nil_append])
 by_cases hlt:k<xs.length
 ·obtain ⟨b,o,rfl⟩:=ha (by omega) (by decide)
  have hk1:xs.getD ((k.mul 0).add k) default≤1:=by rw [show (k.mul 0).add k=k from Nat.zero_add k];exact hs k hlt
  (repeat' ((try refine au ?_);(conv=>arg 4;whnf);first | refine ax ?_ |(refine sN ?_;intro b)|(refine sC ?_ ?_<;>intro h)|(refine ar ?_ ?_<;>intro h<;>try contradiction)|(refine aa ?_;intro g c')|(refine ay (Hg hk1) ?_;intro x hx;refine aN ?_)| refine ae ?_ | refine ai ?_ | exact aw |(refine ak rfl ?_;intro D lL)| refine ah ?_ ?_ | refine aj ?_ ?_ ?_ | fail));(all_goals refine av ?_)
  exact bj (k+1) rfl hlt eG (by omega)
 ·obtain rfl:k=xs.length:=by omega
  (repeat' ((try refine au ?_);(conv=>arg 4;whnf);first | refine ax ?_ |(refine sN ?_;intro b)|(refine sC ?_ ?_<;>intro h)|(refine ar ?_ ?_<;>intro h<;>try contradiction)|(refine aa ?_;intro g c')| refine ae ?_ | refine ai ?_ | exact aw |(refine ak rfl ?_;intro D lL)| refine ah ?_ ?_ | refine aj ?_ ?_ ?_ | fail));(all_goals refine av ?_)
section
variable {n tb to m c sb so ms cs:Nat} {ts:List Nod} {s:List Nat} {q:Value×Value}
theorem IB (h1:1≤n) (h2:n≤4096) (ht:ts.length=tot n) (hT:mQ n ts=0) (hsl:s.length=tot n) (hs:∀i,i<s.length→s.getD i default≤1) (hU:UOk n (DS ts.length ts (s.map fun (x:Nat)=>(x:Int)))):Zp Tryz.prog 129 [vA (di ⟨n,(some ⟨tb,to,none⟩,m,c)⟩), .slice (some ⟨sb,so,none⟩) ms cs] [] [Sl a7 (some ⟨tb,to,none⟩) m c ts,Sl cI (some ⟨sb,so,none⟩) ms cs s,Gs q] Nat (fun _=>True) (fun x=> .tuple #[vA (a9 ⟨n,(some ⟨x,0,none⟩,ts.length,ts.length)⟩),vI 0]) (fun x=> []) (fun x=> [Sl br (some ⟨x,0,none⟩) ts.length ts.length (DS ts.length ts (s.map fun (x:Nat)=>(x:Int)))]):=by
 have htl:=cV h2
 have hpos:0<ts.length:=by have:=e7 (n:=n) (l:=hgt n) (j:=0) (Nat.le_refl _) (dS h1 _);omega
 refine an fun G=> ?_
 refine bc 0 ?_
 intro hn hc hm ha
 subst hn
 refine bc 1 ?_
 intro hn' hc' hm' ha'
 subst hn'
 have hcf:=HU (a:=some ⟨sb,so,none⟩) (n:=s.length) (c:=cs) hs (by omega)
 have hsl2:s.length=ts.length:=by omega
 rw [hsl2] at ha' hc' hcf⊢
 (repeat' ((try refine au ?_);(conv=>arg 4;whnf);first | refine cp ?_ |(refine sN ?_;intro b)|(refine sC ?_ ?_<;>intro h)|(refine ar ?_ ?_<;>intro h<;>try contradiction)|(refine aa ?_;intro g c')|((first | refine ay (BQ (q:=q) h1 h2 ht hT) ?_ | refine ay hcf ?_);intro x hx;refine aN ?_)| refine ae ?_ | refine ai ?_ | exact aw |(refine ak rfl ?_;intro D lL)| refine ah ?_ ?_ | refine aj ?_ ?_ ?_ | fail));(all_goals refine av ?_)
 rename_i mb _ _
 revert b;intro rb
 refine IX (X:=Nat×Nat) (fun x=> [(2,vP mb 0),(1, .slice (some ⟨sb,so,none⟩) ts.length cs),(4,vP rb 0),(5, .int .i64 0),(7,vP x.1 0)]) (fun _=>True) (fun x=> [iB x.1 (a9 ⟨n,(some ⟨x.2,0,none⟩,ts.length,ts.length)⟩) 43,iB x.2 ((List.replicate ts.length Un.zero).flatMap br) 264,iB rb (a9 SUtr.zero) 43,iB mb (di ⟨n,(some ⟨tb,to,none⟩,ts.length,c)⟩) 128]) (fun _=> []) ?_ ?_
 ·(repeat' ((try refine au ?_);(conv=>arg 4;whnf);first | refine ax ?_ |(refine sN ?_;intro b)|(refine sC ?_ ?_<;>intro h)|(refine ar ?_ ?_<;>intro h<;>try contradiction)|(refine aa ?_;intro g c')| refine ae ?_ | refine ai ?_ | exact aw |(refine ak rfl ?_;intro D lL)| refine ah ?_ ?_ | refine aj ?_ ?_ ?_ | fail));(all_goals refine av ?_)
  all_goals (
   revert b;intro b2
   first | exact fh (b,b2) True.intro eG cR | exact fh (b2,b) True.intro eG cR)
 rintro ⟨wb,nb⟩ _
 (conv=>arg 2;simp only [List.cons_append,List.nil_append])
 (conv=>arg 3;simp only [List.cons_append,List.nil_append])
 dsimp only
 have e0:(List.replicate ts.length Un.zero).flatMap br=(fe ts.length (ET ts (s.map fun (x:Nat)=>(x:Int))) (fun _=>Un.zero) 0).flatMap br:=by rw [yJ]
 (repeat' ((try refine au ?_);(conv=>arg 4;whnf);first | refine ax ?_ |(refine sN ?_;intro b)|(refine sC ?_ ?_<;>intro h)|(refine ar ?_ ?_<;>intro h<;>try contradiction)|(refine aa ?_;intro g c')| refine ae ?_ | refine ai ?_ | exact aw |(refine ak rfl ?_;intro D lL)| refine ah ?_ ?_ | refine aj ?_ ?_ ?_ | fail));(all_goals refine av ?_)
 refine eA [nb] (X:=Nat) (fun k=> [(38,vI k)]) (fun k=>k≤ts.length) (fun k=> [iB nb ((fe ts.length (ET ts (s.map fun (x:Nat)=>(x:Int))) (fun _=>Un.zero) k).flatMap br) 264]) (fun k=>ts.length-k) 0 (Nat.zero_le _) rfl (by rw [e0];((repeat' (first | with_reducible exact am _ | exact af _ | refine aB ?_ ?_ | refine aD inferInstance ?_ | refine aI ?_))<;>(try with_reducible rfl))) ?_
 intro k hk
 (conv=>arg 2;simp only [List.cons_append,List.nil_append])
 by_cases hlt:k<ts.length
 ·have hset:=q9 (f:=ET ts (s.map fun (x:Nat)=>(x:Int))) (g:=fun _=>Un.zero) hlt
  have hoE:ET ts (s.map fun (x:Nat)=>(x:Int)) k=⟨ts.getD k default,((s.getD ((k.mul 0).add k) default:Nat):Int),false,List.replicate 4 false,rfl⟩:=Un.ext' rfl (by rw [show (k.mul 0).add k=k from Nat.zero_add k];exact n5 s k) rfl rfl
  have hUl:(fe ts.length (ET ts (s.map fun (x:Nat)=>(x:Int))) (fun _=>Un.zero) k).length=ts.length:=rL
  rw [hoE] at hset
  generalize hUU:fe ts.length (ET ts (s.map fun (x:Nat)=>(x:Int))) (fun _=>Un.zero) k=U at*
  (repeat' ((try refine au ?_);(conv=>arg 4;whnf);first | refine ax ?_ |(refine sN ?_;intro b)|(refine sC ?_ ?_<;>intro h)|(refine ar ?_ ?_<;>intro h<;>try contradiction)|(refine aa ?_;intro g c')| refine ae ?_ | refine ai ?_ | exact aw |(refine ak rfl ?_;intro D lL)| refine ah ?_ ?_ | refine aj ?_ ?_ ?_ | fail));(all_goals refine av ?_)
  refine bj (k+1) rfl hlt ?_ (by omega)
  rw [←hset]
  ((repeat' (first | with_reducible exact am _ | exact af _ | refine aB ?_ ?_ | refine aD inferInstance ?_ | refine aI ?_))<;>(try with_reducible rfl))
  all_goals rfl
 ·obtain rfl:k=ts.length:=by omega
  rw [show fe ts.length (ET ts (s.map fun (x:Nat)=>(x:Int))) (fun _=>Un.zero) ts.length=DS ts.length ts (s.map fun (x:Nat)=>(x:Int)) from nL]
  refine gh (K:=br) nb ts.length ts.length ?_ (hn:=⟨by simp [DS],Nat.le_refl _,by omega⟩)
  (repeat' ((try refine au ?_);(conv=>arg 4;whnf);first | refine ax ?_ |(refine sN ?_;intro b)|(refine sC ?_ ?_<;>intro h)|(refine ar ?_ ?_<;>intro h<;>try contradiction)|(refine aa ?_;intro g c')|(refine ay (tW (q:=q) hU) ?_;intro x hx;refine aN ?_)| refine ae ?_ | refine ai ?_ | exact aw |(refine ak rfl ?_;intro D lL)| refine ah ?_ ?_ | refine aj ?_ ?_ ?_ | fail));(all_goals refine av ?_)
  exact aG nb True.intro rfl (af _) cR
end
end Go.Proofs.YtbobhnldhpjdlaaGreatDoor
