/- Lemmas and walks: what each function does, by its own code. No condition beyond those of each statement. -/
import Derived.Test.YtbobhnldhpjdlaaGreatDoorP35
import Derived.Test.YtbobhnldhpjdlaaGreatDoorP37
set_option linter.all false
set_option linter.unusedVariables false
namespace Go.Proofs.YtbobhnldhpjdlaaGreatDoor
open Go Go.RowKit Go.Cs Go.Cz
set_option maxRecDepth 100000
set_option maxHeartbeats 4000000
theorem Jc {s:Nat} (h:s≤1):Zp Tryz.prog 219 [vI s] [] [] Unit (fun _=>True) (fun _=> .bool false) (fun _=> []) (fun _=> []):=by
 refine ak fun G=> ?_
 rcases Nat.eq_zero_or_pos s with h0 | h0
 ·subst h0
  (repeat' ((try refine aw ?_);(conv=>arg 4;whnf);first | refine az ?_ | exact ax | fail));(all_goals refine av ?_)
 ·obtain rfl:s=1:=by omega
  (repeat' ((try refine aw ?_);(conv=>arg 4;whnf);first | refine az ?_ | exact ax | fail));(all_goals refine av ?_)
theorem H6 {a:Option Addr} {n c:Nat} {xs:List Nat} (hs:∀i,i<xs.length→xs.getD i default≤1) (hx:xs.length≤65536):Zp Tryz.prog 218 [.slice a n c, .func (.func 219) #[] #[]] [] [Sl cI a n c xs] Unit (fun _=>True) (fun _=> .bool false) (fun _=> []) (fun _=> []):=by
 refine ak fun G=> ?_
 refine aS 0 ?_
 intro hn hc hm ha
 subst hn
 (repeat' ((try refine aw ?_);(conv=>arg 4;whnf);first | refine az ?_ | refine ae ?_ | exact ax | fail));(all_goals refine av ?_)
 refine dh [] (X:=Nat) (fun k=> [(8,vI k)]) (fun k=>k≤xs.length) (fun k=> []) (fun k=>xs.length-k) 0 (Nat.zero_le _) rfl cD ?_
 intro k hk
 (conv=>arg 2;simp only [List.cons_append,List.nil_append])
 by_cases hlt:k<xs.length
 ·obtain ⟨b,o,rfl⟩:=ha (by omega) (by decide)
  have hk1:xs.getD ((k.mul 0).add k) default≤1:=by rw [show (k.mul 0).add k=k from Nat.zero_add k];exact hs k hlt
  (repeat' ((try refine aw ?_);(conv=>arg 4;whnf);first | refine az ?_ |(refine aA (Jc hk1) ?_;intro x hx;refine aH ?_)| refine ae ?_ | exact ax | fail));(all_goals refine av ?_)
  exact a5 (k+1) rfl hlt cD (by omega)
 ·obtain rfl:k=xs.length:=by omega
  (repeat' ((try refine aw ?_);(conv=>arg 4;whnf);first | refine az ?_ | refine ae ?_ | exact ax | fail));(all_goals refine av ?_)
section
variable {n tb to m c sb so ms cs:Nat} {ts:List Nod} {s:List Nat} {q:Value×Value}
theorem H7 (h1:1≤n) (h2:n≤4096) (ht:ts.length=tot n) (hT:l6 n ts=0) (hsl:s.length=tot n) (hs:∀i,i<s.length→s.getD i default≤1) (hU:UOk n (Ei ts.length ts (s.map fun (x:Nat)=>(x:Int)))):Zp Tryz.prog 129 [vA (cy ⟨n,(some ⟨tb,to,none⟩,m,c)⟩), .slice (some ⟨sb,so,none⟩) ms cs] [] [Sl aU (some ⟨tb,to,none⟩) m c ts,Sl cI (some ⟨sb,so,none⟩) ms cs s,Gs q] Nat (fun _=>True) (fun x=> .tuple #[vA (aV ⟨n,(some ⟨x,0,none⟩,ts.length,ts.length)⟩),vI 0]) (fun x=> []) (fun x=> [Sl a7 (some ⟨x,0,none⟩) ts.length ts.length (Ei ts.length ts (s.map fun (x:Nat)=>(x:Int)))]):=by
 have htl:=b9 h2
 have hpos:0<ts.length:=by have:=d7 (n:=n) (l:=hgt n) (j:=0) (Nat.le_refl _) (dk h1 _);omega
 refine ak fun G=> ?_
 refine aS 0 ?_
 intro hn hc hm ha
 subst hn
 refine aS 1 ?_
 intro hn' hc' hm' ha'
 subst hn'
 have hcf:=H6 (a:=some ⟨sb,so,none⟩) (n:=s.length) (c:=cs) hs (by omega)
 have hsl2:s.length=ts.length:=by omega
 rw [hsl2] at ha' hc' hcf⊢
 (repeat' ((try refine aw ?_);(conv=>arg 4;whnf);first | refine aO ?_ |(refine sN ?_;intro b)|((first | refine aA (zh (q:=q) h1 h2 ht hT) ?_ | refine aA hcf ?_);intro x hx;refine aH ?_)| refine af ?_ ?_ | fail));(all_goals refine av ?_)
 rename_i mb _ _
 revert b;intro rb
 refine I7 (X:=Nat×Nat) (fun x=> [(2,vP mb 0),(1, .slice (some ⟨sb,so,none⟩) ts.length cs),(4,vP rb 0),(5, .int .i64 0),(7,vP x.1 0)]) (fun _=>True) (fun x=> [iB x.1 (aV ⟨n,(some ⟨x.2,0,none⟩,ts.length,ts.length)⟩) 43,iB x.2 ((List.replicate ts.length Un.zero).flatMap a7) 264,iB rb (aV SUtr.zero) 43,iB mb (cy ⟨n,(some ⟨tb,to,none⟩,ts.length,c)⟩) 128]) (fun _=> []) ?_ ?_
 ·(repeat' ((try refine aw ?_);(conv=>arg 4;whnf);first | refine az ?_ |(refine sN ?_;intro b)| refine af ?_ ?_ | fail));(all_goals refine av ?_)
  all_goals (
   revert b;intro b2
   first | exact d9 (b,b2) True.intro cD bu | exact d9 (b2,b) True.intro cD bu)
 rintro ⟨wb,nb⟩ _
 (conv=>arg 2;simp only [List.cons_append,List.nil_append])
 (conv=>arg 3;simp only [List.cons_append,List.nil_append])
 dsimp only
 have e0:(List.replicate ts.length Un.zero).flatMap a7=(eo ts.length (E2 ts (s.map fun (x:Nat)=>(x:Int))) (fun _=>Un.zero) 0).flatMap a7:=by rw [zY]
 (repeat' ((try refine aw ?_);(conv=>arg 4;whnf);first | refine az ?_ |(refine sN ?_;intro b)| refine af ?_ ?_ | fail));(all_goals refine av ?_)
 refine dh [nb] (X:=Nat) (fun k=> [(38,vI k)]) (fun k=>k≤ts.length) (fun k=> [iB nb ((eo ts.length (E2 ts (s.map fun (x:Nat)=>(x:Int))) (fun _=>Un.zero) k).flatMap a7) 264]) (fun k=>ts.length-k) 0 (Nat.zero_le _) rfl (by rw [e0];((repeat' (first | with_reducible exact ar _ | exact am _ | refine aE ?_ ?_ | fail))<;>(try with_reducible rfl))) ?_
 intro k hk
 (conv=>arg 2;simp only [List.cons_append,List.nil_append])
 by_cases hlt:k<ts.length
 ·have hset:=qZ (f:=E2 ts (s.map fun (x:Nat)=>(x:Int))) (g:=fun _=>Un.zero) hlt
  have hoE:E2 ts (s.map fun (x:Nat)=>(x:Int)) k=⟨ts.getD k default,((s.getD ((k.mul 0).add k) default:Nat):Int),false,List.replicate 4 false,rfl⟩:=Un.ext' rfl (by rw [show (k.mul 0).add k=k from Nat.zero_add k];exact nU s k) rfl rfl
  have hUl:(eo ts.length (E2 ts (s.map fun (x:Nat)=>(x:Int))) (fun _=>Un.zero) k).length=ts.length:=rS
  rw [hoE] at hset
  generalize hUU:eo ts.length (E2 ts (s.map fun (x:Nat)=>(x:Int))) (fun _=>Un.zero) k=U at*
  (repeat' ((try refine aw ?_);(conv=>arg 4;whnf);first | refine az ?_ |(refine sN ?_;intro b)| refine af ?_ ?_ | fail));(all_goals refine av ?_)
  refine a5 (k+1) rfl hlt ?_ (by omega)
  rw [←hset]
  ((repeat' (first | with_reducible exact ar _ | exact am _ | refine aE ?_ ?_ | fail))<;>(try with_reducible rfl))
  all_goals rfl
 ·obtain rfl:k=ts.length:=by omega
  rw [show eo ts.length (E2 ts (s.map fun (x:Nat)=>(x:Int))) (fun _=>Un.zero) ts.length=Ei ts.length ts (s.map fun (x:Nat)=>(x:Int)) from n6]
  refine eK (K:=a7) nb ts.length ts.length ?_ (hn:=⟨by simp [Ei],Nat.le_refl _,by omega⟩)
  (repeat' ((try refine aw ?_);(conv=>arg 4;whnf);first | refine az ?_ |(refine sN ?_;intro b)|(refine aA (sE (q:=q) hU) ?_;intro x hx;refine aH ?_)| refine af ?_ ?_ | fail));(all_goals refine av ?_)
  exact aD nb True.intro rfl (am _) bu
end
end Go.Proofs.YtbobhnldhpjdlaaGreatDoor
