/- Lemmas and walks: what each function does, by its own code. No condition beyond those of each statement. -/
import Derived.Test.YtbobhnldhpjdlaaGreatDoorP11
import Derived.Test.YtbobhnldhpjdlaaGreatDoorP13
import Derived.Test.YtbobhnldhpjdlaaGreatDoorP17
import Derived.Test.YtbobhnldhpjdlaaGreatDoorP25
import Derived.Test.YtbobhnldhpjdlaaGreatDoorP44
import Derived.Test.YtbobhnldhpjdlaaGreatDoorP45
set_option linter.all false
set_option linter.unusedVariables false
namespace Go.Proofs.YtbobhnldhpjdlaaGreatDoor
open Go Go.RowKit Go.Cs Go.Cz
set_option maxRecDepth 100000
set_option maxHeartbeats 4000000
instance (priority:=3000):Zc Tryz.prog 209 (aF SRrv.zero):=⟨by kernel_rfl,fun w=>by kernel_rfl⟩
instance (priority:=3000):Bst Tryz.prog 209 [(0,1),(1,1)] (aF SRrv.zero):=⟨by kernel_rfl, .agg (aF SRrv.zero).toArray,by kernel_rfl,rfl⟩
instance:Zk Tryz.prog 209 SRrv aF SRrv.zero 2 24:=⟨.agg (aF SRrv.zero).toArray,by kernel_rfl,by kernel_rfl⟩
instance (priority:=3000):Zc Tryz.prog 78 (ed SRrd.zero):=⟨by kernel_rfl,fun w=>by kernel_rfl⟩
instance (priority:=3000):Zc Tryz.prog 85 (an SLvl.zero):=⟨by kernel_rfl,fun w=>by kernel_rfl⟩
def iw (S:List Sv) (T:List (List SRrv)):Pt:=fun w=>S.length=T.length∧∀i,i<T.length→Sl aF (S.getD i default).1 (S.getD i default).2.1 (S.getD i default).2.2 (T.getD i []) w
theorem iw.get {S:List Sv} {T:List (List SRrv)} {w:World} (h:iw S T w) {i:Nat} (hi:i<T.length):Sl aF (S.getD i default).1 (S.getD i default).2.1 (S.getD i default).2.2 (T.getD i []) w:=h.2 i hi
theorem iw.nil {w:World}:iw [] [] w:=⟨rfl,fun i h=>absurd h (Nat.not_lt_zero _)⟩
theorem iw.snoc {S:List Sv} {T:List (List SRrv)} {w:World} (h:iw S T w) {s:Sv} {t:List SRrv} (hs:Sl aF s.1 s.2.1 s.2.2 t w):iw (S++ [s]) (T++ [t]) w:=by
 refine ⟨by simp [h.1],fun i hi=> ?_⟩
 have hl:=h.1
 by_cases e:i<T.length
 ·have h1:(S++ [s]).getD i default=S.getD i default:=by simp [List.getD_eq_getElem?_getD,List.getElem?_append_left (show i<S.length by omega)]
  have h2:(T++ [t]).getD i []=T.getD i []:=by simp [List.getD_eq_getElem?_getD,List.getElem?_append_left e]
  rw [h1,h2];exact h.2 i e
 ·have hi':i=T.length:=by simp at hi;omega
  subst hi'
  have h1:(S++ [s]).getD T.length default=s:=by rw [←hl];simp
  have h2:(T++ [t]).getD T.length []=t:=by simp
  rw [h1,h2];exact hs
def ek (T:List (List SRrv)) (i:Nat):SRrv:=(T.getD i []).getD ((T.getD i []).length-1) default
theorem Mg {s:Sv} {S:List Sv} {T:List (List SRrv)} {i:Nat} (hi:i<T.length) (hn:T.getD i []≠ []):Zp Tryz.prog 109 [vA (ed ⟨s⟩),vI i] [] [Sl cS s.1 s.2.1 s.2.2 S,iw S T] Unit (fun _=>True) (fun _=>vA (aF (ek T i))) (fun _=> []) (fun _=> []):=by
 obtain ⟨ssa,ssn,ssc⟩:=s
 refine ak fun G=> ?_
 refine f5 (p:=S.length=T.length) (fun w _ h=>(h (iw S T) (by simp)).1) fun hST=> ?_
 refine aS 0 ?_
 intro hsn hsc hsm hsa
 obtain ⟨sb,so,hso⟩:=hsa (by omega) (by decide)
 dsimp only at hso hsn
 subst hso hsn
 dsimp only
 refine aR (Sl aF (S.getD i default).1 (S.getD i default).2.1 (S.getD i default).2.2 (T.getD i [])) (fun w _ h=>(h (iw S T) (by simp)).2 i hi) ?_
 refine aS 0 ?_
 intro hrn hrc hrm hra
 have hlen:0<(T.getD i []).length:=List.length_pos_iff.2 hn
 obtain ⟨rrb,rro,hro⟩:=hra (by omega) (by decide)
 unfold ek
 generalize T.getD i []=Ti at*
 refine aR (Sl aF (some ⟨rrb,rro,none⟩) (S.getD i default).2.1 (S.getD i default).2.2 Ti) (fun w _ h=>by rw [←hro];exact h _ (.head _)) ?_
 (repeat' ((try refine aw ?_);(conv=>arg 4;whnf);first | refine az ?_ |(refine sN ?_;intro b)| fail));(all_goals refine av ?_)
 exact aD () True.intro (by rw [hrn];rfl) (am _)
theorem MN {n:Nat} (hn:n≤1000000):Zp Tryz.prog 94 [vI n] [] [] (Sv×List Sv) (fun _=>True) (fun x=>vA (ed ⟨x.1⟩)) (fun _=> []) (fun x=> [Sl cS x.1.1 x.1.2.1 x.1.2.2 x.2,iw x.2 (List.replicate n [SRrv.zero])]):=by
 refine ak fun G=> ?_
 (repeat' ((try refine aw ?_);(conv=>arg 4;whnf);first | refine aO ?_ |(refine sN ?_;intro b)|(refine aa ?_;intro g c')| fail));(all_goals refine av ?_)
 revert b;intro nbk
 refine aR (iw [] (List.replicate 0 [SRrv.zero])) (fun w _ _=>iw.nil) ?_
 refine w6 [nbk] (X:=Nat×Option Addr×Nat×List Sv) (fun x=> [(4,vI x.1)]) (fun x=>x.1≤n∧x.2.2.2.length=x.1) (fun x=> [iB nbk (ed ⟨(x.2.1,x.1,x.2.2.1)⟩) 78,iN cS 1 x.2.1 x.1 x.2.2.1 358 x.2.2.2]) (fun x=> [iw x.2.2.2 (List.replicate x.1 [SRrv.zero])]) (fun x=>n-x.1) (0,none,0, []) ⟨Nat.zero_le _,rfl⟩ rfl (by ((repeat' (first | with_reducible exact ar _ | exact am _ | refine aE ?_ ?_ | refine aX ?_ | refine qT rfl ?_))<;>(try with_reducible rfl))) bu ?_
 rintro ⟨i,a,c,S⟩ ⟨hi,hS⟩
 (conv=>arg 2;simp only [List.cons_append,List.nil_append])
 dsimp only at hi hS⊢
 by_cases hlt:i<n
 ·(conv=>arg 3;simp only [List.cons_append,List.nil_append])
  (repeat' ((try refine aw ?_);(conv=>arg 4;whnf);first | refine aO ?_ |(refine sN ?_;intro b)|(refine aa ?_;intro g c')| fail));(all_goals refine av ?_)
  rename_i rwb
  refine eK (K:=aF) (l:= [SRrv.zero]) rwb 1 1 ?_
  refine aR (iw (S++ [(some ⟨rwb,0,none⟩,1,1)]) (List.replicate (i+1) [SRrv.zero])) (fun w _ h=>by rw [List.replicate_succ'];exact (h (iw S (List.replicate i [SRrv.zero])) (by simp)).snoc (h _ (.head _))) ?_
  exact eU (i+1,some ⟨g,0,none⟩,c',S++ [(some ⟨rwb,0,none⟩,1,1)]) ⟨hlt,by simp [hS]⟩ cD (by dsimp only;omega) bu
 ·obtain rfl:i=n:=by omega
  (conv=>arg 3;simp only [List.cons_append,List.nil_append])
  refine eE (m:=1) (e:=358) cS a i c ?_
  (repeat' ((try refine aw ?_);(conv=>arg 4;whnf);first | refine aO ?_ |(refine sN ?_;intro b)|(refine aa ?_;intro g c')| fail));(all_goals refine av ?_)
  exact aD ((a,i,c),S) True.intro rfl (am _) bu
def eP (T:List (List SRrv)) (k:Nat) (v:SRrv) (j:Nat):List (List SRrv):=(List.range j).map fun i=>if i=k then T.getD i []++ [v] else T.getD i []
theorem AV (T:List (List SRrv)) (k:Nat) (v:SRrv) (j:Nat):eP T k v (j+1)=eP T k v j++ [if j=k then T.getD j []++ [v] else T.getD j []]:=by
 unfold eP;rw [List.range_succ,List.map_append];rfl
@[simp] theorem mA (T:List (List SRrv)) (k:Nat) (v:SRrv) (j:Nat):(eP T k v j).length=j:=by simp [eP]
theorem lp {T:List (List SRrv)} {k:Nat} {v:SRrv} {j i:Nat} (h:i<j):(eP T k v j).getD i []=if i=k then T.getD i []++ [v] else T.getD i []:=by
 simp [eP,List.getD_eq_getElem?_getD,h]
theorem He {s:Sv} {S:List Sv} {T:List (List SRrv)} {k:Nat} {v:SRrv} (hn:∀i,i<T.length→T.getD i []≠ []) (hT:T.length≤1000000) (hr:∀i,(T.getD i []).length≤1000000):Zp Tryz.prog 97 [vA (ed ⟨s⟩),vI k,vA (aF v)] [] [Sl cS s.1 s.2.1 s.2.2 S,iw S T] (Sv×List Sv) (fun _=>True) (fun x=>vA (ed ⟨x.1⟩)) (fun _=> []) (fun x=> [Sl cS x.1.1 x.1.2.1 x.1.2.2 x.2,iw x.2 (eP T k v T.length)]):=by
 obtain ⟨ssa,ssn,ssc⟩:=s
 refine ak fun G=> ?_
 refine f5 (p:=S.length=T.length) (fun w _ h=>(h (iw S T) (by simp)).1) fun hST=> ?_
 refine aS 0 ?_
 intro hsn hsc hsm hsa
 dsimp only at hsn hsa⊢
 subst hsn
 (repeat' ((try refine aw ?_);(conv=>arg 4;whnf);first | refine aO ?_ |(refine sN ?_;intro b)|(refine aa ?_;intro g c')| fail));(all_goals refine av ?_)
 rename_i vbk
 revert b;intro nbk
 refine aR (iw [] (eP T k v 0)) (fun w _ _=>iw.nil) ?_
 refine w6 [nbk] (X:=Nat×Option Addr×Nat×List Sv) (fun x=> [(8,vI x.1)]) (fun x=>x.1≤T.length∧x.2.2.2.length=x.1) (fun x=> [iB nbk (ed ⟨(x.2.1,x.1,x.2.2.1)⟩) 78,iN cS 1 x.2.1 x.1 x.2.2.1 358 x.2.2.2]) (fun x=> [iw x.2.2.2 (eP T k v x.1)]) (fun x=>T.length-x.1) (0,none,0, []) ⟨Nat.zero_le _,rfl⟩ rfl (by ((repeat' (first | with_reducible exact ar _ | exact am _ | refine aE ?_ ?_ | refine aX ?_ | refine qT rfl ?_))<;>(try with_reducible rfl))) bu ?_
 rintro ⟨i,a,c,Q⟩ ⟨hi,hQ⟩
 (conv=>arg 3;simp only [List.cons_append,List.nil_append])
 (conv=>arg 2;simp only [List.cons_append,List.nil_append])
 dsimp only at hi hQ⊢
 by_cases hlt:i<T.length
 ·obtain ⟨sb,so,hso⟩:=hsa (by omega) (by decide)
  subst hso
  refine aR (Sl aF (S.getD i default).1 (S.getD i default).2.1 (S.getD i default).2.2 (T.getD i [])) (fun w _ h=>(h (iw S T) (by simp)).2 i hlt) ?_
  refine aS 0 ?_
  intro hrn hrc hrm hra
  have hlen:0<(T.getD i []).length:=List.length_pos_iff.2 (hn i hlt)
  have hrl:=hr i
  obtain ⟨rrb,rro,hro⟩:=hra (by omega) (by decide)
  obtain ⟨Ti,hTi⟩:∃Ti,Ti=T.getD i []:=⟨_,rfl⟩
  rw [←hTi] at hrn hlen hrl⊢
  refine aR (Sl aF (some ⟨rrb,rro,none⟩) (S.getD i default).2.1 (S.getD i default).2.2 Ti) (fun w _ h=>by rw [←hro];exact h _ (.head _)) ?_
  by_cases hk:i=k
  ·(repeat' ((try refine aw ?_);(conv=>arg 4;whnf);first | refine aO ?_ |(refine sN ?_;intro b)|(refine aa ?_;intro g c')| fail));(all_goals refine av ?_)
   rw [hro,hrn]
   (repeat' ((try refine aw ?_);(conv=>arg 4;whnf);first | refine aO ?_ |(refine sN ?_;intro b)|(refine aa ?_;intro g c')| fail));(all_goals refine av ?_)
   rename_i rwg rwc
   refine eE (m:=2) (e:=209) aF (some ⟨rwg,0,none⟩) (0+Ti.length+1) rwc ?_
   refine aR (iw (Q++ [(some ⟨rwg,0,none⟩,0+Ti.length+1,rwc)]) (eP T k v (i+1))) (fun w _ h=>by rw [AV,if_pos hk,←hTi];exact (h (iw Q (eP T k v i)) (by simp)).snoc (h _ (.head _))) ?_
   exact eU (i+1,some ⟨g,0,none⟩,c',Q++ [(some ⟨rwg,0,none⟩,0+Ti.length+1,rwc)]) ⟨hlt,by simp [hQ]⟩ cD (by dsimp only;omega) bu
  ·(repeat' ((try refine aw ?_);(conv=>arg 4;whnf);first | refine aO ?_ |(refine sN ?_;intro b)|(refine aa ?_;intro g c')| fail));(all_goals refine av ?_)
   rw [hro,hrn]
   (repeat' ((try refine aw ?_);(conv=>arg 4;whnf);first | refine aO ?_ |(refine sN ?_;intro b)|(refine aa ?_;intro g c')| fail));(all_goals refine av ?_)
   rename_i rwg rwc
   refine eE (m:=2) (e:=209) aF (some ⟨rwg,0,none⟩) (0+Ti.length) rwc ?_
   refine aR (iw (Q++ [(some ⟨rwg,0,none⟩,0+Ti.length,rwc)]) (eP T k v (i+1))) (fun w _ h=>by rw [AV,if_neg hk,←hTi];exact (h (iw Q (eP T k v i)) (by simp)).snoc (h _ (.head _))) ?_
   exact eU (i+1,some ⟨g,0,none⟩,c',Q++ [(some ⟨rwg,0,none⟩,0+Ti.length,rwc)]) ⟨hlt,by simp [hQ]⟩ cD (by dsimp only;omega) bu
 ·obtain rfl:i=T.length:=by omega
  refine eE (m:=1) (e:=358) cS a T.length c ?_
  (repeat' ((try refine aw ?_);(conv=>arg 4;whnf);first | refine aO ?_ |(refine sN ?_;intro b)|(refine aa ?_;intro g c')| fail));(all_goals refine av ?_)
  exact aD ((a,T.length,c),Q) True.intro rfl (am _) bu
end Go.Proofs.YtbobhnldhpjdlaaGreatDoor
