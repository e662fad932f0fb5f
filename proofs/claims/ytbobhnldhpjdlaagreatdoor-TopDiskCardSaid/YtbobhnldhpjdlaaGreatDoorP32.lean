/- Lemmas and walks: what each function does, by its own code. No condition beyond those of each statement. -/
import Derived.Test.YtbobhnldhpjdlaaGreatDoorP14
import Derived.Test.YtbobhnldhpjdlaaGreatDoorP31
set_option linter.all false
set_option linter.unusedVariables false
namespace Go.Proofs.YtbobhnldhpjdlaaGreatDoor
open Go Go.RowKit Go.Cs Go.Cz
set_option maxRecDepth 100000
set_option maxHeartbeats 4000000
theorem xE {P:Program} {ro:Option Nat} {n:Nat} {c:Code} {ds:List Deferred} {σ:Fm} {K:Kt} {G:Gc} {O R:List It} {F:List Pt} {X:Type} {Y:Type} (bs:List Nat) (live:X→Fm) (q:X→Prop) (Os:X→List It) (μ:X→Nat) (x0:X) (p:Y→Prop) {e:Ex} {ds':List Deferred} {σ':Y→Fm} {O':Y→List It} [hr:Rbs O bs R] (h0:q x0) (hl:Hs (live x0) σ) (hw:Wk O (Os x0++R))
  (round:∀K':Kt,(∀y,p y→Jn (Tr G (O' y) F (K' e ds' (σ' y))))→∀x,q x→Tr G (Os x++R) F (zj (fun fl=>CX (fun σ''=>EC P ro n c ds σ'' (fun e ds' σ''=>match e with | .nm=>Le live q (fun x=>Os x++R) μ x G F fl ds ds' σ'' | .ex i=>K' (.ex i) ds' σ'' | .rt=>K' .rt ds' σ'')) (live x) fl) (qR c []) [] [] σ))
  (after:∀y,p y→Tr G (O' y) F (K e ds' (σ' y))):Tr G O F (Lp P ro n c ds σ K):=
 dh bs live q Os μ x0 h0 hl hw (fun x hx=>round K (fun y hy=>⟨after y hy⟩) x hx)
theorem Ns {P:Program} {ro:Option Nat} {n:Nat} {c:Code} {ds:List Deferred} {σ:Fm} {K:Kt} {G:Gc} {O R:List It} {F:List Pt} {X Y Z:Type} (bs:List Nat) (live:X→Fm) (q:X→Prop) (Os:X→List It) (μ:X→Nat) (x0:X) (p:Y→Z→Prop) {e:Ex} {ds':List Deferred} {σ':Y→Z→Fm} {O':Y→Z→List It} [hr:Rbs O bs R] (h0:q x0) (hl:Hs (live x0) σ) (hw:Wk O (Os x0++R))
  (round:∀K':Kt,(∀y z,p y z→Jn (Tr G (O' y z) F (K' e ds' (σ' y z))))→∀x,q x→Tr G (Os x++R) F (zj (fun fl=>CX (fun σ''=>EC P ro n c ds σ'' (fun e ds' σ''=>match e with | .nm=>Le live q (fun x=>Os x++R) μ x G F fl ds ds' σ'' | .ex i=>K' (.ex i) ds' σ'' | .rt=>K' .rt ds' σ'')) (live x) fl) (qR c []) [] [] σ))
  (after:∀y z,p y z→Tr G (O' y z) F (K e ds' (σ' y z))):Tr G O F (Lp P ro n c ds σ K):=
 dh bs live q Os μ x0 h0 hl hw (fun x hx=>round K (fun y z hy=>⟨after y z hy⟩) x hx)
theorem JC {W:List UInt8} {y:B16} (hW:W.length=176):Zp Tryz.prog 342 [vA (bE W),vA (dE y)] [] [] B16 (fun _=>True) (fun o=>vA (dE o)) (fun _=> []) (fun _=> []):=by
 have hyl:=y.h
 refine ak fun G=> ?_
 (repeat' ((try refine aw ?_);(conv=>arg 4;whnf);first | refine aO ?_ |(refine sN ?_;intro b)|(refine aA HL ?_;intro x hx;refine aH ?_)| fail));(all_goals refine av ?_)
 rename_i wbk ybk obk tbk
 revert b;intro mbk
 have ht:=sc
 generalize sF=TR at*
 refine fL mbk (bE (List.replicate 16 0)) rfl ?_
 apply xE [mbk] (X:=Nat×List UInt8) (Y:=List UInt8) (fun x=> [(7,vI x.1)]) (fun x=>x.1≤16∧x.2.length=16) (fun x=> [iB mbk (bE x.2) 546]) (fun x=>16-x.1) (0,List.replicate 16 0) (fun M=>M.length=16)
 ·exact ⟨Nat.zero_le _,rfl⟩
 ·rfl
 ·((((repeat' (first | with_reducible exact ar _ | exact am _ | refine aE ?_ ?_ | fail))<;>(try with_reducible rfl)))<;>rfl)
 ·rintro KK1 HH1 ⟨i,M⟩ ⟨hi,hm⟩
  (conv=>arg 2;simp only [List.cons_append,List.nil_append])
  dsimp only at hi hm⊢
  by_cases h:i<16
  ·(repeat' ((try refine aw ?_);(conv=>arg 4;whnf);first | refine aO ?_ |(refine sN ?_;intro b)| fail));(all_goals refine av ?_)
   refine bF rfl rfl ?_
   (repeat' ((try refine aw ?_);(conv=>arg 4;whnf);first | refine aO ?_ |(refine sN ?_;intro b)| fail));(all_goals refine av ?_)
   exact jV (i+1,List.set M _ _) ⟨h,by dsimp only;rw [List.length_set];exact hm⟩ cD (by dsimp only;omega) bu
  ·obtain rfl:i=16:=by omega
   (repeat' ((try refine aw ?_);(conv=>arg 4;whnf);first | refine aO ?_ |(refine sN ?_;intro b)| fail));(all_goals refine av ?_)
   exact (HH1 M hm).go
 intro M hm
 (repeat' ((try refine aw ?_);(conv=>arg 4;whnf);first | refine aO ?_ |(refine sN ?_;intro b)| fail));(all_goals refine av ?_)
 apply xE [mbk] (X:=Nat×List UInt8) (Y:=List UInt8) (fun x=> [(8,vI (x.1+1))]) (fun x=>x.1≤10∧x.2.length=16) (fun x=> [iB mbk (bE x.2) 546]) (fun x=>10-x.1) (0,M) (fun M=>M.length=16)
 ·exact ⟨Nat.zero_le _,hm⟩
 ·rfl
 ·((((repeat' (first | with_reducible exact ar _ | exact am _ | refine aE ?_ ?_ | fail))<;>(try with_reducible rfl)))<;>rfl)
 ·skip
  rintro K2 HH2 ⟨k,M⟩ ⟨hk,hm⟩
  (conv=>arg 2;simp only [List.cons_append,List.nil_append])
  dsimp only at hk hm⊢
  by_cases h:k<10
  ·(repeat' ((try refine aw ?_);(conv=>arg 4;whnf);first | refine aO ?_ |(refine sN ?_;intro b)| fail));(all_goals refine av ?_)
   revert b;intro nbk
   refine fL nbk (bE (List.replicate 16 0)) rfl ?_
   apply xE [nbk] (X:=Nat×List UInt8) (Y:=List UInt8) (fun x=> [(10,vI x.1)]) (fun x=>x.1≤4∧x.2.length=16) (fun x=> [iB nbk (bE x.2) 546]) (fun x=>4-x.1) (0,List.replicate 16 0) (fun T=>T.length=16)
   ·exact ⟨Nat.zero_le _,rfl⟩
   ·rfl
   ·((((repeat' (first | with_reducible exact ar _ | exact am _ | refine aE ?_ ?_ | fail))<;>(try with_reducible rfl)))<;>rfl)
   ·rintro K3 HH3 ⟨r,T⟩ ⟨hr,hT⟩
    (conv=>arg 2;simp only [List.cons_append,List.nil_append])
    dsimp only at hr hT⊢
    by_cases h2:r<4
    ·(repeat' ((try refine aw ?_);(conv=>arg 4;whnf);first | refine aO ?_ |(refine sN ?_;intro b)| fail));(all_goals refine av ?_)
     apply xE [nbk] (X:=Nat×List UInt8) (Y:=List UInt8) (fun x=> [(11,vI x.1)]) (fun x=>x.1≤4∧x.2.length=16) (fun x=> [iB nbk (bE x.2) 546]) (fun x=>4-x.1) (0,T) (fun T=>T.length=16)
     ·exact ⟨Nat.zero_le _,hT⟩
     ·rfl
     ·((((repeat' (first | with_reducible exact ar _ | exact am _ | refine aE ?_ ?_ | fail))<;>(try with_reducible rfl)))<;>rfl)
     ·skip
      rintro K4 HH4 ⟨c,T⟩ ⟨hc,hT⟩
      (conv=>arg 2;simp only [List.cons_append,List.nil_append])
      dsimp only at hc hT⊢
      by_cases h3:c<4
      ·have hx:=(M.getD (0+r*4+(c+r)%4*1) default).toNat_lt
       (repeat' ((try refine aw ?_);(conv=>arg 4;whnf);first | refine aO ?_ |(refine sN ?_;intro b)| fail));(all_goals refine av ?_)
       refine bF rfl rfl ?_
       (repeat' ((try refine aw ?_);(conv=>arg 4;whnf);first | refine aO ?_ |(refine sN ?_;intro b)| fail));(all_goals refine av ?_)
       exact jV (c+1,List.set T _ _) ⟨h3,by dsimp only;rw [List.length_set];exact hT⟩ cD (by dsimp only;omega) bu
      ·obtain rfl:c=4:=by omega
       (repeat' ((try refine aw ?_);(conv=>arg 4;whnf);first | refine aO ?_ |(refine sN ?_;intro b)| fail));(all_goals refine av ?_)
       exact (HH4 T hT).go
     intro T hT
     (repeat' ((try refine aw ?_);(conv=>arg 4;whnf);first | refine aO ?_ |(refine sN ?_;intro b)| fail));(all_goals refine av ?_)
     exact jV (r+1,T) ⟨h2,hT⟩ (by (((repeat' (first | with_reducible exact ar _ | exact am _ | refine aE ?_ ?_ | fail))<;>(try with_reducible rfl)))<;>rfl) (by dsimp only;omega) bu
    ·obtain rfl:r=4:=by omega
     (repeat' ((try refine aw ?_);(conv=>arg 4;whnf);first | refine aO ?_ |(refine sN ?_;intro b)| fail));(all_goals refine av ?_)
     exact (HH3 T hT).go
   intro T hT
   (repeat' ((try refine aw ?_);(conv=>arg 4;whnf);first | refine aO ?_ |(refine sN ?_;intro b)| fail));(all_goals refine av ?_)
   apply Ns [mbk,nbk] (X:=Nat×List UInt8×List UInt8) (Y:=List UInt8) (Z:=List UInt8) (fun x=> [(12,vI x.1)]) (fun x=>x.1≤4∧x.2.1.length=16∧x.2.2.length=16) (fun x=> [iB mbk (bE x.2.1) 546,iB nbk (bE x.2.2) 546]) (fun x=>4-x.1) (0,M,T) (fun M T=>M.length=16)
   ·exact ⟨Nat.zero_le _,hm,hT⟩
   ·rfl
   ·((((repeat' (first | with_reducible exact ar _ | exact am _ | refine aE ?_ ?_ | fail))<;>(try with_reducible rfl)))<;>rfl)
   ·skip
    rintro KK5 HH5 ⟨c,M,T⟩ ⟨hc,hm,hT⟩
    (conv=>arg 2;simp only [List.cons_append,List.nil_append])
    dsimp only at hc hm hT⊢
    by_cases h4:c<4
    ·by_cases h10:k+1<10
     ·(repeat' ((try refine aw ?_);(conv=>arg 4;whnf);first | refine aO ?_ |(refine sN ?_;intro b)| fail));(all_goals refine av ?_)
      refine bF rfl rfl ?_
      (repeat' ((try refine aw ?_);(conv=>arg 4;whnf);first | refine aO ?_ |(refine sN ?_;intro b)|(refine aA MF ?_;intro x hx;refine aH ?_)| fail));(all_goals refine av ?_)
      apply xE [mbk] (X:=Nat×List UInt8) (Y:=List UInt8) (fun x=> [(17,vI x.1)]) (fun x=>x.1≤4∧x.2.length=16) (fun x=> [iB mbk (bE x.2) 546]) (fun x=>4-x.1) (0,M) (fun M=>M.length=16)
      ·exact ⟨Nat.zero_le _,hm⟩
      ·rfl
      ·((((repeat' (first | with_reducible exact ar _ | exact am _ | refine aE ?_ ?_ | fail))<;>(try with_reducible rfl)))<;>rfl)
      ·skip
       rintro KK6 HH6 ⟨r,M⟩ ⟨hr5,hm⟩
       (conv=>arg 2;simp only [List.cons_append,List.nil_append])
       dsimp only at hr5 hm⊢
       by_cases h6:r<4
       ·(repeat' ((try refine aw ?_);(conv=>arg 4;whnf);first | refine aO ?_ |(refine sN ?_;intro b)| fail));(all_goals refine av ?_)
        refine bF rfl rfl ?_
        (repeat' ((try refine aw ?_);(conv=>arg 4;whnf);first | refine aO ?_ |(refine sN ?_;intro b)| fail));(all_goals refine av ?_)
        exact jV (r+1,List.set M _ _) ⟨h6,by dsimp only;rw [List.length_set];exact hm⟩ cD (by dsimp only;omega) bu
       ·obtain rfl:r=4:=by omega
        (repeat' ((try refine aw ?_);(conv=>arg 4;whnf);first | refine aO ?_ |(refine sN ?_;intro b)| fail));(all_goals refine av ?_)
        exact (HH6 M hm).go
      intro M hm
      (repeat' ((try refine aw ?_);(conv=>arg 4;whnf);first | refine aO ?_ |(refine sN ?_;intro b)| fail));(all_goals refine av ?_)
      exact jV (c+1,M,List.set _ _ _) ⟨h4,hm,by dsimp only;simp only [List.length_set];exact hT⟩ cD (by dsimp only;omega) bu
     ·(repeat' ((try refine aw ?_);(conv=>arg 4;whnf);first | refine aO ?_ |(refine sN ?_;intro b)| fail));(all_goals refine av ?_)
      refine bF rfl rfl ?_
      (repeat' ((try refine aw ?_);(conv=>arg 4;whnf);first | refine aO ?_ |(refine sN ?_;intro b)| fail));(all_goals refine av ?_)
      apply xE [mbk] (X:=Nat×List UInt8) (Y:=List UInt8) (fun x=> [(17,vI x.1)]) (fun x=>x.1≤4∧x.2.length=16) (fun x=> [iB mbk (bE x.2) 546]) (fun x=>4-x.1) (0,M) (fun M=>M.length=16)
      ·exact ⟨Nat.zero_le _,hm⟩
      ·rfl
      ·((((repeat' (first | with_reducible exact ar _ | exact am _ | refine aE ?_ ?_ | fail))<;>(try with_reducible rfl)))<;>rfl)
      ·skip
       rintro KK6 HH6 ⟨r,M⟩ ⟨hr5,hm⟩
       (conv=>arg 2;simp only [List.cons_append,List.nil_append])
       dsimp only at hr5 hm⊢
       by_cases h6:r<4
       ·(repeat' ((try refine aw ?_);(conv=>arg 4;whnf);first | refine aO ?_ |(refine sN ?_;intro b)| fail));(all_goals refine av ?_)
        refine bF rfl rfl ?_
        (repeat' ((try refine aw ?_);(conv=>arg 4;whnf);first | refine aO ?_ |(refine sN ?_;intro b)| fail));(all_goals refine av ?_)
        exact jV (r+1,List.set M _ _) ⟨h6,by dsimp only;rw [List.length_set];exact hm⟩ cD (by dsimp only;omega) bu
       ·obtain rfl:r=4:=by omega
        (repeat' ((try refine aw ?_);(conv=>arg 4;whnf);first | refine aO ?_ |(refine sN ?_;intro b)| fail));(all_goals refine av ?_)
        exact (HH6 M hm).go
      intro M hm
      (repeat' ((try refine aw ?_);(conv=>arg 4;whnf);first | refine aO ?_ |(refine sN ?_;intro b)| fail));(all_goals refine av ?_)
      exact jV (c+1,M,T) ⟨h4,hm,hT⟩ cD (by dsimp only;omega) bu
    ·obtain rfl:c=4:=by omega
     (repeat' ((try refine aw ?_);(conv=>arg 4;whnf);first | refine aO ?_ |(refine sN ?_;intro b)| fail));(all_goals refine av ?_)
     exact (HH5 M T hm).go
   intro M T hm
   (repeat' ((try refine aw ?_);(conv=>arg 4;whnf);first | refine aO ?_ |(refine sN ?_;intro b)| fail));(all_goals refine av ?_)
   exact jV (k+1,M) ⟨h,hm⟩ (by (((repeat' (first | with_reducible exact ar _ | exact am _ | refine aE ?_ ?_ | fail))<;>(try with_reducible rfl)))<;>rfl) (by dsimp only;omega) bu
  ·obtain rfl:k=10:=by omega
   (repeat' ((try refine aw ?_);(conv=>arg 4;whnf);first | refine aO ?_ |(refine sN ?_;intro b)| fail));(all_goals refine av ?_)
   exact (HH2 M hm).go
 intro M hm
 (repeat' ((try refine aw ?_);(conv=>arg 4;whnf);first | refine aO ?_ |(refine sN ?_;intro b)| fail));(all_goals refine av ?_)
 revert b;intro obn
 refine fL obn (bE (List.replicate 16 0)) rfl ?_
 refine dh [obn] (X:=Nat×List UInt8) (fun x=> [(19,vI x.1)]) (fun x=>x.1≤16∧x.2.length=16) (fun x=> [iB obn (bE x.2) 31]) (fun x=>16-x.1) (0,List.replicate 16 0) ⟨Nat.zero_le _,rfl⟩ rfl (by (((repeat' (first | with_reducible exact ar _ | exact am _ | refine aE ?_ ?_ | fail))<;>(try with_reducible rfl)))<;>rfl) ?_
 rintro ⟨i,Q⟩ ⟨hi2,hq⟩
 (conv=>arg 2;simp only [List.cons_append,List.nil_append])
 dsimp only at hi2 hq⊢
 by_cases h5:i<16
 ·(repeat' ((try refine aw ?_);(conv=>arg 4;whnf);first | refine aO ?_ |(refine sN ?_;intro b)| fail));(all_goals refine av ?_)
  exact jV (i+1,List.set Q _ _) ⟨h5,by dsimp only;rw [List.length_set];exact hq⟩ cD (by dsimp only;omega) bu
 ·obtain rfl:i=16:=by omega
  (repeat' ((try refine aw ?_);(conv=>arg 4;whnf);first | refine aO ?_ |(refine sN ?_;intro b)| fail));(all_goals refine av ?_)
  exact aD (⟨Q,hq⟩:B16) True.intro rfl (am _) bu
end Go.Proofs.YtbobhnldhpjdlaaGreatDoor
