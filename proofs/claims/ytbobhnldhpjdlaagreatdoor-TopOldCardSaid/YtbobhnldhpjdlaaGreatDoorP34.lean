/- Lemmas and walks: what each function does, by its own code. No condition beyond those of each statement. -/
import Derived.Test.YtbobhnldhpjdlaaGreatDoorP15
import Derived.Test.YtbobhnldhpjdlaaGreatDoorP20
import Derived.Test.YtbobhnldhpjdlaaGreatDoorP29
import Derived.Test.YtbobhnldhpjdlaaGreatDoorP33
set_option linter.all false
set_option linter.unusedVariables false
namespace Go.Proofs.YtbobhnldhpjdlaaGreatDoor
open Go Go.RowKit Go.Cs Go.Cz
set_option maxRecDepth 100000
set_option maxHeartbeats 4000000
theorem mE {n:Nat} {ts:List Nod} {l j w:Nat} (hw:w<prt n (l+1) j) (h:gY n ts (l+1) j=0) (h0:∀j,j<cnt n 0→gY n ts 0 j=0) (hlt:4*j+w<cnt n l):
  (((ts.getD (num n (l+1)+j) default).es.l.getD ((4*j+w)%4) default).st=0∧mQ n ts l (4*j+w)=true)∨
  (¬((ts.getD (num n (l+1)+j) default).es.l.getD ((4*j+w)%4) default).st=0∧mQ n ts l (4*j+w)=false∧((ts.getD (num n (l+1)+j) default).es.l.getD ((4*j+w)%4) default).dg=bI (aM (ts.getD (num n l+(4*j+w)) default))):=by
 have hp4:prt n (l+1) j≤4:=Nat.min_le_left _ _
 have hm:(4*j+w)%4=w:=by omega
 rw [hm]
 have hf:=dR h
 have h1:=h
 rw [Fv (fun g=>g hf) (Nat.succ_ne_zero l),bB] at h1
 have h2:=h1 w hw
 unfold yO at h2
 simp only [Nat.add_sub_cancel] at h2
 rw [←sg h0 hlt] at h2
 change (if ((mQ n ts l (4*j+w)=true↔((ts.getD (num n (l+1)+j) default).es.l.getD w default).st=0)∧(((ts.getD (num n (l+1)+j) default).es.l.getD w default).st=0∨((ts.getD (num n (l+1)+j) default).es.l.getD w default).dg.l=(bI (aM (ts.getD (num n l+(4*j+w)) default))).l)) then 0 else 9)=0 at h2
 split at h2
 ·next hq=>
  by_cases hs:((ts.getD (num n (l+1)+j) default).es.l.getD w default).st=0
  ·exact .inl ⟨hs,hq.1.2 hs⟩
  ·refine .inr ⟨hs, ?_, ?_⟩
   ·cases he:mQ n ts l (4*j+w) with
    | false=>rfl
    | true=>exact absurd (hq.1.1 he) hs
   ·rcases hq.2 with g | g
    ·exact absurd g hs
    ·exact Dig.ext' g
 ·cases h2
theorem MP {n:Nat} {ts:List Nod} {l j w:Nat} (hl:l≠0) (hw:w<prt n l j) (h:gY n ts l j=0) (h0:∀j,j<cnt n 0→gY n ts 0 j=0) (hlt:4*j+w<cnt n (l-1)):
  (((ts.getD (num n l+j) default).es.l.getD ((4*j+w)%4) default).st=0∧mQ n ts (l-1) (4*j+w)=true)∨
  (¬((ts.getD (num n l+j) default).es.l.getD ((4*j+w)%4) default).st=0∧mQ n ts (l-1) (4*j+w)=false∧((ts.getD (num n l+j) default).es.l.getD ((4*j+w)%4) default).dg=bI (aM (ts.getD (num n (l-1)+(4*j+w)) default))):=by
 obtain ⟨k,rfl⟩:∃k,l=k+1:=⟨l-1,by omega⟩
 exact mE hw h h0 hlt
theorem Fc {n l:Nat} (hl:l≠0):cnt n l=jR (cnt n (l-1))∧prt n l 0≤4∧(∀j,prt n l j=min 4 (cnt n (l-1)-4*j))∧num n l=num n (l-1)+cnt n (l-1):=by
 obtain ⟨k,rfl⟩:∃k,l=k+1:=⟨l-1,by omega⟩
 exact ⟨rfl,Nat.min_le_left _ _,fun j=>rfl,rfl⟩
theorem FS {n tb to m c:Nat} {a1:Option Addr} {n1 c1:Nat} {a2:Option Addr} {n2 c2:Nat} {ts:List Nod} {q:Value×Value} (h1:1≤n) (h2:n≤4096) (ht:ts.length=tot n) (hT:l6 n ts=0):Zp Tryz.prog 231 [vA (cd ⟨n,(a1,n1,c1),(a2,n2,c2)⟩),vA (cy ⟨n,(some ⟨tb,to,none⟩,m,c)⟩)] [] [Sl aU (some ⟨tb,to,none⟩) m c ts,Sl cI a1 n1 c1 (eW n (hgt n+1)),Sl cI a2 n2 c2 (dC n (hgt n+1)),Gs q] Unit (fun _=>True) (fun _=> .nilIface) (fun _=> []) (fun _=> []):=by
 have h5:=a8 n
 have htl:=eR h1 h2
 have hnd:∀l j,l≤hgt n→j<cnt n l→gY n ts l j=0:=fun l j hl hj=>e9 hT hl hj
 have hcl:=dA n (hgt n+1)
 refine ak fun G=> ?_
 refine aS 1 ?_
 intro hn hc hm ha
 rw [dA] at hn
 subst hn
 obtain ⟨b1,o1,rfl⟩:=ha (by omega) (by decide)
 refine aS 0 ?_
 intro hn hc' hm' ha'
 subst hn
 (repeat' ((try refine aw ?_);(conv=>arg 4;whnf);first | refine az ?_ |(refine sN ?_;intro b)|(refine sC ?_ ?_<;>intro h)|(refine au ?_ ?_<;>intro h<;>try contradiction)|(refine aa ?_;intro g c')| refine ae ?_ | refine ai ?_ | exact ax |(refine aj rfl ?_;intro D lL)| refine af ?_ ?_ | refine ah ?_ ?_ ?_ | fail));(all_goals refine av ?_)
 rename_i tlb ttb bl bs
 revert b;intro bf
 refine bG bs ?_
 refine bG bl ?_
 refine bG bf ?_
 refine bG ttb ?_
 refine bG tlb ?_
 have hz:=fun l j hl hj=>Ja (b2:=bs) (b3:=bl) (b4:=bf) (tb:=tb) (to:=to) (m:=ts.length) (c:=c) (a1:=some ⟨b1,o1,none⟩) (n1:=hgt n+1) (c1:=c1) (a2:=a2) (n2:=n2) (c2:=c2) h1 h2 ht l j hl hj
 unfold Kf at hz
 clear htl
 refine sV [2,3,5,20,21,4,22] ?_
 (conv=>arg 4;whnf)
 apply q4 [] (X:=Nat) (fun l=> [(4, .nilIface),(22,vI l)]) (fun l=>l≤hgt n+1) (fun l=> []) (fun l=>hgt n+1-l) 0
 ·exact Nat.zero_le _
 ·rfl
 ·exact ar _
 ·intro K H l hl
  (conv=>arg 2;simp only [List.cons_append,List.nil_append])
  by_cases hl1:l<hgt n+1
  ·have hg:(eW n (hgt n+1)).getD l default=cnt n l:=ia (by omega)
   have hcn:=cH n l
   (repeat' ((try refine aw ?_);(conv=>arg 4;whnf);first | refine az ?_ |(refine sN ?_;intro b)|(refine sC ?_ ?_<;>intro h)|(refine au ?_ ?_<;>intro h<;>try contradiction)|(refine aa ?_;intro g c')| refine ae ?_ | refine ai ?_ | exact ax |(refine aj rfl ?_;intro D lL)| refine af ?_ ?_ | refine ah ?_ ?_ ?_ | fail));(all_goals refine av ?_)
   rw [hg]
   refine sV [2,3,5,20,21,22,6,27,4,28] ?_
   (conv=>arg 4;whnf)
   apply q4 [] (X:=Nat) (fun j=> [(4, .nilIface),(28,vI j)]) (fun j=>j≤cnt n l) (fun j=> []) (fun j=>cnt n l-j) 0
   ·exact Nat.zero_le _
   ·rfl
   ·exact ar _
   ·intro K2 H2 j hj
    (conv=>arg 2;simp only [List.cons_append,List.nil_append])
    by_cases hj1:j<cnt n l
    ·have hE:=hnd l j (by omega) hj1
     obtain ⟨hlv,hix,hfit⟩:=dR hE
     change (ts.getD (num n l+j) default).lv=l at hlv
     change (ts.getD (num n l+j) default).ix=j at hix
     change fj n (ts.getD (num n l+j) default)=0 at hfit
     have hnl:=c7 n (l:=l+1) (m:=hgt n+1) (by omega)
     have hnt:num n l+j<ts.length:=by rw [ht,tot];simp only [num] at hnl⊢;omega
     by_cases hl0:l=0
     ·(repeat' ((try refine aw ?_);(conv=>arg 4;whnf);first | refine az ?_ |(refine sN ?_;intro b)|(refine sC ?_ ?_<;>intro h)|(refine au ?_ ?_<;>intro h<;>try contradiction)|(refine aa ?_;intro g c')|((first | refine aA (sJ (n:=n) h2 (l:=l) (j:=j) (by omega) (by omega)) ?_ | refine aA (kI (y:=ts.getD (num n l+j) default) h1 h2 hfit) ?_);intro x hx;refine aH ?_)| refine ae ?_ | refine ai ?_ | exact ax |(refine aj rfl ?_;intro D lL)| refine af ?_ ?_ | refine ah ?_ ?_ ?_ | fail));(all_goals refine av ?_)
      exact jV (j+1) (by omega) cD (by omega)
     ·obtain ⟨hcj,_,hpr,hnk2⟩:=Fc (n:=n) hl0
      have hpd:=hpr j
      clear hpr
      have hg1:(eW n (hgt n+1)).getD (l-1) default=cnt n (l-1):=ia (by omega)
      have hcnk:=cH n (l-1)
      have hp4:prt n l j≤4:=Nat.min_le_left _ _
      have hpa:4*j+prt n l j≤cnt n (l-1):=by unfold jR at hcj;omega
      have hmin:min (4*(j+1)) ((eW n (hgt n+1)).getD (l-1) default)=4*j+prt n l j:=by unfold jR at hcj;rw [hg1];omega
      clear hpd hcj
      have hnk:=c7 n (l:=l) (m:=hgt n+1) (by omega)
      (repeat' ((try refine aw ?_);(conv=>arg 4;whnf);first | refine az ?_ |(refine sN ?_;intro b)|(refine sC ?_ ?_<;>intro h)|(refine au ?_ ?_<;>intro h<;>try contradiction)|(refine aa ?_;intro g c')|((first | refine aA (sJ (n:=n) h2 (l:=l) (j:=j) (by omega) (by omega)) ?_ | refine aA (kI (y:=ts.getD (num n l+j) default) h1 h2 hfit) ?_);intro x hx;refine aH ?_)| refine ae ?_ | refine ai ?_ | exact ax |(refine aj rfl ?_;intro D lL)| refine af ?_ ?_ | refine ah ?_ ?_ ?_ | fail));(all_goals refine av ?_)
      have hmE:=fun (w:Nat) (hw:w<prt n l j)=>MP hl0 hw hE (fun q=>hnd 0 q (Nat.zero_le _)) (show 4*j+w<cnt n (l-1) by omega)
      revert b;intro nb
      refine bG nb ?_
      generalize hpp:prt n l j=p at hp4 hpa hmin hmE
      refine sV [2,3,5,20,21,22,6,27,28,8,9,10,4,11] ?_
      (conv=>arg 4;whnf)
      apply q4 [] (X:=Nat) (fun w=> [(4, .nilIface),(11,vI (4*j+w))]) (fun w=>w≤p) (fun w=> []) (fun w=>4-w) 0
      ·exact Nat.zero_le _
      ·rfl
      ·exact ar _
      ·intro K3 H3 w hw
       (conv=>arg 2;simp only [List.cons_append,List.nil_append])
       by_cases hw1:w<p
       ·have hlt:4*j+w<cnt n (l-1):=by omega
        have hnt2:num n (l-1)+(4*j+w)<ts.length:=by rw [ht,tot];omega
        have hz2:=hz (l-1) (4*j+w) (by omega) hlt
        have hcY:bA (ts.getD (num n (l-1)+(4*j+w)) default)=0:=(cA (dR (hnd (l-1) (4*j+w) (by omega) hlt)).2.2).1
        have hnum:=sJ (n:=n) (s1:=(some ⟨b1,o1,none⟩,hgt n+1,c1)) (s2:=(a2,n2,c2)) h2 (l:=l-1) (j:=4*j+w) (by omega) (by omega)
        have hdig:=jB (q:=q) hcY
        have hmW:=hmE w hw1
        obtain ⟨dg,hdg⟩:∃d,d=bI (aM (ts.getD (num n (l-1)+(4*j+w)) default)):=⟨_,rfl⟩
        rw [←hdg] at hdig hmW
        (repeat' ((try refine aw ?_);(conv=>arg 4;whnf);first | refine aO ?_ |(refine sN ?_;intro b)|(refine sC ?_ ?_<;>intro h)|(refine au ?_ ?_<;>intro h<;>try contradiction)|(refine aa ?_;intro g c')| refine ae ?_ | refine ai ?_ | exact ax |(refine aj rfl ?_;intro D lL)| refine af ?_ ?_ | refine ah ?_ ?_ ?_ | fail));(all_goals refine av ?_)
        revert b;intro eb
        refine bG eb ?_
        refine BD [2,3,4,5,6,9,11,12,20,21,22,27,28,8,10] ?_
        (conv=>arg 4;whnf)
        refine eD (X:=Nat) (fun x=> [(2,vP tlb 0),(3,vP ttb 0),(4, .nilIface),(5, .func (.func 324) #[] #[vP bs 0,vP bl 0,vP bf 0]),(6,vI l),(9,vI (num n l+j)),(20, .slice (some ⟨b1,o1,none⟩) (hgt n+1) c1),(21,vI (hgt n+1)),(22,vI l),(27,vI (cnt n l)),(28,vI j),(8,vI j),(10,vP nb 0),(11,vI (4*j+w)),(12,vP eb 0),(13,vP x 0)]) (fun _=>True) (fun x=> [iB x (ay dg) 66]) (fun _=> []) ?_ ?_
        ·intro K4
         refine gM [] [Bk tlb (cd ⟨n,(some ⟨b1,o1,none⟩,hgt n+1,c1),(a2,n2,c2)⟩),Bk ttb (cy ⟨n,(some ⟨tb,to,none⟩,ts.length,c)⟩),Sl aU (some ⟨tb,to,none⟩) ts.length c ts] (am _) bu rfl ?_
         (repeat' ((try refine aw ?_);(conv=>arg 4;whnf);first | refine yH ?_ |(refine sN ?_;intro b)|(refine sC ?_ ?_<;>intro h)|(refine au ?_ ?_<;>intro h<;>try contradiction)|(refine aa ?_;intro g c')|((first | refine aA hnum ?_ | refine aA hdig ?_);intro x hx;refine aH ?_)| refine ae ?_ | refine ai ?_ | exact ax |(refine aj rfl ?_;intro D lL)| refine af ?_ ?_ | refine ah ?_ ?_ ?_ | fail));(all_goals refine av ?_)
         all_goals (
          revert b;intro db
          exact d9 db True.intro cD bu)
        intro db _
        (conv=>arg 2;simp only [List.cons_append,List.nil_append])
        (conv=>arg 3;simp only [List.cons_append,List.nil_append])
        (repeat' ((try refine aw ?_);(conv=>arg 4;whnf);first | refine aO ?_ |(refine sN ?_;intro b)|(refine sC ?_ ?_<;>intro h)|(refine au ?_ ?_<;>intro h<;>try contradiction)|(refine aa ?_;intro g c')| refine ae ?_ | refine ai ?_ | exact ax |(refine aj rfl ?_;intro D lL)| refine af ?_ ?_ | refine ah ?_ ?_ ?_ | fail));(all_goals refine av ?_)
        refine bG db ?_
        refine eD (X:=Unit) (fun x=> [(2,vP tlb 0),(3,vP ttb 0),(4, .nilIface),(5, .func (.func 324) #[] #[vP bs 0,vP bl 0,vP bf 0]),(6,vI l),(9,vI (num n l+j)),(20, .slice (some ⟨b1,o1,none⟩) (hgt n+1) c1),(21,vI (hgt n+1)),(22,vI l),(27,vI (cnt n l)),(28,vI j),(8,vI j),(10,vP nb 0),(11,vI (4*j+w)),(117, .bool false)]) (fun _=>True) (fun x=> []) (fun _=> []) ?_ ?_
        ·intro K4
         rcases hmW with ⟨hs,he⟩|⟨hs,he,hd⟩
         ·rw [he] at hz2
          refine gM [] [Bk eb (c6 ((ts.getD (num n l+j) default).es.l.getD ((4*j+w)%4) default)),Bk db (ay dg)] (am _) bu rfl ?_
          (repeat' ((try refine aw ?_);(conv=>arg 4;whnf);first | refine yH ?_ |(refine sN ?_;intro b)|(refine sC ?_ ?_<;>intro h)|(refine au ?_ ?_<;>intro h<;>try contradiction)|(refine aa ?_;intro g c')|(refine sK hz2 ?_;intro x hx;refine aH ?_)| refine ae ?_ | refine ai ?_ | exact ax |(refine aj rfl ?_;intro D lL)| refine af ?_ ?_ | refine ah ?_ ?_ ?_ | fail));(all_goals refine av ?_)
          exact d9 () True.intro (am _) bu
         ·rw [he] at hz2
          refine gM [] [Bk eb (c6 ((ts.getD (num n l+j) default).es.l.getD ((4*j+w)%4) default)),Bk db (ay dg)] (am _) bu rfl ?_
          (repeat' ((try refine aw ?_);(conv=>arg 4;whnf);first | refine yH ?_ |(refine sN ?_;intro b)|(refine sC ?_ ?_<;>intro h)|(refine au ?_ ?_<;>intro h<;>try contradiction)|(refine aa ?_;intro g c')|(refine sK hz2 ?_;intro x hx;refine aH ?_)| refine ae ?_ | refine ai ?_ | exact ax |(refine aj rfl ?_;intro D lL)| refine af ?_ ?_ | refine ah ?_ ?_ ?_ | fail));(all_goals refine av ?_)
          (conv=>arg 4;arg 5;ext C;whnf)
          refine cR ?_ (qK hd)
          (repeat' ((try refine aw ?_);(conv=>arg 4;whnf);first | refine yH ?_ |(refine sN ?_;intro b)|(refine sC ?_ ?_<;>intro h)|(refine au ?_ ?_<;>intro h<;>try contradiction)|(refine aa ?_;intro g c')|(refine sK hz2 ?_;intro x hx;refine aH ?_)| refine ae ?_ | refine ai ?_ | exact ax |(refine aj rfl ?_;intro D lL)| refine af ?_ ?_ | refine ah ?_ ?_ ?_ | fail));(all_goals refine av ?_)
          exact d9 () True.intro (am _) bu
        intro _ _
        (conv=>arg 2;simp only [List.cons_append,List.nil_append])
        (conv=>arg 3;simp only [List.cons_append,List.nil_append])
        (repeat' ((try refine aw ?_);(conv=>arg 4;whnf);first | refine aO ?_ |(refine sN ?_;intro b)|(refine sC ?_ ?_<;>intro h)|(refine au ?_ ?_<;>intro h<;>try contradiction)|(refine aa ?_;intro g c')| refine ae ?_ | refine ai ?_ | exact ax |(refine aj rfl ?_;intro D lL)| refine af ?_ ?_ | refine ah ?_ ?_ ?_ | fail));(all_goals refine av ?_)
        exact jV (w+1) (by omega) cD (by omega)
       ·obtain rfl:w=p:=by omega
        (repeat' ((try refine aw ?_);(conv=>arg 4;whnf);first | refine az ?_ |(refine sN ?_;intro b)|(refine sC ?_ ?_<;>intro h)|(refine au ?_ ?_<;>intro h<;>try contradiction)|(refine aa ?_;intro g c')| refine ae ?_ | refine ai ?_ | exact ax |(refine aj rfl ?_;intro D lL)| refine af ?_ ?_ | refine ah ?_ ?_ ?_ | fail));(all_goals refine av ?_)
        exact H3.go
      ·(repeat' ((try refine aw ?_);(conv=>arg 4;whnf);first | refine az ?_ |(refine sN ?_;intro b)|(refine sC ?_ ?_<;>intro h)|(refine au ?_ ?_<;>intro h<;>try contradiction)|(refine aa ?_;intro g c')| refine ae ?_ | refine ai ?_ | exact ax |(refine aj rfl ?_;intro D lL)| refine af ?_ ?_ | refine ah ?_ ?_ ?_ | fail));(all_goals refine av ?_)
       exact jV (j+1) (by omega) cD (by omega)
    ·obtain rfl:j=cnt n l:=by omega
     (repeat' ((try refine aw ?_);(conv=>arg 4;whnf);first | refine az ?_ |(refine sN ?_;intro b)|(refine sC ?_ ?_<;>intro h)|(refine au ?_ ?_<;>intro h<;>try contradiction)|(refine aa ?_;intro g c')| refine ae ?_ | refine ai ?_ | exact ax |(refine aj rfl ?_;intro D lL)| refine af ?_ ?_ | refine ah ?_ ?_ ?_ | fail));(all_goals refine av ?_)
     exact H2.go
   ·(repeat' ((try refine aw ?_);(conv=>arg 4;whnf);first | refine az ?_ |(refine sN ?_;intro b)|(refine sC ?_ ?_<;>intro h)|(refine au ?_ ?_<;>intro h<;>try contradiction)|(refine aa ?_;intro g c')| refine ae ?_ | refine ai ?_ | exact ax |(refine aj rfl ?_;intro D lL)| refine af ?_ ?_ | refine ah ?_ ?_ ?_ | fail));(all_goals refine av ?_)
    exact jV (l+1) (by omega) cD (by omega)
  ·obtain rfl:l=hgt n+1:=by omega
   (repeat' ((try refine aw ?_);(conv=>arg 4;whnf);first | refine az ?_ |(refine sN ?_;intro b)|(refine sC ?_ ?_<;>intro h)|(refine au ?_ ?_<;>intro h<;>try contradiction)|(refine aa ?_;intro g c')| refine ae ?_ | refine ai ?_ | exact ax |(refine aj rfl ?_;intro D lL)| refine af ?_ ?_ | refine ah ?_ ?_ ?_ | fail));(all_goals refine av ?_)
   exact H.go
 ·(repeat' ((try refine aw ?_);(conv=>arg 4;whnf);first | refine az ?_ |(refine sN ?_;intro b)|(refine sC ?_ ?_<;>intro h)|(refine au ?_ ?_<;>intro h<;>try contradiction)|(refine aa ?_;intro g c')| refine ae ?_ | refine ai ?_ | exact ax |(refine aj rfl ?_;intro D lL)| refine af ?_ ?_ | refine ah ?_ ?_ ?_ | fail));(all_goals refine av ?_)
end Go.Proofs.YtbobhnldhpjdlaaGreatDoor
namespace Go.Proofs.YtbobhnldhpjdlaaGreatDoor
open Go Go.RowKit Go.Cs Go.Cz
set_option maxRecDepth 100000
set_option maxHeartbeats 4000000
instance:Mi Tryz.prog 403:=⟨fun v w=>by kernel_rfl⟩
theorem tM:Zp Tryz.prog 149 [.nilIface] [] [] Unit (fun _=>True) (fun _=>vI 0) (fun _=> []) (fun _=> []):=by
 refine ak fun G=> ?_
 (repeat' ((try refine aw ?_);(conv=>arg 4;whnf);first | refine az ?_ |(refine sN ?_;intro b)|(refine sC ?_ ?_<;>intro h)|(refine au ?_ ?_<;>intro h<;>try contradiction)|(refine aa ?_;intro g c')| refine ae ?_ | refine ai ?_ | exact ax |(refine aj rfl ?_;intro D lL)| refine af ?_ ?_ | refine ah ?_ ?_ ?_ | fail));(all_goals refine av ?_)
 refine nF nK ?_
 (repeat' ((try refine aw ?_);(conv=>arg 4;whnf);first | refine az ?_ |(refine sN ?_;intro b)|(refine sC ?_ ?_<;>intro h)|(refine au ?_ ?_<;>intro h<;>try contradiction)|(refine aa ?_;intro g c')| refine ae ?_ | refine ai ?_ | exact ax |(refine aj rfl ?_;intro D lL)| refine af ?_ ?_ | refine ah ?_ ?_ ?_ | fail));(all_goals refine av ?_)
section
variable {n tb to m c:Nat} {ts:List Nod} {q:Value×Value}
theorem GK (h1:1≤n) (h2:n≤4096) (ht:ts.length=tot n) (hT:l6 n ts=0):Zp Tryz.prog 151 [vA (cy ⟨n,(some ⟨tb,to,none⟩,m,c)⟩)] [] [Sl aU (some ⟨tb,to,none⟩) m c ts,Gs q] (Sv×Sv) (fun _=>True) (fun x=> .tuple #[vA (cd ⟨n,x.1,x.2⟩),vI 0]) (fun _=> []) (fun x=> [Sl cI x.1.1 x.1.2.1 x.1.2.2 (eW n (hgt n+1)),Sl cI x.2.1 x.2.2.1 x.2.2.2 (dC n (hgt n+1))]):=by
 refine ak fun G=> ?_
 refine aS 0 ?_
 intro hn hc hm ha
 subst hn
 (repeat' ((try refine aw ?_);(conv=>arg 4;whnf);first | refine aO ?_ |(refine sN ?_;intro b)|(refine sC ?_ ?_<;>intro h)|(refine au ?_ ?_<;>intro h<;>try contradiction)|(refine aa ?_;intro g c')|(refine cw (G4 h1 h2) ?_;intro x hx;refine bV ?_)| refine ae ?_ | refine ai ?_ | exact ax |(refine aj rfl ?_;intro D lL)| refine af ?_ ?_ | refine ah ?_ ?_ ?_ | fail));(all_goals refine av ?_)
 obtain ⟨⟨a1,n1,c1⟩,a2,n2,c2⟩:=x
 dsimp only
 (repeat' ((try refine aw ?_);(conv=>arg 4;whnf);first | refine az ?_ |(refine sN ?_;intro b)|(refine sC ?_ ?_<;>intro h)|(refine au ?_ ?_<;>intro h<;>try contradiction)|(refine aa ?_;intro g c')|((first | refine aA (Fl h1 h2) ?_ | refine aA (FS h1 h2 ht hT) ?_ | refine aA tM ?_);intro x hx;refine aH ?_)| refine ae ?_ | refine ai ?_ | exact ax |(refine aj rfl ?_;intro D lL)| refine af ?_ ?_ | refine ah ?_ ?_ ?_ | fail));(all_goals refine av ?_)
 exact aD ((a1,n1,c1),a2,n2,c2) True.intro rfl (am _) bu
theorem zh (h1:1≤n) (h2:n≤4096) (ht:ts.length=tot n) (hT:l6 n ts=0):Zp Tryz.prog 142 [vA (cy ⟨n,(some ⟨tb,to,none⟩,m,c)⟩)] [] [Sl aU (some ⟨tb,to,none⟩) m c ts,Gs q] Unit (fun _=>True) (fun x=>vI 0) (fun _=> []) (fun _=> []):=by
 refine ak fun G=> ?_
 refine aS 0 ?_
 intro hn hc hm ha
 subst hn
 (repeat' ((try refine aw ?_);(conv=>arg 4;whnf);first | refine az ?_ |(refine sN ?_;intro b)|(refine sC ?_ ?_<;>intro h)|(refine au ?_ ?_<;>intro h<;>try contradiction)|(refine aa ?_;intro g c')|(refine aA (GK (q:=q) h1 h2 ht hT) ?_;intro x hx;refine aH ?_)| refine ae ?_ | refine ai ?_ | exact ax |(refine aj rfl ?_;intro D lL)| refine af ?_ ?_ | refine ah ?_ ?_ ?_ | fail));(all_goals refine av ?_)
theorem Mt (h1:1≤n) (h2:n≤4096) (ht:ts.length=tot n) (hT:l6 n ts=0) (hd:bA (ts.getD (ts.length-1) default)=0):Zp Tryz.prog 43 [vA (cy ⟨n,(some ⟨tb,to,none⟩,m,c)⟩)] [] [Sl aU (some ⟨tb,to,none⟩) m c ts,Gs q] Unit (fun _=>True) (fun x=> .tuple #[vA (ay (bI (aM (ts.getD (ts.length-1) default)))),vI 0]) (fun _=> []) (fun _=> []):=by
 have hpos:0<ts.length:=by have:=d7 (n:=n) (l:=hgt n) (j:=0) (Nat.le_refl _) (dk h1 _);omega
 have htl:ts.length≤24576:=by rw [ht];exact b9 h2
 refine ak fun G=> ?_
 refine aS 0 ?_
 intro hn hc hm ha
 subst hn
 (repeat' ((try refine aw ?_);(conv=>arg 4;whnf);first | refine az ?_ |(refine sN ?_;intro b)|(refine sC ?_ ?_<;>intro h)|(refine au ?_ ?_<;>intro h<;>try contradiction)|(refine aa ?_;intro g c')|((first | refine aA (zh (q:=q) h1 h2 ht hT) ?_ | refine aA (jB (q:=q) hd) ?_);intro x hx;refine aH ?_)| refine ae ?_ | refine ai ?_ | exact ax |(refine aj rfl ?_;intro D lL)| refine af ?_ ?_ | refine ah ?_ ?_ ?_ | fail));(all_goals refine av ?_)
end
end Go.Proofs.YtbobhnldhpjdlaaGreatDoor
