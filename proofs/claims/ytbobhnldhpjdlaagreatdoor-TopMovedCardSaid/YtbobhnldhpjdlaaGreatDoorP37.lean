/- Lemmas and walks: what each function does, by its own code. No condition beyond those of each statement. -/
import Derived.Test.YtbobhnldhpjdlaaGreatDoorP15
import Derived.Test.YtbobhnldhpjdlaaGreatDoorP27
import Derived.Test.YtbobhnldhpjdlaaGreatDoorP29
import Derived.Test.YtbobhnldhpjdlaaGreatDoorP36
set_option linter.all false
set_option linter.unusedVariables false
namespace Go.Proofs.YtbobhnldhpjdlaaGreatDoor
open Go Go.RowKit Go.Cs Go.Cz
set_option maxRecDepth 100000
set_option maxHeartbeats 4000000
theorem mE {n:Nat} {ts:List Nod} {l j w:Nat} (hw:w<prt n (l+1) j) (h:iA n ts (l+1) j=0) (h0:∀j,j<cnt n 0→iA n ts 0 j=0) (hlt:4*j+w<cnt n l):
  (((ts.getD (num n (l+1)+j) default).es.l.getD ((4*j+w)%4) default).st=0∧m0 n ts l (4*j+w)=true)∨
  (¬((ts.getD (num n (l+1)+j) default).es.l.getD ((4*j+w)%4) default).st=0∧m0 n ts l (4*j+w)=false∧((ts.getD (num n (l+1)+j) default).es.l.getD ((4*j+w)%4) default).dg=cq (aL (ts.getD (num n l+(4*j+w)) default))):=by
 have hp4:prt n (l+1) j≤4:=Nat.min_le_left _ _
 have hm:(4*j+w)%4=w:=by omega
 rw [hm]
 have hf:=eM h
 have h1:=h
 rw [Fl (fun g=>g hf) (Nat.succ_ne_zero l),cg] at h1
 have h2:=h1 w hw
 unfold xM at h2
 simp only [Nat.add_sub_cancel] at h2
 rw [←t3 h0 hlt] at h2
 change (if ((m0 n ts l (4*j+w)=true↔((ts.getD (num n (l+1)+j) default).es.l.getD w default).st=0)∧(((ts.getD (num n (l+1)+j) default).es.l.getD w default).st=0∨((ts.getD (num n (l+1)+j) default).es.l.getD w default).dg.l=(cq (aL (ts.getD (num n l+(4*j+w)) default))).l)) then 0 else 9)=0 at h2
 split at h2
 ·next hq=>
  by_cases hs:((ts.getD (num n (l+1)+j) default).es.l.getD w default).st=0
  ·exact .inl ⟨hs,hq.1.2 hs⟩
  ·refine .inr ⟨hs, ?_, ?_⟩
   ·cases he:m0 n ts l (4*j+w) with
    | false=>rfl
    | true=>exact absurd (hq.1.1 he) hs
   ·rcases hq.2 with g | g
    ·exact absurd g hs
    ·exact Dig.ext' g
 ·cases h2
theorem LV {n:Nat} {ts:List Nod} {l j w:Nat} (hl:l≠0) (hw:w<prt n l j) (h:iA n ts l j=0) (h0:∀j,j<cnt n 0→iA n ts 0 j=0) (hlt:4*j+w<cnt n (l-1)):
  (((ts.getD (num n l+j) default).es.l.getD ((4*j+w)%4) default).st=0∧m0 n ts (l-1) (4*j+w)=true)∨
  (¬((ts.getD (num n l+j) default).es.l.getD ((4*j+w)%4) default).st=0∧m0 n ts (l-1) (4*j+w)=false∧((ts.getD (num n l+j) default).es.l.getD ((4*j+w)%4) default).dg=cq (aL (ts.getD (num n (l-1)+(4*j+w)) default))):=by
 obtain ⟨k,rfl⟩:∃k,l=k+1:=⟨l-1,by omega⟩
 exact mE hw h h0 hlt
theorem GY {n l:Nat} (hl:l≠0):cnt n l=kc (cnt n (l-1))∧prt n l 0≤4∧(∀j,prt n l j=min 4 (cnt n (l-1)-4*j))∧num n l=num n (l-1)+cnt n (l-1):=by
 obtain ⟨k,rfl⟩:∃k,l=k+1:=⟨l-1,by omega⟩
 exact ⟨rfl,Nat.min_le_left _ _,fun j=>rfl,rfl⟩
theorem Fv {n tb to m c:Nat} {a1:Option Addr} {n1 c1:Nat} {a2:Option Addr} {n2 c2:Nat} {ts:List Nod} {q:Value×Value} (h1:1≤n) (h2:n≤4096) (ht:ts.length=tot n) (hT:mQ n ts=0):Zp Tryz.prog 231 [vA (cU ⟨n,(a1,n1,c1),(a2,n2,c2)⟩),vA (di ⟨n,(some ⟨tb,to,none⟩,m,c)⟩)] [] [Sl a7 (some ⟨tb,to,none⟩) m c ts,Sl cI a1 n1 c1 (fM n (hgt n+1)),Sl cI a2 n2 c2 (ed n (hgt n+1)),Gs q] Unit (fun _=>True) (fun _=> .nilIface) (fun _=> []) (fun _=> []):=by
 have h5:=bu n
 have htl:=fY h1 h2
 have hnd:∀l j,l≤hgt n→j<cnt n l→iA n ts l j=0:=fun l j hl hj=>fO hT hl hj
 have hcl:=eg n (hgt n+1)
 refine an fun G=> ?_
 refine bc 1 ?_
 intro hn hc hm ha
 rw [eg] at hn
 subst hn
 obtain ⟨b1,o1,rfl⟩:=ha (by omega) (by decide)
 refine bc 0 ?_
 intro hn hc' hm' ha'
 subst hn
 (repeat' ((try refine au ?_);(conv=>arg 4;whnf);first | refine ax ?_ |(refine sN ?_;intro b)|(refine sC ?_ ?_<;>intro h)|(refine ar ?_ ?_<;>intro h<;>try contradiction)|(refine aa ?_;intro g c')| refine ae ?_ | refine ai ?_ | exact aw |(refine ak rfl ?_;intro D lL)| refine ah ?_ ?_ | refine aj ?_ ?_ ?_ | fail));(all_goals refine av ?_)
 rename_i tlb ttb bl bs
 revert b;intro bf
 refine c7 bs ?_
 refine c7 bl ?_
 refine c7 bf ?_
 refine c7 ttb ?_
 refine c7 tlb ?_
 have hz:=fun l j hl hj=>Ja (b2:=bs) (b3:=bl) (b4:=bf) (tb:=tb) (to:=to) (m:=ts.length) (c:=c) (a1:=some ⟨b1,o1,none⟩) (n1:=hgt n+1) (c1:=c1) (a2:=a2) (n2:=n2) (c2:=c2) h1 h2 ht l j hl hj
 unfold JM at hz
 clear htl
 refine tC [2,3,5,20,21,4,22] ?_
 (conv=>arg 4;whnf)
 apply sq [] (X:=Nat) (fun l=> [(4, .nilIface),(22,vI l)]) (fun l=>l≤hgt n+1) (fun l=> []) (fun l=>hgt n+1-l) 0
 ·exact Nat.zero_le _
 ·rfl
 ·exact am _
 ·intro K H l hl
  (conv=>arg 2;simp only [List.cons_append,List.nil_append])
  by_cases hl1:l<hgt n+1
  ·have hg:(fM n (hgt n+1)).getD l default=cnt n l:=iR (by omega)
   have hcn:=dx n l
   (repeat' ((try refine au ?_);(conv=>arg 4;whnf);first | refine ax ?_ |(refine sN ?_;intro b)|(refine sC ?_ ?_<;>intro h)|(refine ar ?_ ?_<;>intro h<;>try contradiction)|(refine aa ?_;intro g c')| refine ae ?_ | refine ai ?_ | exact aw |(refine ak rfl ?_;intro D lL)| refine ah ?_ ?_ | refine aj ?_ ?_ ?_ | fail));(all_goals refine av ?_)
   rw [hg]
   refine tC [2,3,5,20,21,22,6,27,4,28] ?_
   (conv=>arg 4;whnf)
   apply sq [] (X:=Nat) (fun j=> [(4, .nilIface),(28,vI j)]) (fun j=>j≤cnt n l) (fun j=> []) (fun j=>cnt n l-j) 0
   ·exact Nat.zero_le _
   ·rfl
   ·exact am _
   ·intro K2 H2 j hj
    (conv=>arg 2;simp only [List.cons_append,List.nil_append])
    by_cases hj1:j<cnt n l
    ·have hE:=hnd l j (by omega) hj1
     obtain ⟨hlv,hix,hfit⟩:=eM hE
     change (ts.getD (num n l+j) default).lv=l at hlv
     change (ts.getD (num n l+j) default).ix=j at hix
     change gg n (ts.getD (num n l+j) default)=0 at hfit
     have hnl:=dL n (l:=l+1) (m:=hgt n+1) (by omega)
     have hnt:num n l+j<ts.length:=by rw [ht,tot];simp only [num] at hnl⊢;omega
     by_cases hl0:l=0
     ·(repeat' ((try refine au ?_);(conv=>arg 4;whnf);first | refine ax ?_ |(refine sN ?_;intro b)|(refine sC ?_ ?_<;>intro h)|(refine ar ?_ ?_<;>intro h<;>try contradiction)|(refine aa ?_;intro g c')|((first | refine ay (tf (n:=n) h2 (l:=l) (j:=j) (by omega) (by omega)) ?_ | refine ay (k4 (y:=ts.getD (num n l+j) default) h1 h2 hfit) ?_);intro x hx;refine aN ?_)| refine ae ?_ | refine ai ?_ | exact aw |(refine ak rfl ?_;intro D lL)| refine ah ?_ ?_ | refine aj ?_ ?_ ?_ | fail));(all_goals refine av ?_)
      exact jj (j+1) (by omega) eG (by omega)
     ·obtain ⟨hcj,_,hpr,hnk2⟩:=GY (n:=n) hl0
      have hpd:=hpr j
      clear hpr
      have hg1:(fM n (hgt n+1)).getD (l-1) default=cnt n (l-1):=iR (by omega)
      have hcnk:=dx n (l-1)
      have hp4:prt n l j≤4:=Nat.min_le_left _ _
      have hpa:4*j+prt n l j≤cnt n (l-1):=by unfold kc at hcj;omega
      have hmin:min (4*(j+1)) ((fM n (hgt n+1)).getD (l-1) default)=4*j+prt n l j:=by unfold kc at hcj;rw [hg1];omega
      clear hpd hcj
      have hnk:=dL n (l:=l) (m:=hgt n+1) (by omega)
      (repeat' ((try refine au ?_);(conv=>arg 4;whnf);first | refine ax ?_ |(refine sN ?_;intro b)|(refine sC ?_ ?_<;>intro h)|(refine ar ?_ ?_<;>intro h<;>try contradiction)|(refine aa ?_;intro g c')|((first | refine ay (tf (n:=n) h2 (l:=l) (j:=j) (by omega) (by omega)) ?_ | refine ay (k4 (y:=ts.getD (num n l+j) default) h1 h2 hfit) ?_);intro x hx;refine aN ?_)| refine ae ?_ | refine ai ?_ | exact aw |(refine ak rfl ?_;intro D lL)| refine ah ?_ ?_ | refine aj ?_ ?_ ?_ | fail));(all_goals refine av ?_)
      have hmE:=fun (w:Nat) (hw:w<prt n l j)=>LV hl0 hw hE (fun q=>hnd 0 q (Nat.zero_le _)) (show 4*j+w<cnt n (l-1) by omega)
      revert b;intro nb
      refine c7 nb ?_
      generalize hpp:prt n l j=p at hp4 hpa hmin hmE
      refine tC [2,3,5,20,21,22,6,27,28,8,9,10,4,11] ?_
      (conv=>arg 4;whnf)
      apply sq [] (X:=Nat) (fun w=> [(4, .nilIface),(11,vI (4*j+w))]) (fun w=>w≤p) (fun w=> []) (fun w=>4-w) 0
      ·exact Nat.zero_le _
      ·rfl
      ·exact am _
      ·intro K3 H3 w hw
       (conv=>arg 2;simp only [List.cons_append,List.nil_append])
       by_cases hw1:w<p
       ·have hlt:4*j+w<cnt n (l-1):=by omega
        have hnt2:num n (l-1)+(4*j+w)<ts.length:=by rw [ht,tot];omega
        have hz2:=hz (l-1) (4*j+w) (by omega) hlt
        have hcY:cd (ts.getD (num n (l-1)+(4*j+w)) default)=0:=(dm (eM (hnd (l-1) (4*j+w) (by omega) hlt)).2.2).1
        have hnum:=tf (n:=n) (s1:=(some ⟨b1,o1,none⟩,hgt n+1,c1)) (s2:=(a2,n2,c2)) h2 (l:=l-1) (j:=4*j+w) (by omega) (by omega)
        have hdig:=jI (q:=q) hcY
        have hmW:=hmE w hw1
        obtain ⟨dg,hdg⟩:∃d,d=cq (aL (ts.getD (num n (l-1)+(4*j+w)) default)):=⟨_,rfl⟩
        rw [←hdg] at hdig hmW
        (repeat' ((try refine au ?_);(conv=>arg 4;whnf);first | refine cp ?_ |(refine sN ?_;intro b)|(refine sC ?_ ?_<;>intro h)|(refine ar ?_ ?_<;>intro h<;>try contradiction)|(refine aa ?_;intro g c')| refine ae ?_ | refine ai ?_ | exact aw |(refine ak rfl ?_;intro D lL)| refine ah ?_ ?_ | refine aj ?_ ?_ ?_ | fail));(all_goals refine av ?_)
        revert b;intro eb
        refine c7 eb ?_
        refine yV [2,3,4,5,6,9,11,12,20,21,22,27,28,8,10] ?_
        (conv=>arg 4;whnf)
        refine fS (X:=Nat) (fun x=> [(2,vP tlb 0),(3,vP ttb 0),(4, .nilIface),(5, .func (.func 324) #[] #[vP bs 0,vP bl 0,vP bf 0]),(6,vI l),(9,vI (num n l+j)),(20, .slice (some ⟨b1,o1,none⟩) (hgt n+1) c1),(21,vI (hgt n+1)),(22,vI l),(27,vI (cnt n l)),(28,vI j),(8,vI j),(10,vP nb 0),(11,vI (4*j+w)),(12,vP eb 0),(13,vP x 0)]) (fun _=>True) (fun x=> [iB x (aE dg) 66]) (fun _=> []) ?_ ?_
        ·intro K4
         refine jf [] [Bk tlb (cU ⟨n,(some ⟨b1,o1,none⟩,hgt n+1,c1),(a2,n2,c2)⟩),Bk ttb (di ⟨n,(some ⟨tb,to,none⟩,ts.length,c)⟩),Sl a7 (some ⟨tb,to,none⟩) ts.length c ts] (af _) cR rfl ?_
         (repeat' ((try refine au ?_);(conv=>arg 4;whnf);first | refine EM ?_ |(refine sN ?_;intro b)|(refine sC ?_ ?_<;>intro h)|(refine ar ?_ ?_<;>intro h<;>try contradiction)|(refine aa ?_;intro g c')|((first | refine ay hnum ?_ | refine ay hdig ?_);intro x hx;refine aN ?_)| refine ae ?_ | refine ai ?_ | exact aw |(refine ak rfl ?_;intro D lL)| refine ah ?_ ?_ | refine aj ?_ ?_ ?_ | fail));(all_goals refine av ?_)
         all_goals (
          revert b;intro db
          exact fh db True.intro eG cR)
        intro db _
        (conv=>arg 2;simp only [List.cons_append,List.nil_append])
        (conv=>arg 3;simp only [List.cons_append,List.nil_append])
        (repeat' ((try refine au ?_);(conv=>arg 4;whnf);first | refine cp ?_ |(refine sN ?_;intro b)|(refine sC ?_ ?_<;>intro h)|(refine ar ?_ ?_<;>intro h<;>try contradiction)|(refine aa ?_;intro g c')| refine ae ?_ | refine ai ?_ | exact aw |(refine ak rfl ?_;intro D lL)| refine ah ?_ ?_ | refine aj ?_ ?_ ?_ | fail));(all_goals refine av ?_)
        refine c7 db ?_
        refine fS (X:=Unit) (fun x=> [(2,vP tlb 0),(3,vP ttb 0),(4, .nilIface),(5, .func (.func 324) #[] #[vP bs 0,vP bl 0,vP bf 0]),(6,vI l),(9,vI (num n l+j)),(20, .slice (some ⟨b1,o1,none⟩) (hgt n+1) c1),(21,vI (hgt n+1)),(22,vI l),(27,vI (cnt n l)),(28,vI j),(8,vI j),(10,vP nb 0),(11,vI (4*j+w)),(117, .bool false)]) (fun _=>True) (fun x=> []) (fun _=> []) ?_ ?_
        ·intro K4
         rcases hmW with ⟨hs,he⟩|⟨hs,he,hd⟩
         ·rw [he] at hz2
          refine jf [] [Bk eb (dN ((ts.getD (num n l+j) default).es.l.getD ((4*j+w)%4) default)),Bk db (aE dg)] (af _) cR rfl ?_
          (repeat' ((try refine au ?_);(conv=>arg 4;whnf);first | refine EM ?_ |(refine sN ?_;intro b)|(refine sC ?_ ?_<;>intro h)|(refine ar ?_ ?_<;>intro h<;>try contradiction)|(refine aa ?_;intro g c')|(refine sK hz2 ?_;intro x hx;refine aN ?_)| refine ae ?_ | refine ai ?_ | exact aw |(refine ak rfl ?_;intro D lL)| refine ah ?_ ?_ | refine aj ?_ ?_ ?_ | fail));(all_goals refine av ?_)
          exact fh () True.intro (af _) cR
         ·rw [he] at hz2
          refine jf [] [Bk eb (dN ((ts.getD (num n l+j) default).es.l.getD ((4*j+w)%4) default)),Bk db (aE dg)] (af _) cR rfl ?_
          (repeat' ((try refine au ?_);(conv=>arg 4;whnf);first | refine EM ?_ |(refine sN ?_;intro b)|(refine sC ?_ ?_<;>intro h)|(refine ar ?_ ?_<;>intro h<;>try contradiction)|(refine aa ?_;intro g c')|(refine sK hz2 ?_;intro x hx;refine aN ?_)| refine ae ?_ | refine ai ?_ | exact aw |(refine ak rfl ?_;intro D lL)| refine ah ?_ ?_ | refine aj ?_ ?_ ?_ | fail));(all_goals refine av ?_)
          (conv=>arg 4;arg 5;ext C;whnf)
          refine bw ?_ (A5 hd)
          (repeat' ((try refine au ?_);(conv=>arg 4;whnf);first | refine EM ?_ |(refine sN ?_;intro b)|(refine sC ?_ ?_<;>intro h)|(refine ar ?_ ?_<;>intro h<;>try contradiction)|(refine aa ?_;intro g c')|(refine sK hz2 ?_;intro x hx;refine aN ?_)| refine ae ?_ | refine ai ?_ | exact aw |(refine ak rfl ?_;intro D lL)| refine ah ?_ ?_ | refine aj ?_ ?_ ?_ | fail));(all_goals refine av ?_)
          exact fh () True.intro (af _) cR
        intro _ _
        (conv=>arg 2;simp only [List.cons_append,List.nil_append])
        (conv=>arg 3;simp only [List.cons_append,List.nil_append])
        (repeat' ((try refine au ?_);(conv=>arg 4;whnf);first | refine cp ?_ |(refine sN ?_;intro b)|(refine sC ?_ ?_<;>intro h)|(refine ar ?_ ?_<;>intro h<;>try contradiction)|(refine aa ?_;intro g c')| refine ae ?_ | refine ai ?_ | exact aw |(refine ak rfl ?_;intro D lL)| refine ah ?_ ?_ | refine aj ?_ ?_ ?_ | fail));(all_goals refine av ?_)
        exact jj (w+1) (by omega) eG (by omega)
       ·obtain rfl:w=p:=by omega
        (repeat' ((try refine au ?_);(conv=>arg 4;whnf);first | refine ax ?_ |(refine sN ?_;intro b)|(refine sC ?_ ?_<;>intro h)|(refine ar ?_ ?_<;>intro h<;>try contradiction)|(refine aa ?_;intro g c')| refine ae ?_ | refine ai ?_ | exact aw |(refine ak rfl ?_;intro D lL)| refine ah ?_ ?_ | refine aj ?_ ?_ ?_ | fail));(all_goals refine av ?_)
        exact H3.go
      ·(repeat' ((try refine au ?_);(conv=>arg 4;whnf);first | refine ax ?_ |(refine sN ?_;intro b)|(refine sC ?_ ?_<;>intro h)|(refine ar ?_ ?_<;>intro h<;>try contradiction)|(refine aa ?_;intro g c')| refine ae ?_ | refine ai ?_ | exact aw |(refine ak rfl ?_;intro D lL)| refine ah ?_ ?_ | refine aj ?_ ?_ ?_ | fail));(all_goals refine av ?_)
       exact jj (j+1) (by omega) eG (by omega)
    ·obtain rfl:j=cnt n l:=by omega
     (repeat' ((try refine au ?_);(conv=>arg 4;whnf);first | refine ax ?_ |(refine sN ?_;intro b)|(refine sC ?_ ?_<;>intro h)|(refine ar ?_ ?_<;>intro h<;>try contradiction)|(refine aa ?_;intro g c')| refine ae ?_ | refine ai ?_ | exact aw |(refine ak rfl ?_;intro D lL)| refine ah ?_ ?_ | refine aj ?_ ?_ ?_ | fail));(all_goals refine av ?_)
     exact H2.go
   ·(repeat' ((try refine au ?_);(conv=>arg 4;whnf);first | refine ax ?_ |(refine sN ?_;intro b)|(refine sC ?_ ?_<;>intro h)|(refine ar ?_ ?_<;>intro h<;>try contradiction)|(refine aa ?_;intro g c')| refine ae ?_ | refine ai ?_ | exact aw |(refine ak rfl ?_;intro D lL)| refine ah ?_ ?_ | refine aj ?_ ?_ ?_ | fail));(all_goals refine av ?_)
    exact jj (l+1) (by omega) eG (by omega)
  ·obtain rfl:l=hgt n+1:=by omega
   (repeat' ((try refine au ?_);(conv=>arg 4;whnf);first | refine ax ?_ |(refine sN ?_;intro b)|(refine sC ?_ ?_<;>intro h)|(refine ar ?_ ?_<;>intro h<;>try contradiction)|(refine aa ?_;intro g c')| refine ae ?_ | refine ai ?_ | exact aw |(refine ak rfl ?_;intro D lL)| refine ah ?_ ?_ | refine aj ?_ ?_ ?_ | fail));(all_goals refine av ?_)
   exact H.go
 ·(repeat' ((try refine au ?_);(conv=>arg 4;whnf);first | refine ax ?_ |(refine sN ?_;intro b)|(refine sC ?_ ?_<;>intro h)|(refine ar ?_ ?_<;>intro h<;>try contradiction)|(refine aa ?_;intro g c')| refine ae ?_ | refine ai ?_ | exact aw |(refine ak rfl ?_;intro D lL)| refine ah ?_ ?_ | refine aj ?_ ?_ ?_ | fail));(all_goals refine av ?_)
end Go.Proofs.YtbobhnldhpjdlaaGreatDoor
namespace Go.Proofs.YtbobhnldhpjdlaaGreatDoor
open Go Go.RowKit Go.Cs Go.Cz
set_option maxRecDepth 100000
set_option maxHeartbeats 4000000
instance:Mi Tryz.prog 403:=⟨fun v w=>by kernel_rfl⟩
theorem tj:Zp Tryz.prog 149 [.nilIface] [] [] Unit (fun _=>True) (fun _=>vI 0) (fun _=> []) (fun _=> []):=by
 refine an fun G=> ?_
 (repeat' ((try refine au ?_);(conv=>arg 4;whnf);first | refine ax ?_ |(refine sN ?_;intro b)|(refine sC ?_ ?_<;>intro h)|(refine ar ?_ ?_<;>intro h<;>try contradiction)|(refine aa ?_;intro g c')| refine ae ?_ | refine ai ?_ | exact aw |(refine ak rfl ?_;intro D lL)| refine ah ?_ ?_ | refine aj ?_ ?_ ?_ | fail));(all_goals refine av ?_)
 refine nK nV ?_
 (repeat' ((try refine au ?_);(conv=>arg 4;whnf);first | refine ax ?_ |(refine sN ?_;intro b)|(refine sC ?_ ?_<;>intro h)|(refine ar ?_ ?_<;>intro h<;>try contradiction)|(refine aa ?_;intro g c')| refine ae ?_ | refine ai ?_ | exact aw |(refine ak rfl ?_;intro D lL)| refine ah ?_ ?_ | refine aj ?_ ?_ ?_ | fail));(all_goals refine av ?_)
section
variable {n tb to m c:Nat} {ts:List Nod} {q:Value×Value}
theorem FZ (h1:1≤n) (h2:n≤4096) (ht:ts.length=tot n) (hT:mQ n ts=0):Zp Tryz.prog 151 [vA (di ⟨n,(some ⟨tb,to,none⟩,m,c)⟩)] [] [Sl a7 (some ⟨tb,to,none⟩) m c ts,Gs q] (Sv×Sv) (fun _=>True) (fun x=> .tuple #[vA (cU ⟨n,x.1,x.2⟩),vI 0]) (fun _=> []) (fun x=> [Sl cI x.1.1 x.1.2.1 x.1.2.2 (fM n (hgt n+1)),Sl cI x.2.1 x.2.2.1 x.2.2.2 (ed n (hgt n+1))]):=by
 refine an fun G=> ?_
 refine bc 0 ?_
 intro hn hc hm ha
 subst hn
 (repeat' ((try refine au ?_);(conv=>arg 4;whnf);first | refine cp ?_ |(refine sN ?_;intro b)|(refine sC ?_ ?_<;>intro h)|(refine ar ?_ ?_<;>intro h<;>try contradiction)|(refine aa ?_;intro g c')|(refine dD (Fg h1 h2) ?_;intro x hx;refine c9 ?_)| refine ae ?_ | refine ai ?_ | exact aw |(refine ak rfl ?_;intro D lL)| refine ah ?_ ?_ | refine aj ?_ ?_ ?_ | fail));(all_goals refine av ?_)
 obtain ⟨⟨a1,n1,c1⟩,a2,n2,c2⟩:=x
 dsimp only
 (repeat' ((try refine au ?_);(conv=>arg 4;whnf);first | refine ax ?_ |(refine sN ?_;intro b)|(refine sC ?_ ?_<;>intro h)|(refine ar ?_ ?_<;>intro h<;>try contradiction)|(refine aa ?_;intro g c')|((first | refine ay (Fz h1 h2) ?_ | refine ay (Fv h1 h2 ht hT) ?_ | refine ay tj ?_);intro x hx;refine aN ?_)| refine ae ?_ | refine ai ?_ | exact aw |(refine ak rfl ?_;intro D lL)| refine ah ?_ ?_ | refine aj ?_ ?_ ?_ | fail));(all_goals refine av ?_)
 exact aG ((a1,n1,c1),a2,n2,c2) True.intro rfl (af _) cR
theorem BQ (h1:1≤n) (h2:n≤4096) (ht:ts.length=tot n) (hT:mQ n ts=0):Zp Tryz.prog 142 [vA (di ⟨n,(some ⟨tb,to,none⟩,m,c)⟩)] [] [Sl a7 (some ⟨tb,to,none⟩) m c ts,Gs q] Unit (fun _=>True) (fun x=>vI 0) (fun _=> []) (fun _=> []):=by
 refine an fun G=> ?_
 refine bc 0 ?_
 intro hn hc hm ha
 subst hn
 (repeat' ((try refine au ?_);(conv=>arg 4;whnf);first | refine ax ?_ |(refine sN ?_;intro b)|(refine sC ?_ ?_<;>intro h)|(refine ar ?_ ?_<;>intro h<;>try contradiction)|(refine aa ?_;intro g c')|(refine ay (FZ (q:=q) h1 h2 ht hT) ?_;intro x hx;refine aN ?_)| refine ae ?_ | refine ai ?_ | exact aw |(refine ak rfl ?_;intro D lL)| refine ah ?_ ?_ | refine aj ?_ ?_ ?_ | fail));(all_goals refine av ?_)
theorem LP (h1:1≤n) (h2:n≤4096) (ht:ts.length=tot n) (hT:mQ n ts=0) (hd:cd (ts.getD (ts.length-1) default)=0):Zp Tryz.prog 43 [vA (di ⟨n,(some ⟨tb,to,none⟩,m,c)⟩)] [] [Sl a7 (some ⟨tb,to,none⟩) m c ts,Gs q] Unit (fun _=>True) (fun x=> .tuple #[vA (aE (cq (aL (ts.getD (ts.length-1) default)))),vI 0]) (fun _=> []) (fun _=> []):=by
 have hpos:0<ts.length:=by have:=e7 (n:=n) (l:=hgt n) (j:=0) (Nat.le_refl _) (dS h1 _);omega
 have htl:ts.length≤24576:=by rw [ht];exact cV h2
 refine an fun G=> ?_
 refine bc 0 ?_
 intro hn hc hm ha
 subst hn
 (repeat' ((try refine au ?_);(conv=>arg 4;whnf);first | refine ax ?_ |(refine sN ?_;intro b)|(refine sC ?_ ?_<;>intro h)|(refine ar ?_ ?_<;>intro h<;>try contradiction)|(refine aa ?_;intro g c')|((first | refine ay (BQ (q:=q) h1 h2 ht hT) ?_ | refine ay (jI (q:=q) hd) ?_);intro x hx;refine aN ?_)| refine ae ?_ | refine ai ?_ | exact aw |(refine ak rfl ?_;intro D lL)| refine ah ?_ ?_ | refine aj ?_ ?_ ?_ | fail));(all_goals refine av ?_)
end
end Go.Proofs.YtbobhnldhpjdlaaGreatDoor
