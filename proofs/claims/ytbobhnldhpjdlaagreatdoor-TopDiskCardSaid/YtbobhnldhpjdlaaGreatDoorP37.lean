/- Lemmas and walks: what each function does, by its own code. No condition beyond those of each statement. -/
import Derived.Test.YtbobhnldhpjdlaaGreatDoorP11
import Derived.Test.YtbobhnldhpjdlaaGreatDoorP14
import Derived.Test.YtbobhnldhpjdlaaGreatDoorP16
import Derived.Test.YtbobhnldhpjdlaaGreatDoorP19
import Derived.Test.YtbobhnldhpjdlaaGreatDoorP20
set_option linter.all false
set_option linter.unusedVariables false
namespace Go.Proofs.YtbobhnldhpjdlaaGreatDoor
open Go Go.RowKit Go.Cs Go.Cz
set_option maxRecDepth 100000
set_option maxHeartbeats 4000000
theorem Fy {n:Nat} (h1:1≤n) (h2:n≤4096):Zp Tryz.prog 274 [vI n] [] [] (Sv×Sv) (fun _=>True) (fun x=> .tuple #[vA (b7 ⟨x.1,x.2⟩),vI 0]) (fun _=> []) (fun x=> [Sl cI x.1.1 x.1.2.1 x.1.2.2 (eW n (hgt n+1)),Sl cI x.2.1 x.2.2.1 x.2.2.2 (dC n (hgt n+1))]):=by
 refine ak fun G=> ?_
 have h5:=a8 n
 (repeat' ((try refine aw ?_);(conv=>arg 4;whnf);first | refine az ?_ |(refine sN ?_;intro b)|(refine aa ?_;intro g c')|(refine aA (rB h1 h2) ?_;intro x hx;refine aH ?_)| fail));(all_goals refine av ?_)
 refine dh [b] (X:=Nat×(Option Addr×Nat)×(Option Addr×Nat)) (fun x=> [(5,vI (num n x.1)),(20,vI x.1)]) (fun x=>x.1≤hgt n+1)
  (fun x=> [iB b (b7 ⟨(x.2.1.1,x.1,x.2.1.2),(x.2.2.1,x.1,x.2.2.2)⟩) 353,iN cI 1 x.2.1.1 x.1 x.2.1.2 3 (eW n x.1),iN cI 1 x.2.2.1 x.1 x.2.2.2 3 (dC n x.1)]) (fun x=>hgt n+1-x.1) (0,(none,0),(none,0)) (Nat.zero_le _) rfl (by ((repeat' (first | exact am _ | refine aE ?_ ?_ | refine aX ?_ | refine qT rfl ?_))<;>(try with_reducible rfl))) ?_
 rintro ⟨v,⟨a1,c1⟩,a2,c2⟩ hv
 (conv=>arg 2;simp only [List.cons_append,List.nil_append])
 dsimp only at hv⊢
 have hs:=cz h2 (l:=v) (by omega)
 have hcn:=cH n v
 by_cases h:v<hgt n+1
 ·(repeat' ((try refine aw ?_);(conv=>arg 4;whnf);first | refine az ?_ |(refine sN ?_;intro b)|(refine aa ?_;intro g c')|(refine aA (B1 h1 h2 (Nat.le_of_lt_succ h)) ?_;intro x hx;refine aH ?_)| fail));(all_goals refine av ?_)
  rename_i g1 d1
  refine a5 (v+1,(some ⟨g1,0,none⟩,d1),(some ⟨g,0,none⟩,c')) rfl h ?_ (by dsimp only;omega)
  dsimp only
  rw [oh,od]
  ((repeat' (first | exact am _ | refine aE ?_ ?_ | refine aX ?_))<;>(try with_reducible rfl))
 ·obtain rfl:v=hgt n+1:=by omega
  (repeat' ((try refine aw ?_);(conv=>arg 4;whnf);first | refine az ?_ |(refine sN ?_;intro b)|(refine aa ?_;intro g c')| fail));(all_goals refine av ?_)
  refine eE (m:=1) (e:=3) cI a1 (hgt n+1) c1 ?_
  refine eE (m:=1) (e:=3) cI a2 (hgt n+1) c2 ?_
  exact aD ((a1,hgt n+1,c1),(a2,hgt n+1,c2)) True.intro rfl (am _) bu
theorem Fp {n:Nat} {s1 s2:Sv} (h1:1≤n) (h2:n≤4096):Zp Tryz.prog 275 [vA (b7 ⟨s1,s2⟩)] [] [Sl cI s2.1 s2.2.1 s2.2.2 (dC n (hgt n+1))] Unit (fun _=>True) (fun x=>vI (tot n)) (fun _=> []) (fun x=> []):=by
 obtain ⟨a1,n1,c1⟩:=s1
 obtain ⟨a2,n2,c2⟩:=s2
 refine ak fun G=> ?_
 have h5:=a8 n
 refine aS 0 ?_
 intro hn hc hm ha
 rw [cj] at hn
 dsimp only at hn hc hm ha
 obtain ⟨b,o,rfl⟩:=ha (by omega) (by decide)
 have hs:=cz h2 (l:=hgt n) (by omega)
 have hg:(dC n (hgt n+1)).getD (hgt n+1-1) default=num n (hgt n):=er (by omega)
 have hl:=cj n (hgt n+1)
 subst hn
 rw [eR h1 h2,←hg]
 have hg2:(dC n (hgt n+1)).getD (hgt n+1-1) default≤24576:=by omega
 (repeat' ((try refine aw ?_);(conv=>arg 4;whnf);first | refine az ?_ |(refine sN ?_;intro b)| exact ax | fail));(all_goals refine av ?_)
theorem pW {y:Un} (h:y.sl=0∨y.sl=1):Zp Tryz.prog 216 [vA (a7 y)] [] [] Unit (fun _=>True) (fun x=> .int .i64 (kB y)) (fun _=> []) (fun x=> []):=by
 refine ak fun G=> ?_
 cases hd:y.dt with
 | false=>
  rw [show kB y=y.sl by simp [kB,hd]]
  have hB:Sb (a7 y) 275 [.bool false] True:=⟨fun _=>by rw [←hd];exact (inferInstance:Sb (a7 y) 275 [.bool y.dt] True).sb True.intro⟩
  (repeat' ((try refine aw ?_);(conv=>arg 4;whnf);first | refine az ?_ |(refine sN ?_;intro b)| exact ax | fail));(all_goals refine av ?_)
 | true=>
  rw [show kB y=1-y.sl by simp [kB,hd]]
  have hB:Sb (a7 y) 275 [.bool true] True:=⟨fun _=>by rw [←hd];exact (inferInstance:Sb (a7 y) 275 [.bool y.dt] True).sb True.intro⟩
  rcases h with h | h
  ·have hS:Sb (a7 y) 274 [.int .i64 ((0:Nat):Int)] True:=⟨fun _=>by have:=(inferInstance:Sb (a7 y) 274 [.int .i64 y.sl] True).sb True.intro;rwa [h] at this⟩
   rw [h]
   (repeat' ((try refine aw ?_);(conv=>arg 4;whnf);first | refine az ?_ |(refine sN ?_;intro b)| exact ax | fail));(all_goals refine av ?_)
  ·have hS:Sb (a7 y) 274 [.int .i64 ((1:Nat):Int)] True:=⟨fun _=>by have:=(inferInstance:Sb (a7 y) 274 [.int .i64 y.sl] True).sb True.intro;rwa [h] at this⟩
   rw [h]
   (repeat' ((try refine aw ?_);(conv=>arg 4;whnf);first | refine az ?_ |(refine sN ?_;intro b)| exact ax | fail));(all_goals refine av ?_)
theorem zf {y:Un} {q:Value×Value} (h:y.sl=0∨y.sl=1) (hc:bA y.nd=0):Zp Tryz.prog 296 [vA (a7 y)] [] [Gs q] Unit (fun _=>True) (fun x=>vA (c6 (rX y))) (fun _=> []) (fun x=> []):=by
 have hu:=pA y.nd 4
 have hs:kB y=0∨kB y=1:=by unfold kB;split<;>omega
 obtain ⟨t,ht,ht1⟩:∃t:Nat,kB y=(t:Int)∧t≤1:=by
  rcases hs with g | g
  ·exact ⟨0,g,by omega⟩
  ·exact ⟨1,g,by omega⟩
 have hsl:=pW h
 rw [ht] at hsl
 refine ak fun G=> ?_
 by_cases h0:usd y.nd 4=0
 ·rw [show rX y=Ent.zero from if_pos h0]
  (repeat' ((try refine aw ?_);(conv=>arg 4;whnf);first | refine az ?_ |(refine sN ?_;intro b)|(refine aA pJ ?_;intro x hx;refine aH ?_)| exact ax | fail));(all_goals refine av ?_)
 ·have e:rX y=⟨t+1,bI (aM y.nd),by omega⟩:=by
   have h9:(kB y+1).toNat%2^8=t+1:=by rw [ht];omega
   unfold rX;rw [if_neg h0]
   simp only [Ent.mk.injEq,and_true];exact h9
  rw [e]
  have i1:Nu 256 ((t+1:Nat):Int) (t+1):=⟨rfl,by omega⟩
  (repeat' ((try refine aw ?_);(conv=>arg 4;whnf);first | refine az ?_ |(refine sN ?_;intro b)|((first | refine aA pJ ?_ | refine aA (jB (q:=q) hc) ?_ | refine aA hsl ?_ | refine aA (vN ht1) ?_);intro x hx;refine aH ?_)| exact ax | fail));(all_goals refine av ?_)
structure UOk (n:Nat) (ts:List Un):Prop where
 h1:1≤n
 h2:n≤4096
 ln:ts.length=tot n
 sl:∀i,i<ts.length→(ts.getD i Un.zero).sl=0∨(ts.getD i Un.zero).sl=1
 nd:∀l j,l≤hgt n→j<cnt n l→sm n ts l j=0
theorem UOk.treW {n:Nat} {L:List Rec} {c:List Bool} {s:List Nat} (h:OkW L c s) (hl:L.length=n):UOk n (treW L c s):=by
 subst hl
 exact ⟨h.m.n1,h.m.n2,jt L c s,fun i hi=>jw.1 (zV h) i hi,fun l j hl hj=>yu h hl hj⟩
theorem d7 {n l j:Nat} (hl:l≤hgt n) (hj:j<cnt n l):num n l+j<tot n:=by
 have:=c7 n (l:=l+1) (m:=hgt n+1) (by omega)
 rw [tot];simp only [num] at this⊢;omega
def na (n l j cb tb to m c:Nat) (a1:Option Addr) (n1 c1:Nat) (a2:Option Addr) (n2 c2:Nat) (ts:List Un) (q:Value×Value):List Pt:= [Bk cb (bR ⟨⟨(a1,n1,c1),(a2,n2,c2)⟩,⟨n,(some ⟨tb,to,none⟩,m,c)⟩,num n l+j,l⟩),Sl a7 (some ⟨tb,to,none⟩) m c ts,Sl cI a1 n1 c1 (eW n (hgt n+1)),Sl cI a2 n2 c2 (dC n (hgt n+1)),Gs q]
section
variable {n l j cb tb to m c:Nat} {a1:Option Addr} {n1 c1:Nat} {a2:Option Addr} {n2 c2:Nat} {ts:List Un} {q:Value×Value}
theorem pa (h:UOk n ts) (hl:l≤hgt n) (hj:j<cnt n l):Zp Tryz.prog 317 [vP cb 0] [] (na n l j cb tb to m c a1 n1 c1 a2 n2 c2 ts q) Unit (fun _=>True) (fun _=>vA (a7 (ts.getD (num n l+j) default))) (fun _=> []) (fun _=> []):=by
 have hat:=d7 hl hj
 rw [←h.ln] at hat
 refine ak fun G=> ?_
 unfold na
 refine aS 1 ?_
 intro hn hc hm ha
 subst hn
 (repeat' ((try refine aw ?_);(conv=>arg 4;whnf);first | refine az ?_ |(refine sN ?_;intro b)| exact ax | fail));(all_goals refine av ?_)
theorem y0 (h:UOk n ts) (hl:l≤hgt n) (hl0:l≠0) (hj:j<cnt n l):Zp Tryz.prog 318 [vP cb 0] [] (na n l j cb tb to m c a1 n1 c1 a2 n2 c2 ts q) Unit (fun _=>True) (fun _=> .tuple #[vI (4*j+num n (l-1)),vI (4*j+prt n l j+num n (l-1))]) (fun _=> []) (fun _=> []):=by
 have h5:=a8 n
 have h2:=h.h2
 refine ak fun G=> ?_
 unfold na
 refine aS 2 ?_
 intro hn hc hm ha
 rw [dA] at hn
 subst hn
 obtain ⟨b1,o1,rfl⟩:=ha (by omega) (by decide)
 refine aS 3 ?_
 intro hn hc' hm' ha
 rw [cj] at hn
 subst hn
 obtain ⟨b2,o2,rfl⟩:=ha (by omega) (by decide)
 have hcl:=dA n (hgt n+1)
 have hnl:=cj n (hgt n+1)
 have hg1:(dC n (hgt n+1)).getD l default=num n l:=er (by omega)
 have hg2:(dC n (hgt n+1)).getD (l-1) default=num n (l-1):=er (by omega)
 have hg3:(eW n (hgt n+1)).getD (l-1) default=cnt n (l-1):=ia (by omega)
 have hcn:=cH n (l-1)
 have hcj:=cH n l
 have hs1:=cz h2 (l:=l-1) (by omega)
 have hs2:=cz h2 (l:=l) (by omega)
 have hcp:4*j+prt n l j=min (4*j+4) (cnt n (l-1)):=by
  obtain ⟨k,rfl⟩:∃k,l=k+1:=⟨l-1,by omega⟩
  have e1:prt n (k+1) j=min 4 (cnt n k-4*j):=rfl
  have e2:cnt n (k+1)=jR (cnt n k):=rfl
  unfold jR at e2
  show 4*j+prt n (k+1) j=min (4*j+4) (cnt n k)
  omega
 (repeat' ((try refine aw ?_);(conv=>arg 4;whnf);first | refine az ?_ | fail));(all_goals refine av ?_)
 exact aD () True.intro (by rw [hg1,hg2,hg3,show num n l+j-num n l=j by omega,hcp];rfl) (am _)
theorem GW (h:UOk n ts) (hl:l≤hgt n) (hj:j<cnt n l):Zp Tryz.prog 279 [vP cb 0] [] (na n l j cb tb to m c a1 n1 c1 a2 n2 c2 ts q) Unit (fun _=>True) (fun _=>vI 0) (fun _=> []) (fun _=> []):=by
 have h5:=a8 n
 have h2:=h.h2
 obtain ⟨⟨hlv,hix,hfit⟩,_⟩:=fR (h.nd l j hl hj)
 change (ts.getD (num n l+j) default).nd.lv=l at hlv
 change (ts.getD (num n l+j) default).nd.ix=j at hix
 change fj n (ts.getD (num n l+j) default).nd=0 at hfit
 have hn:=pa (cb:=cb) (tb:=tb) (to:=to) (m:=m) (c:=c) (a1:=a1) (n1:=n1) (c1:=c1) (a2:=a2) (n2:=n2) (c2:=c2) (q:=q) h hl hj
 unfold na at hn
 refine ak fun G=> ?_
 unfold na
 refine aS 3 ?_
 intro hnn hc' hm' ha
 rw [cj] at hnn
 subst hnn
 obtain ⟨b2,o2,rfl⟩:=ha (by omega) (by decide)
 have hnl:=cj n (hgt n+1)
 have hg1:(dC n (hgt n+1)).getD l default=num n l:=er (by omega)
 have hcj:=cH n l
 have hs2:=cz h2 (l:=l) (by omega)
 (repeat' ((try refine aw ?_);(conv=>arg 4;whnf);first | refine az ?_ |(refine sN ?_;intro b)|(refine aA hn ?_;intro x hx;refine aH ?_)| exact ax | fail));(all_goals refine av ?_)
 refine Mw ?_
 (repeat' ((try refine aw ?_);(conv=>arg 4;whnf);first | refine az ?_ |(refine sN ?_;intro b)|(refine aA (kI (y:=(ts.getD (num n l+j) default).nd) h.h1 h2 hfit) ?_;intro x hx;refine aH ?_)| exact ax | fail));(all_goals refine av ?_)
end
theorem HR {a:Option Addr} {n c:Nat} {xs:List Un} {b:Bool} (hb:xs.any Un.dt=b) (hx:xs.length≤65536):Zp Tryz.prog 276 [.slice a n c, .func (.func 319) #[] #[]] [] [Sl a7 a n c xs] Unit (fun _=>True) (fun _=> .bool b) (fun _=> []) (fun _=> []):=by
 refine ak fun G=> ?_
 refine aS 0 ?_
 intro hn hc hm ha
 subst hn
 (repeat' ((try refine aw ?_);(conv=>arg 4;whnf);first | refine az ?_ |(refine sN ?_;intro b)| refine ae ?_ | exact ax | fail));(all_goals refine av ?_)
 refine dh [] (X:=Nat) (fun i=> [(4,vI 0),(8,vI i)]) (fun i=>i≤xs.length∧∀k,k<i→(xs.getD k default).dt=false) (fun i=> []) (fun i=>xs.length-i) 0 ⟨Nat.zero_le _,fun k h=>absurd h (Nat.not_lt_zero _)⟩ rfl (ar _) ?_
 rintro i ⟨hi,hall⟩
 (conv=>arg 2;simp only [List.cons_append,List.nil_append])
 by_cases h:i<xs.length
 ·obtain ⟨sb,o,rfl⟩:=ha (by omega) (by decide)
  cases hd:(xs.getD i default).dt with
  | false=>
   have hB:Sb (a7 (xs.getD i default)) 275 [.bool false] True:=⟨fun _=>by rw [←hd];exact (inferInstance:Sb (a7 (xs.getD i default)) 275 [.bool (xs.getD i default).dt] True).sb True.intro⟩
   (repeat' ((try refine aw ?_);(conv=>arg 4;whnf);first | refine az ?_ |(refine sN ?_;intro b)| refine ae ?_ | exact ax | fail));(all_goals refine av ?_)
   exact a5 (i+1) rfl ⟨h,fun k hk=>by
    rcases Nat.lt_succ_iff_lt_or_eq.1 hk with g | rfl
    ·exact hall k g
    ·exact hd⟩ cD (by omega)
  | true=>
   have hB:Sb (a7 (xs.getD i default)) 275 [.bool true] True:=⟨fun _=>by rw [←hd];exact (inferInstance:Sb (a7 (xs.getD i default)) 275 [.bool (xs.getD i default).dt] True).sb True.intro⟩
   have e:b=true:=by
    rw [←hb,List.any_eq_true]
    refine ⟨xs[i],List.getElem_mem h, ?_⟩
    rwa [List.getD_eq_getElem?_getD,List.getElem?_eq_getElem h] at hd
   rw [e]
   (repeat' ((try refine aw ?_);(conv=>arg 4;whnf);first | refine az ?_ |(refine sN ?_;intro b)| refine ae ?_ | exact ax | fail));(all_goals refine av ?_)
 ·have e:b=false:=by
   rw [←hb,List.any_eq_false]
   intro x hx2
   obtain ⟨k,hk,rfl⟩:=List.getElem_of_mem hx2
   have:=hall k (by omega)
   rw [List.getD_eq_getElem?_getD,List.getElem?_eq_getElem hk] at this
   simpa using this
  rw [e]
  (repeat' ((try refine aw ?_);(conv=>arg 4;whnf);first | refine az ?_ |(refine sN ?_;intro b)| refine ae ?_ | exact ax | fail));(all_goals refine av ?_)
theorem Ju {a:Option Addr} {n c:Nat} {xs:List Un} (hs:∀i,i<xs.length→(xs.getD i default).sl=0∨(xs.getD i default).sl=1) (hx:xs.length≤65536):Zp Tryz.prog 276 [.slice a n c, .func (.func 277) #[] #[]] [] [Sl a7 a n c xs] Unit (fun _=>True) (fun _=> .bool false) (fun _=> []) (fun _=> []):=by
 refine ak fun G=> ?_
 refine aS 0 ?_
 intro hn hc hm ha
 subst hn
 (repeat' ((try refine aw ?_);(conv=>arg 4;whnf);first | refine az ?_ |(refine sN ?_;intro b)|(refine sC ?_ ?_<;>intro h)| refine ae ?_ | exact ax | fail));(all_goals refine av ?_)
 refine dh [] (X:=Nat) (fun i=> [(4,vI 0),(8,vI i)]) (fun i=>i≤xs.length) (fun i=> []) (fun i=>xs.length-i) 0 (Nat.zero_le _) rfl (ar _) ?_
 intro i hi
 (conv=>arg 2;simp only [List.cons_append,List.nil_append])
 by_cases hlt:i<xs.length
 ·obtain ⟨sb,o,rfl⟩:=ha (by omega) (by decide)
  have hsi:=hs i hlt
  (repeat' ((try refine aw ?_);(conv=>arg 4;whnf);first | refine az ?_ |(refine sN ?_;intro b)|(refine sC ?_ ?_<;>intro h)| refine ae ?_ | exact ax | fail));(all_goals refine av ?_)
  all_goals exact a5 (i+1) rfl hlt cD (by omega)
 ·(repeat' ((try refine aw ?_);(conv=>arg 4;whnf);first | refine az ?_ |(refine sN ?_;intro b)|(refine sC ?_ ?_<;>intro h)| refine ae ?_ | exact ax | fail));(all_goals refine av ?_)
section
variable {n l j cb tb to m c:Nat} {a1:Option Addr} {n1 c1:Nat} {a2:Option Addr} {n2 c2:Nat} {ts:List Un} {q:Value×Value}
theorem Bh (h:UOk n ts) (hl:l≤hgt n) (hl0:l≠0) (hj:j<cnt n l):4*j+prt n l j+num n (l-1)≤ts.length∧prt n l j≤4∧(∀w,w<prt n l j→4*j+w<cnt n (l-1))∧0<prt n l j:=by
 obtain ⟨k,rfl⟩:∃k,l=k+1:=⟨l-1,by omega⟩
 have e1:prt n (k+1) j=min 4 (cnt n k-4*j):=rfl
 have e2:cnt n (k+1)=jR (cnt n k):=rfl
 unfold jR at e2
 have e3:=c7 n (l:=k+1) (m:=hgt n+1) (by omega)
 have e4:num n (k+1)=num n k+cnt n k:=rfl
 rw [h.ln,tot]
 show 4*j+prt n (k+1) j+num n k≤_∧prt n (k+1) j≤4∧(∀w,w<prt n (k+1) j→4*j+w<cnt n k)∧0<prt n (k+1) j
 refine ⟨by omega,by omega,fun w hw=>by omega,by omega⟩
theorem Gu (h:UOk n ts) (hl:l≤hgt n) (hl0:l≠0) (hj:j<cnt n l):Zp Tryz.prog 280 [vP cb 0] [] (na n l j cb tb to m c a1 n1 c1 a2 n2 c2 ts q) Unit (fun _=>True) (fun _=>vI 0) (fun _=> []) (fun _=> []):=by
 have h5:=a8 n
 have h2:=h.h2
 have htl:=b9 h2
 have hln:=h.ln
 obtain ⟨_,hmk,hdt,_⟩:=fR (h.nd l j hl hj)
 obtain ⟨g1,g2,g3,g4⟩:=Bh h hl hl0 hj
 have hch:(ts.getD (num n l+j) default).ch=List.replicate 4 false:=by
  have h4:=(ts.getD (num n l+j) default).hch
  apply List.ext_getElem?
  intro w
  by_cases hw:w<4
  ·have:=m5.1 hmk w hw
   have hg:(ts.getD (num n l+j) default).ch.getD w false=false:=by
    cases hh:(ts.getD (num n l+j) default).ch.getD w false with
    | false=>rfl
    | true=>exact absurd (this hh).1 hl0
   rw [List.getD_eq_getElem?_getD,List.getElem?_eq_getElem (by omega)] at hg
   rw [List.getElem?_eq_getElem (by omega),List.getElem?_replicate,if_pos hw]
   exact congrArg some (by simpa using hg)
  ·rw [List.getElem?_eq_none (by omega),List.getElem?_eq_none (by simp;omega)]
 have hdd:((ts.drop (4*j+num n (l-1))).take (4*j+prt n l j+num n (l-1)-(4*j+num n (l-1)))).any Un.dt=(ts.getD (num n l+j) default).dt:=by
  have hE:(ts.getD (num n l+j) default).dt=(List.range (prt n l j)).any fun w=>(d6 n ts (l-1) (4*j+w)).dt:=by
   rw [show (ts.getD (num n l+j) default).dt=(d6 n ts l j).dt from rfl,hdt,xF,if_neg hl0]
  rw [hE,show 4*j+prt n l j+num n (l-1)-(4*j+num n (l-1))=prt n l j by omega]
  rw [Bool.eq_iff_iff,List.any_eq_true,List.any_eq_true]
  constructor
  ·rintro ⟨x,hx,hd⟩
   obtain ⟨w,hw,rfl⟩:=List.getElem_of_mem hx
   have hw2:w<prt n l j:=by simp at hw;omega
   refine ⟨w,List.mem_range.2 hw2, ?_⟩
   rw [List.getElem_take,List.getElem_drop] at hd
   rw [d6,List.getD_eq_getElem?_getD,show num n (l-1)+(4*j+w)=4*j+num n (l-1)+w by omega,List.getElem?_eq_getElem (by omega)]
   exact hd
  ·rintro ⟨w,hw,hd⟩
   have hw2:=List.mem_range.1 hw
   rw [d6,List.getD_eq_getElem?_getD,show num n (l-1)+(4*j+w)=4*j+num n (l-1)+w by omega,List.getElem?_eq_getElem (by omega)] at hd
   refine ⟨_, ?_,hd⟩
   rw [Option.getD_some]
   refine List.mem_iff_getElem.2 ⟨w,by simp;omega, ?_⟩
   rw [List.getElem_take,List.getElem_drop]
 have hn:=pa (cb:=cb) (tb:=tb) (to:=to) (m:=m) (c:=c) (a1:=a1) (n1:=n1) (c1:=c1) (a2:=a2) (n2:=n2) (c2:=c2) (q:=q) h hl hj
 have hcd:=y0 (cb:=cb) (tb:=tb) (to:=to) (m:=m) (c:=c) (a1:=a1) (n1:=n1) (c1:=c1) (a2:=a2) (n2:=n2) (c2:=c2) (q:=q) h hl hl0 hj
 unfold na at hn hcd
 have hcf:=fun a n c=>HR (a:=a) (n:=n) (c:=c) hdd (by simp;omega)
 refine ak fun G=> ?_
 unfold na
 refine aS 1 ?_
 intro hnn hc' hm' ha
 subst hnn
 cases hd:(ts.getD (num n l+j) default).dt with
 | false=>
  rw [hd] at hcf
  have hB:Sb (a7 (ts.getD (num n l+j) default)) 275 [.bool false] True:=⟨fun _=>by rw [←hd];exact (inferInstance:Sb (a7 (ts.getD (num n l+j) default)) 275 [.bool (ts.getD (num n l+j) default).dt] True).sb True.intro⟩
  (repeat' ((try refine aw ?_);(conv=>arg 4;whnf);first | refine az ?_ |(refine sN ?_;intro b)|(refine au ?_ ?_<;>intro h<;>try contradiction)|((first | refine aA hn ?_ | refine aA hcd ?_ | refine aA (hcf _ _ _) ?_);intro x hx;refine aH ?_)| exact ax | fail));(all_goals refine av ?_)
 | true=>
  rw [hd] at hcf
  have hB:Sb (a7 (ts.getD (num n l+j) default)) 275 [.bool true] True:=⟨fun _=>by rw [←hd];exact (inferInstance:Sb (a7 (ts.getD (num n l+j) default)) 275 [.bool (ts.getD (num n l+j) default).dt] True).sb True.intro⟩
  (repeat' ((try refine aw ?_);(conv=>arg 4;whnf);first | refine az ?_ |(refine sN ?_;intro b)|(refine au ?_ ?_<;>intro h<;>try contradiction)|((first | refine aA hn ?_ | refine aA hcd ?_ | refine aA (hcf _ _ _) ?_);intro x hx;refine aH ?_)| exact ax | fail));(all_goals refine av ?_)
end
end Go.Proofs.YtbobhnldhpjdlaaGreatDoor
namespace Go.Proofs.YtbobhnldhpjdlaaGreatDoor
open Go Go.RowKit Go.Cs Go.Cz
set_option maxRecDepth 100000
set_option maxHeartbeats 4000000
section
variable {n l j cb tb to m c:Nat} {a1:Option Addr} {n1 c1:Nat} {a2:Option Addr} {n2 c2:Nat} {ts:List Un} {q:Value×Value}
theorem Jm (y:Un) {b:Bool} (h:y.dt=b):Sb (a7 y) 275 [.bool b] True:=⟨fun _=>by rw [←h];exact (inferInstance:Sb (a7 y) 275 [.bool y.dt] True).sb True.intro⟩
theorem uB (y:Un) {w:Nat} {b:Bool} (hw:w<4) (h:y.ch.getD w false=b):Sb (jj y.ch) (w*1) [.bool b] True:=⟨fun _=>by
 have h1:=(inferInstance:Sb (jj y.ch) (w*1) (cT (y.ch.getD w default)) _).sb (by rw [y.hch];exact hw)
 rw [show y.ch.getD w default=b from h] at h1;exact h1⟩
theorem GF (h:UOk n ts) (hj:j<cnt n 0):Zp Tryz.prog 280 [vP cb 0] [] (na n 0 j cb tb to m c a1 n1 c1 a2 n2 c2 ts q) Unit (fun _=>True) (fun _=>vI 0) (fun _=> []) (fun _=> []):=by
 obtain ⟨_,hmk,hdt,_⟩:=fR (h.nd 0 j (Nat.zero_le _) hj)
 have hmk2:=m5.1 hmk
 have hn:=pa (cb:=cb) (tb:=tb) (to:=to) (m:=m) (c:=c) (a1:=a1) (n1:=n1) (c1:=c1) (a2:=a2) (n2:=n2) (c2:=c2) (q:=q) h (Nat.zero_le _) hj
 unfold na at hn
 have hdd:(ts.getD (num n 0+j) default).dt=(List.range 4).any (ts.getD (num n 0+j) default).g:=by
  rw [show (ts.getD (num n 0+j) default).dt=(d6 n ts 0 j).dt from rfl,hdt,xF,if_pos rfl];rfl
 change ∀w,w<4→(ts.getD (num n 0+j) default).g w=true→0=0∧((ts.getD (num n 0+j) default).nd.rs.get w).st≠0 at hmk2
 clear hmk hdt
 refine ak fun G=> ?_
 unfold na
 (repeat' ((try refine aw ?_);(conv=>arg 4;whnf);first | refine az ?_ |(refine sN ?_;intro b)|(refine aA hn ?_;intro x hx;refine aH ?_)| exact ax | fail));(all_goals refine av ?_)
 generalize ts.getD (num n 0+j) default=y at*
 refine dh [] (X:=Nat×Bool) (fun x=> [(2,vI 0),(4, .bool x.2),(18,vI x.1)]) (fun x=>x.1≤4∧x.2=(List.range x.1).any y.g) (fun x=> []) (fun x=>4-x.1) (0,false) ⟨Nat.zero_le _,rfl⟩ rfl (ar _) ?_
 rintro ⟨w,d⟩ ⟨hw,hd⟩
 (conv=>arg 2;simp only [List.cons_append,List.nil_append])
 dsimp only at hw hd⊢
 by_cases hlt:w<4
 ·have hnx:(List.range (w+1)).any y.g=(d || y.g w):=by rw [List.range_succ,List.any_append,←hd];simp
  cases hg:y.g w with
  | true=>
   have hI:=uB y hlt hg
   have hst:=(hmk2 w hlt hg).2
   change ¬(y.nd.rs.l.getD w default).st=0 at hst
   cases d with
   | true=>
    (repeat' ((try refine aw ?_);(conv=>arg 4;whnf);first | refine az ?_ |(refine sN ?_;intro b)| exact ax | fail));(all_goals refine av ?_)
    all_goals exact a5 (w+1,true) rfl ⟨hlt,by rw [hnx,hg];rfl⟩ cD (by dsimp only;omega)
   | false=>
    (repeat' ((try refine aw ?_);(conv=>arg 4;whnf);first | refine az ?_ |(refine sN ?_;intro b)| exact ax | fail));(all_goals refine av ?_)
    all_goals exact a5 (w+1,true) rfl ⟨hlt,by rw [hnx,hg];rfl⟩ cD (by dsimp only;omega)
  | false=>
   have hI:=uB y hlt hg
   cases d with
   | true=>
    (repeat' ((try refine aw ?_);(conv=>arg 4;whnf);first | refine az ?_ |(refine sN ?_;intro b)| exact ax | fail));(all_goals refine av ?_)
    all_goals exact a5 (w+1,true) rfl ⟨hlt,by rw [hnx,hg];rfl⟩ cD (by dsimp only;omega)
   | false=>
    (repeat' ((try refine aw ?_);(conv=>arg 4;whnf);first | refine az ?_ |(refine sN ?_;intro b)| exact ax | fail));(all_goals refine av ?_)
    all_goals exact a5 (w+1,false) rfl ⟨hlt,by rw [hnx,hg];rfl⟩ cD (by dsimp only;omega)
 ·obtain rfl:w=4:=by omega
  rw [←hd] at hdd
  have hB:=Jm y hdd
  cases d with
  | true=>(repeat' ((try refine aw ?_);(conv=>arg 4;whnf);first | refine az ?_ |(refine sN ?_;intro b)| exact ax | fail));(all_goals refine av ?_)
  | false=>(repeat' ((try refine aw ?_);(conv=>arg 4;whnf);first | refine az ?_ |(refine sN ?_;intro b)| exact ax | fail));(all_goals refine av ?_)
theorem G5:Zp Tryz.prog 281 [vP cb 0] [] (na n 0 j cb tb to m c a1 n1 c1 a2 n2 c2 ts q) Unit (fun _=>True) (fun _=>vI 0) (fun _=> []) (fun _=> []):=by
 refine ak fun G=> ?_
 unfold na
 (repeat' ((try refine aw ?_);(conv=>arg 4;whnf);first | refine az ?_ | exact ax | fail));(all_goals refine av ?_)
theorem GM (h:UOk n ts) (hl:l≤hgt n) (hl0:l≠0) (hj:j<cnt n l):Zp Tryz.prog 281 [vP cb 0] [] (na n l j cb tb to m c a1 n1 c1 a2 n2 c2 ts q) Unit (fun _=>True) (fun _=>vI 0) (fun _=> []) (fun _=> []):=by
 have h5:=a8 n
 have h2:=h.h2
 have htl:=b9 h2
 have hln:=h.ln
 obtain ⟨_,_,_,hen⟩:=fR (h.nd l j hl hj)
 have hen2:=(qQ.1 hen).resolve_left hl0
 obtain ⟨g1,g2,g3,g4⟩:=Bh h hl hl0 hj
 have hn:=pa (cb:=cb) (tb:=tb) (to:=to) (m:=m) (c:=c) (a1:=a1) (n1:=n1) (c1:=c1) (a2:=a2) (n2:=n2) (c2:=c2) (q:=q) h hl hj
 have hcd:=y0 (cb:=cb) (tb:=tb) (to:=to) (m:=m) (c:=c) (a1:=a1) (n1:=n1) (c1:=c1) (a2:=a2) (n2:=n2) (c2:=c2) (q:=q) h hl hl0 hj
 unfold na at hn hcd
 refine ak fun G=> ?_
 unfold na
 refine aS 1 ?_
 intro hnn hc' hm' ha
 subst hnn
 refine DZ 1 (4*j+num n (l-1)) ?_
 (repeat' ((try refine aw ?_);(conv=>arg 4;whnf);first | refine az ?_ |(refine sN ?_;intro b)|(refine aA hcd ?_;intro x hx;refine aH ?_)| exact ax | fail));(all_goals refine av ?_)
 refine dh [] (X:=Nat) (fun w=> [(2,vI 0),(26,vI w)]) (fun w=>w≤prt n l j) (fun w=> []) (fun w=>4-w) 0 (Nat.zero_le _) rfl (ar _) ?_
 intro w hw
 (conv=>arg 2;simp only [List.cons_append,List.nil_append])
 by_cases hlt:w<prt n l j
 ·have hdl:(ts.drop (4*j+num n (l-1))).length=ts.length-(4*j+num n (l-1)):=List.length_drop
  have hat:=d7 (n:=n) (l:=l-1) (j:=4*j+w) (by omega) (g3 w hlt)
  have hY:(ts.drop (4*j+num n (l-1))).getD w default=ts.getD (num n (l-1)+(4*j+w)) default:=by
   rw [List.getD_eq_getElem?_getD,List.getElem?_drop,List.getD_eq_getElem?_getD];congr 2;omega
  have hsl:=h.sl (num n (l-1)+(4*j+w)) (by omega)
  have hcY:=(cA (fR (h.nd (l-1) (4*j+w) (by omega) (g3 w hlt))).1.2.2).1
  have hEn:=hen2 w hlt
  change (ts.getD (num n (l-1)+(4*j+w)) default).sl=0∨(ts.getD (num n (l-1)+(4*j+w)) default).sl=1 at hsl
  change bA (ts.getD (num n (l-1)+(4*j+w)) default).nd=0 at hcY
  change (ts.getD (num n l+j) default).nd.es.l.getD w default=rX (ts.getD (num n (l-1)+(4*j+w)) default) at hEn
  rw [←hY] at hsl hcY hEn
  have hE:=zf (q:=q) hsl hcY
  (repeat' ((try refine aw ?_);(conv=>arg 4;whnf);first | refine az ?_ |(refine sN ?_;intro b)|((first | refine aA hn ?_ | refine aA hE ?_);intro x hx;refine aH ?_)| exact ax | fail));(all_goals refine av ?_)
  (conv=>arg 4;arg 5;ext C;whnf);refine Jf ?_
  (repeat' ((try refine aw ?_);(conv=>arg 4;whnf);first | refine az ?_ |(refine sN ?_;intro b)|(refine aA hE ?_;intro x hx;refine aH ?_)| exact ax | fail));(all_goals refine av ?_)
  (conv=>arg 4;arg 5;ext C;whnf);refine Jf ?_
  (repeat' ((try refine aw ?_);(conv=>arg 4;whnf);first | refine az ?_ |(refine sN ?_;intro b)|(refine aA hE ?_;intro x hx;refine aH ?_)| exact ax | fail));(all_goals refine av ?_)
  (conv=>arg 4;arg 5;ext C;whnf);refine zH ?_ (zq (Gk hEn))
  (repeat' ((try refine aw ?_);(conv=>arg 4;whnf);first | refine az ?_ |(refine sN ?_;intro b)| exact ax | fail));(all_goals refine av ?_)
  exact a5 (w+1) rfl hlt cD (by omega)
 ·(repeat' ((try refine aw ?_);(conv=>arg 4;whnf);first | refine az ?_ |(refine sN ?_;intro b)| exact ax | fail));(all_goals refine av ?_)
theorem HN (h:UOk n ts) (hl:l≤hgt n) (hj:j<cnt n l):(Zp Tryz.prog 279 [vP cb 0] [] (na n l j cb tb to m c a1 n1 c1 a2 n2 c2 ts q) Unit (fun _=>True) (fun _=>vI 0) (fun _=> []) (fun _=> []))∧(Zp Tryz.prog 280 [vP cb 0] [] (na n l j cb tb to m c a1 n1 c1 a2 n2 c2 ts q) Unit (fun _=>True) (fun _=>vI 0) (fun _=> []) (fun _=> []))∧(Zp Tryz.prog 281 [vP cb 0] [] (na n l j cb tb to m c a1 n1 c1 a2 n2 c2 ts q) Unit (fun _=>True) (fun _=>vI 0) (fun _=> []) (fun _=> [])):=by
 refine ⟨GW h hl hj, ?_, ?_⟩
 ·by_cases hl0:l=0
  ·subst hl0;exact GF h hj
  ·exact Gu h hl hl0 hj
 ·by_cases hl0:l=0
  ·subst hl0;exact G5
  ·exact GM h hl hl0 hj
end
theorem Bu {n tb to m c:Nat} {ts:List Un} {q:Value×Value} (h:UOk n ts):Zp Tryz.prog 220 [vA (aV ⟨n,(some ⟨tb,to,none⟩,m,c)⟩)] [] [Sl a7 (some ⟨tb,to,none⟩) m c ts,Gs q] (Sv×Sv) (fun _=>True) (fun x=> .tuple #[vA (b7 ⟨x.1,x.2⟩),vI 0]) (fun _=> []) (fun x=> [Sl cI x.1.1 x.1.2.1 x.1.2.2 (eW n (hgt n+1)),Sl cI x.2.1 x.2.2.1 x.2.2.2 (dC n (hgt n+1))]):=by
 have h1:=h.h1
 have h2:=h.h2
 have htl:=b9 h2
 have hln:=h.ln
 have h5:=a8 n
 refine ak fun G=> ?_
 refine aS 0 ?_
 intro hn hc hm ha
 subst hn
 (repeat' ((try refine aw ?_);(conv=>arg 4;whnf);first | refine aO ?_ |(refine sN ?_;intro b)|(refine cw (Fy h1 h2) ?_;intro x hx;refine bV ?_)| refine ae ?_ | refine ai ?_ |(refine aj rfl ?_;intro D lL)| fail));(all_goals refine av ?_)
 obtain ⟨⟨a1,n1,c1⟩,a2,n2,c2⟩:=x
 dsimp only
 (first |(refine bh ?_;(conv=>arg 4;whnf);refine bc rfl ?_))
 refine aS 0 ?_
 intro hn1 hc1 hm1 ha1
 rw [dA] at hn1
 subst hn1
 obtain ⟨b1,o1,rfl⟩:=ha1 (by omega) (by decide)
 refine aS 1 ?_
 intro hn2 hc2 hm2 ha2
 rw [cj] at hn2
 subst hn2
 obtain ⟨b2,o2,rfl⟩:=ha2 (by omega) (by decide)
 have hcl:=dA n (hgt n+1)
 have hnl:=cj n (hgt n+1)
 (repeat' ((try refine aw ?_);(conv=>arg 4;whnf);first | refine aO ?_ |(refine sN ?_;intro b)|((first | refine aA (Fp (n:=n) h1 h2) ?_ | refine aA (Ju (xs:=ts) h.sl (by omega)) ?_);intro x hx;refine aH ?_)| refine ae ?_ | refine ai ?_ |(refine aj rfl ?_;intro D lL)| fail));(all_goals refine av ?_)
 rename_i yb eb lb0 lb1
 revert b;intro lb2
 refine bG lb2 ?_
 refine sV [0,1,7,8,9] ?_
 (conv=>arg 4;whnf)
 apply q4 [] (X:=Nat) (fun l=> [(9,vI l)]) (fun l=>l≤hgt n+1) (fun l=> []) (fun l=>hgt n+1-l) 0
 ·exact Nat.zero_le _
 ·rfl
 ·exact ar _
 ·intro K H l hl
  (conv=>arg 2;simp only [List.cons_append,List.nil_append])
  by_cases hl1:l<hgt n+1
  ·have hg:(eW n (hgt n+1)).getD l default=cnt n l:=ia (by omega)
   have hg2:(dC n (hgt n+1)).getD l default=num n l:=er (by omega)
   have hcn:=cH n l
   (repeat' ((try refine aw ?_);(conv=>arg 4;whnf);first | refine az ?_ |(refine sN ?_;intro b)| refine ae ?_ | refine ai ?_ |(refine aj rfl ?_;intro D lL)| fail));(all_goals refine av ?_)
   rw [hg]
   refine sV [0,1,3,4,7,8,9,14,15] ?_
   (conv=>arg 4;whnf)
   apply q4 [] (X:=Nat) (fun j=> [(15,vI j)]) (fun j=>j≤cnt n l) (fun j=> []) (fun j=>cnt n l-j) 0
   ·exact Nat.zero_le _
   ·rfl
   ·exact ar _
   ·intro K2 H2 j hj
    (conv=>arg 2;simp only [List.cons_append,List.nil_append])
    by_cases hj1:j<cnt n l
    ·have hN:num n l+j<ts.length:=by rw [hln];exact d7 (by omega) hj1
     (repeat' ((try refine aw ?_);(conv=>arg 4;whnf);first | refine aO ?_ |(refine sN ?_;intro b)| refine ae ?_ | refine ai ?_ |(refine aj rfl ?_;intro D lL)| fail));(all_goals refine av ?_)
     rw [hg2]
     rename_i ub
     revert b;intro wb
     refine bG ub ?_
     have hK:=HN (cb:=ub) (tb:=tb) (to:=to) (m:=ts.length) (c:=c) (a1:=some ⟨b1,o1,none⟩) (n1:=hgt n+1) (c1:=c1) (a2:=some ⟨b2,o2,none⟩) (n2:=hgt n+1) (c2:=c2) (q:=q) h (l:=l) (j:=j) (by omega) hj1
     unfold na at hK
     obtain ⟨e1,e2,e3⟩:=hK
     refine gJ 4 (bN ?_)
     (repeat' ((try refine aw ?_);(conv=>arg 4;whnf);first | refine az ?_ |(refine sN ?_;intro b)|((first | refine sK e1 ?_ | refine sK e2 ?_ | refine sK e3 ?_);intro x hx;refine aH ?_)| refine ae ?_ | refine ai ?_ |(refine aj rfl ?_;intro D lL)| fail));(all_goals refine av ?_)
     refine bN ?_
     (repeat' ((try refine aw ?_);(conv=>arg 4;whnf);first | refine az ?_ |(refine sN ?_;intro b)|((first | refine sK e1 ?_ | refine sK e2 ?_ | refine sK e3 ?_);intro x hx;refine aH ?_)| refine ae ?_ | refine ai ?_ |(refine aj rfl ?_;intro D lL)| fail));(all_goals refine av ?_)
     refine bN ?_
     (repeat' ((try refine aw ?_);(conv=>arg 4;whnf);first | refine az ?_ |(refine sN ?_;intro b)|((first | refine sK e1 ?_ | refine sK e2 ?_ | refine sK e3 ?_);intro x hx;refine aH ?_)| refine ae ?_ | refine ai ?_ |(refine aj rfl ?_;intro D lL)| fail));(all_goals refine av ?_)
     refine bN ?_
     (repeat' ((try refine aw ?_);(conv=>arg 4;whnf);first | refine az ?_ |(refine sN ?_;intro b)| refine ae ?_ | refine ai ?_ |(refine aj rfl ?_;intro D lL)| fail));(all_goals refine av ?_)
     exact a5 (j+1) rfl (by omega) cD (by omega)
    ·obtain rfl:j=cnt n l:=by omega
     (repeat' ((try refine aw ?_);(conv=>arg 4;whnf);first | refine az ?_ |(refine sN ?_;intro b)| refine ae ?_ | refine ai ?_ |(refine aj rfl ?_;intro D lL)| fail));(all_goals refine av ?_)
     exact H2.go
   ·(repeat' ((try refine aw ?_);(conv=>arg 4;whnf);first | refine az ?_ |(refine sN ?_;intro b)| refine ae ?_ | refine ai ?_ |(refine aj rfl ?_;intro D lL)| fail));(all_goals refine av ?_)
    exact a5 (l+1) rfl (by omega) cD (by omega)
  ·obtain rfl:l=hgt n+1:=by omega
   (repeat' ((try refine aw ?_);(conv=>arg 4;whnf);first | refine az ?_ |(refine sN ?_;intro b)| refine ae ?_ | refine ai ?_ |(refine aj rfl ?_;intro D lL)| fail));(all_goals refine av ?_)
   exact H.go
 ·(repeat' ((try refine aw ?_);(conv=>arg 4;whnf);first | refine az ?_ |(refine sN ?_;intro b)| refine ae ?_ | refine ai ?_ |(refine aj rfl ?_;intro D lL)| fail));(all_goals refine av ?_)
  exact aD ((some ⟨b1,o1,none⟩,hgt n+1,c1),(some ⟨b2,o2,none⟩,hgt n+1,c2)) True.intro rfl (am _) bu
end Go.Proofs.YtbobhnldhpjdlaaGreatDoor
namespace Go.Proofs.YtbobhnldhpjdlaaGreatDoor
open Go Go.RowKit Go.Cs Go.Cz
set_option maxRecDepth 100000
set_option maxHeartbeats 4000000
section
variable {n tb to m c:Nat} {ts:List Un} {q:Value×Value}
theorem sE (h:UOk n ts):Zp Tryz.prog 130 [vA (aV ⟨n,(some ⟨tb,to,none⟩,m,c)⟩)] [] [Sl a7 (some ⟨tb,to,none⟩) m c ts,Gs q] Unit (fun _=>True) (fun x=>vI 0) (fun _=> []) (fun x=> []):=by
 refine ak fun G=> ?_
 (repeat' ((try refine aw ?_);(conv=>arg 4;whnf);first | refine az ?_ |(refine sN ?_;intro b)|(refine aA (Bu h) ?_;intro x hx;refine aH ?_)| exact ax | fail));(all_goals refine av ?_)
theorem ug (h:UOk n ts) {b:Nat} (hb:b<n):Zp Tryz.prog 192 [vA (aV ⟨n,(some ⟨tb,to,none⟩,m,c)⟩),vI b] [] [Sl a7 (some ⟨tb,to,none⟩) m c ts,Gs q] (Sv×Sv) (fun _=>True) (fun x=> .tuple #[vA (b7 ⟨x.1,x.2⟩),vI 0]) (fun _=> []) (fun x=> [Sl cI x.1.1 x.1.2.1 x.1.2.2 (eW n (hgt n+1)),Sl cI x.2.1 x.2.2.1 x.2.2.2 (dC n (hgt n+1))]):=by
 refine ak fun G=> ?_
 (repeat' ((try refine aw ?_);(conv=>arg 4;whnf);first | refine az ?_ |(refine sN ?_;intro b)|(refine cw (Bu h) ?_;intro x hx;refine bV ?_)| fail));(all_goals refine av ?_)
 obtain ⟨⟨a1,n1,c1⟩,a2,n2,c2⟩:=x
 exact aD ((a1,n1,c1),(a2,n2,c2)) True.intro rfl (am _) bu
theorem wH {st:Nat} (h:st=0):Zp Tryz.prog 140 [.int .u8 ((st:Nat):Int)] [] [] Unit (fun _=>True) (fun _=> .tuple #[vI 0,vI 11]) (fun _=> []) (fun _=> []):=by
 subst h;exact DW
theorem y7 {y:Un} {w:Nat} (hw:w<4) (hs:(y.nd.rs.l.getD w default).st≤2):Zp Tryz.prog 221 [vA (a7 y),vI w] [] [] Unit (fun _=>True) (fun x=>vI (fM y w)) (fun _=> []) (fun x=> []):=by
 refine ak fun G=> ?_
 by_cases h0:(y.nd.rs.l.getD w default).st=0
 ·have e:fM y w=0:=if_pos (.inl h0)
  rw [e]
  (repeat' ((try refine aw ?_);(conv=>arg 4;whnf);first | refine az ?_ |(refine sN ?_;intro b)|(refine aA (wH h0) ?_;intro x hx;refine aH ?_)| exact ax | fail));(all_goals refine av ?_)
 ·by_cases hg:y.g w=true
  ·have e:fM y w=(y.nd.rs.l.getD w default).st-1:=by
    unfold fM;rw [if_neg (by rintro (g | g);exact h0 g;exact absurd g (by have:=hs;change ¬2<(y.nd.rs.l.getD w default).st;omega)),if_pos hg];rfl
   rw [e]
   have hb:=uB y hw hg
   (repeat' ((try refine aw ?_);(conv=>arg 4;whnf);first | refine az ?_ |(refine sN ?_;intro b)|(refine aA (kt hs h0) ?_;intro x hx;refine aH ?_)| exact ax | fail));(all_goals refine av ?_)
  ·have e:fM y w=1-((y.nd.rs.l.getD w default).st-1):=by
    unfold fM;rw [if_neg (by rintro (g | g);exact h0 g;exact absurd g (by have:=hs;change ¬2<(y.nd.rs.l.getD w default).st;omega)),if_neg hg]
    change 2-(y.nd.rs.l.getD w default).st=_;omega
   rw [e]
   have hb:=uB y hw (Bool.eq_false_iff.2 hg)
   (repeat' ((try refine aw ?_);(conv=>arg 4;whnf);first | refine az ?_ |(refine sN ?_;intro b)|(refine aA (kt hs h0) ?_;intro x hx;refine aH ?_)| exact ax | fail));(all_goals refine av ?_)
theorem AB (hle:ts.length≤24576):Zp Tryz.prog 215 [vA (aV ⟨n,(some ⟨tb,to,none⟩,m,c)⟩)] [] [Sl a7 (some ⟨tb,to,none⟩) m c ts] Nat (fun _=>True) (fun x=>vA (aV ⟨n,(some ⟨x,0,none⟩,ts.length,ts.length)⟩)) (fun x=> [iB x (ts.flatMap a7) 264]) (fun x=> []):=by
 refine ak fun G=> ?_
 refine aS 0 ?_
 intro hn hc hm ha
 subst hn
 (repeat' ((try refine aw ?_);(conv=>arg 4;whnf);first | refine az ?_ |(refine sN ?_;intro b)| refine af ?_ ?_ | fail));(all_goals refine av ?_)
 all_goals rw [Nat.min_self,List.take_length]
 all_goals exact aD _ True.intro rfl cD bu
theorem G6 (h:UOk n ts) {b:Nat} (hb:b<n) (hs:((ts.getD (b/4) default).nd.rs.l.getD (b%4) default).st≤2):Zp Tryz.prog 131 [vA (aV ⟨n,(some ⟨tb,to,none⟩,m,c)⟩),vI b] [] [Sl a7 (some ⟨tb,to,none⟩) m c ts,Gs q] Unit (fun _=>True) (fun x=> .tuple #[vI (fM (ts.getD (b/4) default) (b%4)),vI 0]) (fun _=> []) (fun x=> []):=by
 have hb4:b/4<ts.length:=by
  rw [h.ln];have:=d7 (n:=n) (l:=0) (j:=b/4) (Nat.zero_le _) (by have:=gm n;unfold jR at*;omega);rw [show num n 0=0 from rfl] at this;omega
 have hw:b%4<4:=by omega
 have h2:=h.h2
 refine ak fun G=> ?_
 refine aS 0 ?_
 intro hn hc hm ha
 subst hn
 (repeat' ((try refine aw ?_);(conv=>arg 4;whnf);first | refine az ?_ |(refine sN ?_;intro b)|((first | refine aA (ug h hb) ?_ | refine aA (y7 hw hs) ?_);intro x hx;refine aH ?_)| exact ax | fail));(all_goals refine av ?_)
end
end Go.Proofs.YtbobhnldhpjdlaaGreatDoor
namespace Go.Proofs.YtbobhnldhpjdlaaGreatDoor
open Go Go.RowKit Go.Cs Go.Cz
set_option maxRecDepth 100000
set_option maxHeartbeats 4000000
theorem mE {n:Nat} {ts:List Nod} {l j w:Nat} (hw:w<prt n (l+1) j) (h:gY n ts (l+1) j=0) (h0:∀j,j<cnt n 0→gY n ts 0 j=0) (hlt:4*j+w<cnt n l):
  (((ts.getD (num n (l+1)+j) default).es.l.getD ((4*j+w)%4) default).st=0∧mQ n ts l (4*j+w)=true)∨
  (¬((ts.getD (num n (l+1)+j) default).es.l.getD ((4*j+w)%4) default).st=0∧mQ n ts l (4*j+w)=false∧((ts.getD (num n (l+1)+j) default).es.l.getD ((4*j+w)%4) default).dg=bI (aM (ts.getD (num n l+(4*j+w)) default))):=by
 have hp4:prt n (l+1) j≤4:=Nat.min_le_left _ _
 have hm:(4*j+w)%4=w:=by omega
 rw [hm]
 have hf:=dR h
 have h1:=h
 rw [Fv (fun g=>g hf) (Nat.succ_ne_zero l),bB] at h1
 have h2:=h1 w hw
 unfold yO at h2
 simp only [Nat.add_sub_cancel] at h2
 rw [←sg h0 hlt] at h2
 change (if ((mQ n ts l (4*j+w)=true↔((ts.getD (num n (l+1)+j) default).es.l.getD w default).st=0)∧(((ts.getD (num n (l+1)+j) default).es.l.getD w default).st=0∨((ts.getD (num n (l+1)+j) default).es.l.getD w default).dg.l=(bI (aM (ts.getD (num n l+(4*j+w)) default))).l)) then 0 else 9)=0 at h2
 split at h2
 ·next hq=>
  by_cases hs:((ts.getD (num n (l+1)+j) default).es.l.getD w default).st=0
  ·exact .inl ⟨hs,hq.1.2 hs⟩
  ·refine .inr ⟨hs, ?_, ?_⟩
   ·cases he:mQ n ts l (4*j+w) with
    | false=>rfl
    | true=>exact absurd (hq.1.1 he) hs
   ·rcases hq.2 with g | g
    ·exact absurd g hs
    ·exact Dig.ext' g
 ·cases h2
theorem MP {n:Nat} {ts:List Nod} {l j w:Nat} (hl:l≠0) (hw:w<prt n l j) (h:gY n ts l j=0) (h0:∀j,j<cnt n 0→gY n ts 0 j=0) (hlt:4*j+w<cnt n (l-1)):
  (((ts.getD (num n l+j) default).es.l.getD ((4*j+w)%4) default).st=0∧mQ n ts (l-1) (4*j+w)=true)∨
  (¬((ts.getD (num n l+j) default).es.l.getD ((4*j+w)%4) default).st=0∧mQ n ts (l-1) (4*j+w)=false∧((ts.getD (num n l+j) default).es.l.getD ((4*j+w)%4) default).dg=bI (aM (ts.getD (num n (l-1)+(4*j+w)) default))):=by
 obtain ⟨k,rfl⟩:∃k,l=k+1:=⟨l-1,by omega⟩
 exact mE hw h h0 hlt
theorem Fc {n l:Nat} (hl:l≠0):cnt n l=jR (cnt n (l-1))∧prt n l 0≤4∧(∀j,prt n l j=min 4 (cnt n (l-1)-4*j))∧num n l=num n (l-1)+cnt n (l-1):=by
 obtain ⟨k,rfl⟩:∃k,l=k+1:=⟨l-1,by omega⟩
 exact ⟨rfl,Nat.min_le_left _ _,fun j=>rfl,rfl⟩
theorem FS {n tb to m c:Nat} {a1:Option Addr} {n1 c1:Nat} {a2:Option Addr} {n2 c2:Nat} {ts:List Nod} {q:Value×Value} (h1:1≤n) (h2:n≤4096) (ht:ts.length=tot n) (hT:l6 n ts=0):Zp Tryz.prog 231 [vA (cd ⟨n,(a1,n1,c1),(a2,n2,c2)⟩),vA (cy ⟨n,(some ⟨tb,to,none⟩,m,c)⟩)] [] [Sl aU (some ⟨tb,to,none⟩) m c ts,Sl cI a1 n1 c1 (eW n (hgt n+1)),Sl cI a2 n2 c2 (dC n (hgt n+1)),Gs q] Unit (fun _=>True) (fun _=> .nilIface) (fun _=> []) (fun _=> []):=by
 have h5:=a8 n
 have htl:=eR h1 h2
 have hnd:∀l j,l≤hgt n→j<cnt n l→gY n ts l j=0:=fun l j hl hj=>e9 hT hl hj
 have hcl:=dA n (hgt n+1)
 refine ak fun G=> ?_
 refine aS 1 ?_
 intro hn hc hm ha
 rw [dA] at hn
 subst hn
 obtain ⟨b1,o1,rfl⟩:=ha (by omega) (by decide)
 refine aS 0 ?_
 intro hn hc' hm' ha'
 subst hn
 (repeat' ((try refine aw ?_);(conv=>arg 4;whnf);first | refine az ?_ |(refine sN ?_;intro b)| refine ae ?_ | exact ax | refine af ?_ ?_ | fail));(all_goals refine av ?_)
 rename_i tlb ttb bl bs
 revert b;intro bf
 refine bG bs ?_
 refine bG bl ?_
 refine bG bf ?_
 refine bG ttb ?_
 refine bG tlb ?_
 have hz:=fun l j hl hj=>Ja (b2:=bs) (b3:=bl) (b4:=bf) (tb:=tb) (to:=to) (m:=ts.length) (c:=c) (a1:=some ⟨b1,o1,none⟩) (n1:=hgt n+1) (c1:=c1) (a2:=a2) (n2:=n2) (c2:=c2) h1 h2 ht l j hl hj
 unfold Kf at hz
 clear htl
 refine sV [2,3,5,20,21,4,22] ?_
 (conv=>arg 4;whnf)
 apply q4 [] (X:=Nat) (fun l=> [(4, .nilIface),(22,vI l)]) (fun l=>l≤hgt n+1) (fun l=> []) (fun l=>hgt n+1-l) 0
 ·exact Nat.zero_le _
 ·rfl
 ·exact ar _
 ·intro K H l hl
  (conv=>arg 2;simp only [List.cons_append,List.nil_append])
  by_cases hl1:l<hgt n+1
  ·have hg:(eW n (hgt n+1)).getD l default=cnt n l:=ia (by omega)
   have hcn:=cH n l
   (repeat' ((try refine aw ?_);(conv=>arg 4;whnf);first | refine az ?_ |(refine sN ?_;intro b)| refine ae ?_ | exact ax | refine af ?_ ?_ | fail));(all_goals refine av ?_)
   rw [hg]
   refine sV [2,3,5,20,21,22,6,27,4,28] ?_
   (conv=>arg 4;whnf)
   apply q4 [] (X:=Nat) (fun j=> [(4, .nilIface),(28,vI j)]) (fun j=>j≤cnt n l) (fun j=> []) (fun j=>cnt n l-j) 0
   ·exact Nat.zero_le _
   ·rfl
   ·exact ar _
   ·intro K2 H2 j hj
    (conv=>arg 2;simp only [List.cons_append,List.nil_append])
    by_cases hj1:j<cnt n l
    ·have hE:=hnd l j (by omega) hj1
     obtain ⟨hlv,hix,hfit⟩:=dR hE
     change (ts.getD (num n l+j) default).lv=l at hlv
     change (ts.getD (num n l+j) default).ix=j at hix
     change fj n (ts.getD (num n l+j) default)=0 at hfit
     have hnl:=c7 n (l:=l+1) (m:=hgt n+1) (by omega)
     have hnt:num n l+j<ts.length:=by rw [ht,tot];simp only [num] at hnl⊢;omega
     by_cases hl0:l=0
     ·(repeat' ((try refine aw ?_);(conv=>arg 4;whnf);first | refine az ?_ |(refine sN ?_;intro b)|((first | refine aA (sJ (n:=n) h2 (l:=l) (j:=j) (by omega) (by omega)) ?_ | refine aA (kI (y:=ts.getD (num n l+j) default) h1 h2 hfit) ?_);intro x hx;refine aH ?_)| refine ae ?_ | exact ax | refine af ?_ ?_ | fail));(all_goals refine av ?_)
      exact jV (j+1) (by omega) cD (by omega)
     ·obtain ⟨hcj,_,hpr,hnk2⟩:=Fc (n:=n) hl0
      have hpd:=hpr j
      clear hpr
      have hg1:(eW n (hgt n+1)).getD (l-1) default=cnt n (l-1):=ia (by omega)
      have hcnk:=cH n (l-1)
      have hp4:prt n l j≤4:=Nat.min_le_left _ _
      have hpa:4*j+prt n l j≤cnt n (l-1):=by unfold jR at hcj;omega
      have hmin:min (4*(j+1)) ((eW n (hgt n+1)).getD (l-1) default)=4*j+prt n l j:=by unfold jR at hcj;rw [hg1];omega
      clear hpd hcj
      have hnk:=c7 n (l:=l) (m:=hgt n+1) (by omega)
      (repeat' ((try refine aw ?_);(conv=>arg 4;whnf);first | refine az ?_ |(refine sN ?_;intro b)|((first | refine aA (sJ (n:=n) h2 (l:=l) (j:=j) (by omega) (by omega)) ?_ | refine aA (kI (y:=ts.getD (num n l+j) default) h1 h2 hfit) ?_);intro x hx;refine aH ?_)| refine ae ?_ | exact ax | refine af ?_ ?_ | fail));(all_goals refine av ?_)
      have hmE:=fun (w:Nat) (hw:w<prt n l j)=>MP hl0 hw hE (fun q=>hnd 0 q (Nat.zero_le _)) (show 4*j+w<cnt n (l-1) by omega)
      revert b;intro nb
      refine bG nb ?_
      generalize hpp:prt n l j=p at hp4 hpa hmin hmE
      refine sV [2,3,5,20,21,22,6,27,28,8,9,10,4,11] ?_
      (conv=>arg 4;whnf)
      apply q4 [] (X:=Nat) (fun w=> [(4, .nilIface),(11,vI (4*j+w))]) (fun w=>w≤p) (fun w=> []) (fun w=>4-w) 0
      ·exact Nat.zero_le _
      ·rfl
      ·exact ar _
      ·intro K3 H3 w hw
       (conv=>arg 2;simp only [List.cons_append,List.nil_append])
       by_cases hw1:w<p
       ·have hlt:4*j+w<cnt n (l-1):=by omega
        have hnt2:num n (l-1)+(4*j+w)<ts.length:=by rw [ht,tot];omega
        have hz2:=hz (l-1) (4*j+w) (by omega) hlt
        have hcY:bA (ts.getD (num n (l-1)+(4*j+w)) default)=0:=(cA (dR (hnd (l-1) (4*j+w) (by omega) hlt)).2.2).1
        have hnum:=sJ (n:=n) (s1:=(some ⟨b1,o1,none⟩,hgt n+1,c1)) (s2:=(a2,n2,c2)) h2 (l:=l-1) (j:=4*j+w) (by omega) (by omega)
        have hdig:=jB (q:=q) hcY
        have hmW:=hmE w hw1
        obtain ⟨dg,hdg⟩:∃d,d=bI (aM (ts.getD (num n (l-1)+(4*j+w)) default)):=⟨_,rfl⟩
        rw [←hdg] at hdig hmW
        (repeat' ((try refine aw ?_);(conv=>arg 4;whnf);first | refine aO ?_ |(refine sN ?_;intro b)| refine ae ?_ | exact ax | refine af ?_ ?_ | fail));(all_goals refine av ?_)
        revert b;intro eb
        refine bG eb ?_
        refine BD [2,3,4,5,6,9,11,12,20,21,22,27,28,8,10] ?_
        (conv=>arg 4;whnf)
        refine eD (X:=Nat) (fun x=> [(2,vP tlb 0),(3,vP ttb 0),(4, .nilIface),(5, .func (.func 324) #[] #[vP bs 0,vP bl 0,vP bf 0]),(6,vI l),(9,vI (num n l+j)),(20, .slice (some ⟨b1,o1,none⟩) (hgt n+1) c1),(21,vI (hgt n+1)),(22,vI l),(27,vI (cnt n l)),(28,vI j),(8,vI j),(10,vP nb 0),(11,vI (4*j+w)),(12,vP eb 0),(13,vP x 0)]) (fun _=>True) (fun x=> [iB x (ay dg) 66]) (fun _=> []) ?_ ?_
        ·intro K4
         refine gM [] [Bk tlb (cd ⟨n,(some ⟨b1,o1,none⟩,hgt n+1,c1),(a2,n2,c2)⟩),Bk ttb (cy ⟨n,(some ⟨tb,to,none⟩,ts.length,c)⟩),Sl aU (some ⟨tb,to,none⟩) ts.length c ts] (am _) bu rfl ?_
         (repeat' ((try refine aw ?_);(conv=>arg 4;whnf);first | refine yH ?_ |(refine sN ?_;intro b)|((first | refine aA hnum ?_ | refine aA hdig ?_);intro x hx;refine aH ?_)| refine ae ?_ | exact ax | refine af ?_ ?_ | fail));(all_goals refine av ?_)
         all_goals (
          revert b;intro db
          exact d9 db True.intro cD bu)
        intro db _
        (conv=>arg 2;simp only [List.cons_append,List.nil_append])
        (conv=>arg 3;simp only [List.cons_append,List.nil_append])
        (repeat' ((try refine aw ?_);(conv=>arg 4;whnf);first | refine aO ?_ |(refine sN ?_;intro b)| refine ae ?_ | exact ax | refine af ?_ ?_ | fail));(all_goals refine av ?_)
        refine bG db ?_
        refine eD (X:=Unit) (fun x=> [(2,vP tlb 0),(3,vP ttb 0),(4, .nilIface),(5, .func (.func 324) #[] #[vP bs 0,vP bl 0,vP bf 0]),(6,vI l),(9,vI (num n l+j)),(20, .slice (some ⟨b1,o1,none⟩) (hgt n+1) c1),(21,vI (hgt n+1)),(22,vI l),(27,vI (cnt n l)),(28,vI j),(8,vI j),(10,vP nb 0),(11,vI (4*j+w)),(117, .bool false)]) (fun _=>True) (fun x=> []) (fun _=> []) ?_ ?_
        ·intro K4
         rcases hmW with ⟨hs,he⟩|⟨hs,he,hd⟩
         ·rw [he] at hz2
          refine gM [] [Bk eb (c6 ((ts.getD (num n l+j) default).es.l.getD ((4*j+w)%4) default)),Bk db (ay dg)] (am _) bu rfl ?_
          (repeat' ((try refine aw ?_);(conv=>arg 4;whnf);first | refine yH ?_ |(refine sN ?_;intro b)|(refine sK hz2 ?_;intro x hx;refine aH ?_)| refine ae ?_ | exact ax | refine af ?_ ?_ | fail));(all_goals refine av ?_)
          exact d9 () True.intro (am _) bu
         ·rw [he] at hz2
          refine gM [] [Bk eb (c6 ((ts.getD (num n l+j) default).es.l.getD ((4*j+w)%4) default)),Bk db (ay dg)] (am _) bu rfl ?_
          (repeat' ((try refine aw ?_);(conv=>arg 4;whnf);first | refine yH ?_ |(refine sN ?_;intro b)|(refine sK hz2 ?_;intro x hx;refine aH ?_)| refine ae ?_ | exact ax | refine af ?_ ?_ | fail));(all_goals refine av ?_)
          (conv=>arg 4;arg 5;ext C;whnf)
          refine cR ?_ (qK hd)
          (repeat' ((try refine aw ?_);(conv=>arg 4;whnf);first | refine yH ?_ |(refine sN ?_;intro b)|(refine sK hz2 ?_;intro x hx;refine aH ?_)| refine ae ?_ | exact ax | refine af ?_ ?_ | fail));(all_goals refine av ?_)
          exact d9 () True.intro (am _) bu
        intro _ _
        (conv=>arg 2;simp only [List.cons_append,List.nil_append])
        (conv=>arg 3;simp only [List.cons_append,List.nil_append])
        (repeat' ((try refine aw ?_);(conv=>arg 4;whnf);first | refine aO ?_ |(refine sN ?_;intro b)| refine ae ?_ | exact ax | refine af ?_ ?_ | fail));(all_goals refine av ?_)
        exact jV (w+1) (by omega) cD (by omega)
       ·obtain rfl:w=p:=by omega
        (repeat' ((try refine aw ?_);(conv=>arg 4;whnf);first | refine az ?_ |(refine sN ?_;intro b)| refine ae ?_ | exact ax | refine af ?_ ?_ | fail));(all_goals refine av ?_)
        exact H3.go
      ·(repeat' ((try refine aw ?_);(conv=>arg 4;whnf);first | refine az ?_ |(refine sN ?_;intro b)| refine ae ?_ | exact ax | refine af ?_ ?_ | fail));(all_goals refine av ?_)
       exact jV (j+1) (by omega) cD (by omega)
    ·obtain rfl:j=cnt n l:=by omega
     (repeat' ((try refine aw ?_);(conv=>arg 4;whnf);first | refine az ?_ |(refine sN ?_;intro b)| refine ae ?_ | exact ax | refine af ?_ ?_ | fail));(all_goals refine av ?_)
     exact H2.go
   ·(repeat' ((try refine aw ?_);(conv=>arg 4;whnf);first | refine az ?_ |(refine sN ?_;intro b)| refine ae ?_ | exact ax | refine af ?_ ?_ | fail));(all_goals refine av ?_)
    exact jV (l+1) (by omega) cD (by omega)
  ·obtain rfl:l=hgt n+1:=by omega
   (repeat' ((try refine aw ?_);(conv=>arg 4;whnf);first | refine az ?_ |(refine sN ?_;intro b)| refine ae ?_ | exact ax | refine af ?_ ?_ | fail));(all_goals refine av ?_)
   exact H.go
 ·(repeat' ((try refine aw ?_);(conv=>arg 4;whnf);first | refine az ?_ |(refine sN ?_;intro b)| refine ae ?_ | exact ax | refine af ?_ ?_ | fail));(all_goals refine av ?_)
end Go.Proofs.YtbobhnldhpjdlaaGreatDoor
namespace Go.Proofs.YtbobhnldhpjdlaaGreatDoor
open Go Go.RowKit Go.Cs Go.Cz
set_option maxRecDepth 100000
set_option maxHeartbeats 4000000
instance:Mi Tryz.prog 403:=⟨fun v w=>by kernel_rfl⟩
theorem tM:Zp Tryz.prog 149 [.nilIface] [] [] Unit (fun _=>True) (fun _=>vI 0) (fun _=> []) (fun _=> []):=by
 refine ak fun G=> ?_
 (repeat' ((try refine aw ?_);(conv=>arg 4;whnf);first | refine az ?_ |(refine sN ?_;intro b)| refine ae ?_ | exact ax | fail));(all_goals refine av ?_)
 refine nF nK ?_
 (repeat' ((try refine aw ?_);(conv=>arg 4;whnf);first | refine az ?_ |(refine sN ?_;intro b)| refine ae ?_ | exact ax | fail));(all_goals refine av ?_)
section
variable {n tb to m c:Nat} {ts:List Nod} {q:Value×Value}
theorem GK (h1:1≤n) (h2:n≤4096) (ht:ts.length=tot n) (hT:l6 n ts=0):Zp Tryz.prog 151 [vA (cy ⟨n,(some ⟨tb,to,none⟩,m,c)⟩)] [] [Sl aU (some ⟨tb,to,none⟩) m c ts,Gs q] (Sv×Sv) (fun _=>True) (fun x=> .tuple #[vA (cd ⟨n,x.1,x.2⟩),vI 0]) (fun _=> []) (fun x=> [Sl cI x.1.1 x.1.2.1 x.1.2.2 (eW n (hgt n+1)),Sl cI x.2.1 x.2.2.1 x.2.2.2 (dC n (hgt n+1))]):=by
 refine ak fun G=> ?_
 refine aS 0 ?_
 intro hn hc hm ha
 subst hn
 (repeat' ((try refine aw ?_);(conv=>arg 4;whnf);first | refine aO ?_ |(refine sN ?_;intro b)|(refine cw (G4 h1 h2) ?_;intro x hx;refine bV ?_)| fail));(all_goals refine av ?_)
 obtain ⟨⟨a1,n1,c1⟩,a2,n2,c2⟩:=x
 dsimp only
 (repeat' ((try refine aw ?_);(conv=>arg 4;whnf);first | refine az ?_ |(refine sN ?_;intro b)|((first | refine aA (Fl h1 h2) ?_ | refine aA (FS h1 h2 ht hT) ?_ | refine aA tM ?_);intro x hx;refine aH ?_)| fail));(all_goals refine av ?_)
 exact aD ((a1,n1,c1),a2,n2,c2) True.intro rfl (am _) bu
theorem zh (h1:1≤n) (h2:n≤4096) (ht:ts.length=tot n) (hT:l6 n ts=0):Zp Tryz.prog 142 [vA (cy ⟨n,(some ⟨tb,to,none⟩,m,c)⟩)] [] [Sl aU (some ⟨tb,to,none⟩) m c ts,Gs q] Unit (fun _=>True) (fun x=>vI 0) (fun _=> []) (fun _=> []):=by
 refine ak fun G=> ?_
 refine aS 0 ?_
 intro hn hc hm ha
 subst hn
 (repeat' ((try refine aw ?_);(conv=>arg 4;whnf);first | refine az ?_ |(refine sN ?_;intro b)|(refine aA (GK (q:=q) h1 h2 ht hT) ?_;intro x hx;refine aH ?_)| exact ax | fail));(all_goals refine av ?_)
end
end Go.Proofs.YtbobhnldhpjdlaaGreatDoor
