/- Lemmas and walks: what each function does, by its own code. No condition beyond those of each statement. -/
import Derived.Test.YtbobhnldhpjdlaaGreatDoorP7
import Derived.Test.YtbobhnldhpjdlaaGreatDoorP11
import Derived.Test.YtbobhnldhpjdlaaGreatDoorP18
set_option linter.all false
set_option linter.unusedVariables false
namespace Go.Proofs.YtbobhnldhpjdlaaGreatDoor
open Go Go.RowKit Go.Cs Go.Cz
set_option maxRecDepth 100000
set_option maxHeartbeats 1000000
theorem ux {x:UInt8}:x&&&1=1↔((x&&&1).toNat:Int)=1:=by
 constructor
 ·intro h;rw [h];rfl
 ·intro h;apply UInt8.toNat_inj.1;show _=1;omega
theorem Aw {u v:UInt8}:Zp Tryz.prog 341 [vb u,vb v] [] [] Unit (fun _=>True) (fun _=>vb (tI u v)) (fun _=> []) (fun _=> []):=by
 refine ak fun G=> ?_
 (repeat' ((try refine aw ?_);(conv=>arg 4;whnf);first | refine az ?_ |(refine sN ?_;intro b)|(refine sC ?_ ?_<;>intro h)| refine ae ?_ | exact ax | fail));(all_goals refine av ?_)
 refine cN (X:=Nat) (fun i=> [(9,vI i),(5,vb (nE u v i).2)]) (fun i=>i≤8) (fun i=> [iB b [vb (nE u v i).1] 5]) (fun i=>8-i) 0 (Nat.zero_le _) rfl (ar _) ?_
 intro i hi
 by_cases h:i<8
 ·(repeat' ((try refine aw ?_);(conv=>arg 4;whnf);first | refine az ?_ |(refine sN ?_;intro b)|(refine sC ?_ ?_<;>intro h)| refine ae ?_ | exact ax | fail));(all_goals refine av ?_)
  ·refine a5 (i+1) ?_ (by omega) (ar _) (by omega)
   have h3:=ux.2 h
   simp only [Hs,List.map_cons,List.map_nil,nE,if_pos h3];rfl
  ·refine a5 (i+1) ?_ (by omega) (ar _) (by omega)
   have h3:¬(v>>>UInt8.ofNat i&&&1=1):=fun e=>h (ux.1 e)
   simp only [Hs,List.map_cons,List.map_nil,nE,if_neg h3];rfl
 ·obtain rfl:i=8:=by omega
  (repeat' ((try refine aw ?_);(conv=>arg 4;whnf);first | refine az ?_ |(refine sN ?_;intro b)|(refine sC ?_ ?_<;>intro h)| refine ae ?_ | exact ax | fail));(all_goals refine av ?_)
theorem IZ {u:UInt8} (h:(u.toNat:Int)=0):u=0:=UInt8.toNat_inj.1 (by show _=0;omega)
theorem DY {u:UInt8} {k:Nat} (hk:k≤9223372036854775807):Zp Tryz.prog 330 [vb u,vI k] [] [] Unit (fun _=>True) (fun _=>vb (rj u k)) (fun _=> []) (fun _=> []):=by
 refine ak fun G=> ?_
 (repeat' ((try refine aw ?_);(conv=>arg 4;whnf);first | refine az ?_ |(refine sC ?_ ?_<;>intro h)| exact ax | fail));(all_goals refine av ?_)
 ·rename_i h2
  exact aD () True.intro (by rw [IZ h2,show k=0 by omega];rfl) (am _)
 ·rename_i h2
  exact aD () True.intro (by rw [IZ h2,rj,if_pos rfl,if_neg (by omega)];rfl) (am _)
 have h0:¬u=0:=fun e=>h (by rw [e];rfl)
 refine cN (X:=UInt8×Nat×UInt8) (fun x=> [(0,vb x.1),(5,vI x.2.1),(6,vb x.2.2)]) (fun x=>x.2.1≤9223372036854775807∧Al x.1 x.2.1 x.2.2=rj u k) (fun x=> []) (fun x=>x.2.1) (u,k%255,1) ?_ rfl (ar _) ?_
 ·exact ⟨by dsimp only;omega,by rw [rj,if_neg h0]⟩
 rintro ⟨a,k',o⟩ ⟨h1,h2⟩
 dsimp only at h1 h2⊢
 by_cases h3:k'=0
 ·subst h3
  rw [Al,if_pos rfl] at h2
  subst h2
  (repeat' ((try refine aw ?_);(conv=>arg 4;whnf);first | refine az ?_ |(refine sC ?_ ?_<;>intro h)| exact ax | fail));(all_goals refine av ?_)
 ·rw [Al,if_neg h3] at h2
  by_cases h4:k'%2=1
  ·rw [if_pos h4] at h2
   (repeat' ((try refine aw ?_);(conv=>arg 4;whnf);first | refine az ?_ |(refine sC ?_ ?_<;>intro h)|(refine aA Aw ?_;intro x hx;refine aH ?_)| exact ax | fail));(all_goals refine av ?_)
   refine a5 ((tI a a,k'/2,tI o a):UInt8×Nat×UInt8) rfl ⟨by dsimp only;omega,h2⟩ (ar _) (by dsimp only;omega)
  ·rw [if_neg h4] at h2
   (repeat' ((try refine aw ?_);(conv=>arg 4;whnf);first | refine az ?_ |(refine sC ?_ ?_<;>intro h)|(refine aA Aw ?_;intro x hx;refine aH ?_)| exact ax | fail));(all_goals refine av ?_)
   refine a5 ((tI a a,k'/2,o):UInt8×Nat×UInt8) rfl ⟨by dsimp only;omega,h2⟩ (ar _) (by dsimp only;omega)
theorem Hv {u:UInt8} {k:Nat} (h1:1≤k) (h2:k≤7):Zp Tryz.prog 340 [vb u,vI k] [] [] Unit (fun _=>True) (fun _=>vb (LG u k)) (fun _=> []) (fun _=> []):=by
 refine ak fun G=> ?_
 (repeat' ((try refine aw ?_);(conv=>arg 4;whnf);first | refine az ?_ | fail));(all_goals refine av ?_)
 exact aD () True.intro (by rw [LG,show k%8=k by omega];rfl) (am _)
theorem EP {u:UInt8}:Zp Tryz.prog 329 [vb u] [] [] Unit (fun _=>True) (fun _=>vb (fU u)) (fun _=> []) (fun _=> []):=by
 refine ak fun G=> ?_
 obtain ⟨p,hp⟩:∃p,p=rj u 254:=⟨_,rfl⟩
 have hz:=DY (u:=u) (k:=254) (by decide)
 rw [←hp] at hz
 (repeat' ((try refine aw ?_);(conv=>arg 4;whnf);first | refine az ?_ |(refine aA hz ?_;intro x hx;refine aH ?_)| refine ae ?_ | fail));(all_goals refine av ?_)
 refine cN (X:=Nat) (fun i=> [(5,vI (i+1)),(4,vb (Gj p i))]) (fun i=>i≤4) (fun i=> []) (fun i=>4-i) 0 (Nat.zero_le _) rfl (ar _) ?_
 intro i hi
 by_cases h:i<4
 ·(repeat' ((try refine aw ?_);(conv=>arg 4;whnf);first | refine az ?_ |(refine aA (Hv (k:=i+1) (by omega) (by omega)) ?_;intro x hx;refine aH ?_)| refine ae ?_ | fail));(all_goals refine av ?_)
  exact a5 (i+1) rfl (by omega) (ar _) (by omega)
 ·obtain rfl:i=4:=by omega
  (repeat' ((try refine aw ?_);(conv=>arg 4;whnf);first | refine az ?_ | refine ae ?_ | fail));(all_goals refine av ?_)
  exact aD () True.intro (by rw [fU,←hp];rfl) (am _)
end Go.Proofs.YtbobhnldhpjdlaaGreatDoor
namespace Go.Proofs.YtbobhnldhpjdlaaGreatDoor
open Go Go.RowKit Go.Cs Go.Cz
set_option maxRecDepth 100000
set_option maxHeartbeats 1000000
abbrev tU:Value:= .tuple #[]
theorem zE {sb e:Nat} {s:List UInt8} {k:B16} (hs:s.length=16):Zp Tryz.prog 331 [vP sb 0,vA (dE k)] [iB sb (bE s) e] [] Unit (fun _=>True) (fun _=>tU) (fun _=> [iB sb (bE (kQ s k.l)) e]) (fun _=> []):=by
 refine ak fun G=> ?_
 (repeat' ((try refine aw ?_);(conv=>arg 4;whnf);first | refine az ?_ |(refine sN ?_;intro b)| fail));(all_goals refine av ?_)
 have hA:(kQ s k.l).length=s.length:=by simp [kQ,hs]
 refine cN (X:=Nat) (fun i=> [(5,vI i)]) (fun i=>i≤16) (fun i=> [iB sb (bE (gQ (kQ s k.l) s i)) e,iB b (dE k) 31]) (fun i=>16-i) 0 (Nat.zero_le _) rfl ?_ ?_
 ·rw [eX];((repeat' (first | with_reducible exact ar _ | exact am _ | refine aE ?_ ?_ | fail))<;>(try with_reducible rfl))
 intro i hi
 have hl:=fS (new:=kQ s k.l) (old:=s) (t:=i) hA (by omega)
 by_cases h:i<16
 ·have ho:=pG (new:=kQ s k.l) (old:=s) (t:=i) (j:=i) hA (Nat.le_refl _) (by omega)
  have hn:=eF (new:=kQ s k.l) (old:=s) (t:=i) (x:=s.getD i default^^^k.l.getD i default) hA (by omega) (by simp [kQ,List.getD,h])
  (repeat' ((try refine aw ?_);(conv=>arg 4;whnf);first | refine az ?_ |(refine sN ?_;intro b)| fail));(all_goals refine av ?_)
  refine a5 (i+1) rfl (by omega) ?_ (by omega)
  rw [ho,hn];((repeat' (first | with_reducible exact ar _ | exact am _ | refine aE ?_ ?_ | fail))<;>(try with_reducible rfl))
 ·obtain rfl:i=16:=by omega
  rw [gy (by omega) (by omega)]
  (repeat' ((try refine aw ?_);(conv=>arg 4;whnf);first | refine az ?_ |(refine sN ?_;intro b)| fail));(all_goals refine av ?_)
  exact aD () True.intro rfl (aE (am _) rfl)
theorem E1 {sb e:Nat} {s:List UInt8} (hs:s.length=16):Zp Tryz.prog 332 [vP sb 0, .func (.func 329) #[] #[]] [iB sb (bE s) e] [] Unit (fun _=>True) (fun _=>tU) (fun _=> [iB sb (bE (kr fU s)) e]) (fun _=> []):=by
 refine ak fun G=> ?_
 (repeat' ((try refine aw ?_);(conv=>arg 4;whnf);first | refine az ?_ | fail));(all_goals refine av ?_)
 have hA:(kr fU s).length=s.length:=by simp [kr,hs]
 refine cN (X:=Nat) (fun i=> [(10,vI i)]) (fun i=>i≤16) (fun i=> [iB sb (bE (gQ (kr fU s) s i)) e]) (fun i=>16-i) 0 (Nat.zero_le _) rfl ?_ ?_
 ·rw [eX];((repeat' (first | with_reducible exact ar _ | exact am _ | refine aE ?_ ?_ | fail))<;>(try with_reducible rfl))
 intro i hi
 have hl:=fS (new:=kr fU s) (old:=s) (t:=i) hA (by omega)
 by_cases h:i<16
 ·have hn:=eF (new:=kr fU s) (old:=s) (t:=i) (x:=fU (s.getD i default)) hA (by omega) (by simp [kr,List.getD,h])
  (repeat' ((try refine aw ?_);(conv=>arg 4;whnf);first | refine az ?_ |(refine aA EP ?_;intro x hx;refine aH ?_)| fail));(all_goals refine av ?_)
  refine a5 (i+1) rfl (by omega) ?_ (by omega)
  rw [hn];((repeat' (first | with_reducible exact ar _ | exact am _ | refine aE ?_ ?_ | fail))<;>(try with_reducible rfl))
 ·obtain rfl:i=16:=by omega
  rw [gy (by omega) (by omega)]
  (repeat' ((try refine aw ?_);(conv=>arg 4;whnf);first | refine az ?_ | fail));(all_goals refine av ?_)
  exact aD () True.intro rfl (aE (am _) rfl)
end Go.Proofs.YtbobhnldhpjdlaaGreatDoor
namespace Go.Proofs.YtbobhnldhpjdlaaGreatDoor
open Go Go.RowKit Go.Cs Go.Cz
set_option maxRecDepth 100000
set_option maxHeartbeats 1000000
theorem EZ {sb e:Nat} {s:List UInt8} (hs:s.length=16):Zp Tryz.prog 333 [vP sb 0,vI 1] [iB sb (bE s) e] [] Unit (fun _=>True) (fun _=>tU) (fun _=> [iB sb (bE (kq 1 s)) e]) (fun _=> []):=by
 refine ak fun G=> ?_
 (repeat' ((try refine aw ?_);(conv=>arg 4;whnf);first | refine az ?_ |(refine sN ?_;intro b)| fail));(all_goals refine av ?_)
 have hA:(kq 1 s).length=s.length:=by simp [kq,hs]
 refine cN (X:=Nat) (fun c=> [(11,vI c)]) (fun c=>c≤4) (fun c=> [iB sb (bE (gQ (kq 1 s) s (4*c))) e,iB b (bE s) 31]) (fun c=>4-c) 0 (Nat.zero_le _) rfl ?_ ?_
 ·rw [Nat.mul_zero,eX];((repeat' (first | with_reducible exact ar _ | exact am _ | refine aE ?_ ?_ | fail))<;>(try with_reducible rfl))
 intro c hc
 by_cases h:c<4
 ·(repeat' ((try refine aw ?_);(conv=>arg 4;whnf);first | refine az ?_ |(refine sN ?_;intro b)| fail));(all_goals refine av ?_)
  refine cN (X:=Nat) (fun r=> [(14,vI r)]) (fun r=>r≤4) (fun r=> [iB sb (bE (gQ (kq 1 s) s (4*c+r))) e,iB b (bE s) 31]) (fun r=>4-r) 0 (Nat.zero_le _) rfl ?_ ?_
  ·rw [Nat.add_zero];((repeat' (first | with_reducible exact ar _ | exact am _ | refine aE ?_ ?_ | fail))<;>(try with_reducible rfl))
  intro r hr
  have hl:=fS (new:=kq 1 s) (old:=s) (t:=4*c+r) hA (by omega)
  by_cases h2:r<4
  ·have hn:=eF (new:=kq 1 s) (old:=s) (t:=4*c+r) (x:=s.getD (4*((c+1*r)%4)+r) default) hA (by omega) (by
    rw [kq,List.getD_eq_getElem?_getD (l:=List.map _ _),List.getElem?_map,List.getElem?_range (by omega)]
    simp only [Option.map_some,Option.getD_some]
    rw [show (4*c+r)/4=c by omega,show (4*c+r)%4=r by omega])
   (repeat' ((try refine aw ?_);(conv=>arg 4;whnf);first | refine az ?_ |(refine sN ?_;intro b)| fail));(all_goals refine av ?_)
   refine a5 (r+1) rfl (by omega) ?_ (by omega)
   rw [hn,Nat.add_assoc];((repeat' (first | with_reducible exact ar _ | exact am _ | refine aE ?_ ?_ | fail))<;>(try with_reducible rfl))
  ·obtain rfl:r=4:=by omega
   (repeat' ((try refine aw ?_);(conv=>arg 4;whnf);first | refine az ?_ |(refine sN ?_;intro b)| fail));(all_goals refine av ?_)
   refine a5 (c+1) rfl (by omega) ?_ (by omega)
   rw [show 4*(c+1)=4*c+4 by omega];((repeat' (first | with_reducible exact ar _ | exact am _ | refine aE ?_ ?_ | fail))<;>(try with_reducible rfl))
 ·obtain rfl:c=4:=by omega
  rw [gy (by omega) (by omega)]
  (repeat' ((try refine aw ?_);(conv=>arg 4;whnf);first | refine az ?_ |(refine sN ?_;intro b)| fail));(all_goals refine av ?_)
  exact aD () True.intro rfl (aE (am _) rfl)
theorem HT {sb e:Nat} {s f:List UInt8} (hs:s.length=16) (hf:f.length=4):Zp Tryz.prog 334 [vP sb 0,vA (bE f)] [iB sb (bE s) e] [] Unit (fun _=>True) (fun _=>tU) (fun _=> [iB sb (bE (kW f s)) e]) (fun _=> []):=by
 refine ak fun G=> ?_
 (repeat' ((try refine aw ?_);(conv=>arg 4;whnf);first | refine az ?_ |(refine sN ?_;intro b)| fail));(all_goals refine av ?_)
 rename_i fb
 have hA:(kW f s).length=s.length:=by simp [kW,hs]
 refine cN (X:=Nat) (fun c=> [(14,vI c)]) (fun c=>c≤4) (fun c=> [iB sb (bE (gQ (kW f s) s (4*c))) e,iB b (bE s) 31,iB fb (bE f) 527]) (fun c=>4-c) 0 (Nat.zero_le _) rfl ?_ ?_
 ·rw [Nat.mul_zero,eX];((repeat' (first | with_reducible exact ar _ | exact am _ | refine aE ?_ ?_ | fail))<;>(try with_reducible rfl))
 intro c hc
 by_cases h:c<4
 ·(repeat' ((try refine aw ?_);(conv=>arg 4;whnf);first | refine az ?_ |(refine sN ?_;intro b)| fail));(all_goals refine av ?_)
  refine cN (X:=Nat) (fun r=> [(17,vI r)]) (fun r=>r≤4) (fun r=> [iB sb (bE (gQ (kW f s) s (4*c+r))) e,iB b (bE s) 31,iB fb (bE f) 527]) (fun r=>4-r) 0 (Nat.zero_le _) rfl ?_ ?_
  ·rw [Nat.add_zero];((repeat' (first | with_reducible exact ar _ | exact am _ | refine aE ?_ ?_ | fail))<;>(try with_reducible rfl))
  intro r hr
  have hl:=fS (new:=kW f s) (old:=s) (t:=4*c+r) hA (by omega)
  by_cases h2:r<4
  ·have hn:=eF (new:=kW f s) (old:=s) (t:=4*c+r) (x:=Do f s c r 4) hA (by omega) (by
    rw [kW,List.getD_eq_getElem?_getD (l:=List.map _ _),List.getElem?_map,List.getElem?_range (by omega)]
    simp only [Option.map_some,Option.getD_some]
    rw [show (4*c+r)/4=c by omega,show (4*c+r)%4=r by omega])
   (repeat' ((try refine aw ?_);(conv=>arg 4;whnf);first | refine az ?_ |(refine sN ?_;intro b)| fail));(all_goals refine av ?_)
   refine cN (X:=Nat) (fun i=> [(21,vI i),(7,vb (Do f s c r i))]) (fun i=>i≤4) (fun i=> [iB sb (bE (gQ (kW f s) s (4*c+r))) e,iB b (bE s) 31,iB fb (bE f) 527]) (fun i=>4-i) 0 (Nat.zero_le _) rfl ?_ ?_
   ·((repeat' (first | with_reducible exact ar _ | exact am _ | refine aE ?_ ?_ | fail))<;>(try with_reducible rfl))
   intro i hi
   by_cases h3:i<4
   ·(repeat' ((try refine aw ?_);(conv=>arg 4;whnf);first | refine az ?_ |(refine sN ?_;intro b)|(refine aA Aw ?_;intro x hx;refine aH ?_)| fail));(all_goals refine av ?_)
    refine a5 (i+1) rfl (by omega) ?_ (by omega)
    ((repeat' (first | with_reducible exact ar _ | exact am _ | refine aE ?_ ?_ | fail))<;>(try with_reducible rfl))
   ·obtain rfl:i=4:=by omega
    (repeat' ((try refine aw ?_);(conv=>arg 4;whnf);first | refine az ?_ |(refine sN ?_;intro b)| fail));(all_goals refine av ?_)
    refine a5 (r+1) rfl (by omega) ?_ (by omega)
    rw [hn,Nat.add_assoc];((repeat' (first | with_reducible exact ar _ | exact am _ | refine aE ?_ ?_ | fail))<;>(try with_reducible rfl))
  ·obtain rfl:r=4:=by omega
   (repeat' ((try refine aw ?_);(conv=>arg 4;whnf);first | refine az ?_ |(refine sN ?_;intro b)| fail));(all_goals refine av ?_)
   refine a5 (c+1) rfl (by omega) ?_ (by omega)
   rw [show 4*(c+1)=4*c+4 by omega];((repeat' (first | with_reducible exact ar _ | exact am _ | refine aE ?_ ?_ | fail))<;>(try with_reducible rfl))
 ·obtain rfl:c=4:=by omega
  rw [gy (by omega) (by omega)]
  (repeat' ((try refine aw ?_);(conv=>arg 4;whnf);first | refine az ?_ |(refine sN ?_;intro b)| fail));(all_goals refine av ?_)
  exact aD () True.intro rfl (aE (am _) rfl)
end Go.Proofs.YtbobhnldhpjdlaaGreatDoor
namespace Go.Proofs.YtbobhnldhpjdlaaGreatDoor
open Go Go.RowKit Go.Cs Go.Cz
set_option maxRecDepth 100000
set_option maxHeartbeats 1000000
theorem JY {sch:List B16} {y:B16} (hs:sch.length=11):Zp Tryz.prog 302 [vA (sch.flatMap dE),vA (dE y)] [] [] Unit (fun _=>True) (fun _=>vA (dE (xQ sch y))) (fun _=> []) (fun _=> []):=by
 refine ak fun G=> ?_
 (repeat' ((try refine aw ?_);(conv=>arg 4;whnf);first | refine az ?_ |(refine sN ?_;intro b)|(refine da (zE y.h) ?_;intro x hx;refine bV ?_)| exact ax | fail));(all_goals refine av ?_)
 rename_i sb xb ob
 refine cN (X:=Nat) (fun k=> [(10,vI (k+1))]) (fun k=>k≤10) (fun k=> [iB b (bE (nr sch y k).l) 531,iB ob (dE B16.zero) 31,iB xb (dE y) 31,iB sb (sch.flatMap dE) 504]) (fun k=>10-k) 0 (Nat.zero_le _) rfl ?_ ?_
 ·((repeat' (first | with_reducible exact ar _ | exact am _ | refine aE ?_ ?_ | fail))<;>(try with_reducible rfl))
  all_goals rfl
 intro k hk
 have hl:=(nr sch y k).h
 by_cases h:k<10
 ·have h1:(kr fU (nr sch y k).l).length=16:=by simp [kr]
  have h2:(kq 1 (kr fU (nr sch y k).l)).length=16:=by simp [kq]
  by_cases h9:k+1<10
  ·have h3:(kW [2,3,1,1] (kq 1 (kr fU (nr sch y k).l))).length=16:=by simp [kW]
   (repeat' ((try refine aw ?_);(conv=>arg 4;whnf);first | refine az ?_ |(refine sN ?_;intro b)|((first | refine da (E1 hl) ?_ | refine da (EZ h1) ?_);intro x hx;refine bV ?_)| exact ax | fail));(all_goals refine av ?_)
   refine nF (Ls (a:=2) (b:=3) (c:=1) (d:=1)) ?_
   (repeat' ((try refine aw ?_);(conv=>arg 4;whnf);first | refine az ?_ |(refine sN ?_;intro b)|((first | refine da (HT (f:= [2,3,1,1]) h2 rfl) ?_ | refine da (zE h3) ?_);intro x hx;refine bV ?_)| exact ax | fail));(all_goals refine av ?_)
   refine a5 (k+1) rfl (by omega) ?_ (by omega)
   rw [nr,if_pos h9];((repeat' (first | with_reducible exact ar _ | exact am _ | refine aE ?_ ?_ | fail))<;>(try with_reducible rfl))
   all_goals rfl
  ·(repeat' ((try refine aw ?_);(conv=>arg 4;whnf);first | refine az ?_ |(refine sN ?_;intro b)|((first | refine da (E1 hl) ?_ | refine da (EZ h1) ?_ | refine da (zE h2) ?_);intro x hx;refine bV ?_)| exact ax | fail));(all_goals refine av ?_)
   refine a5 (k+1) rfl (by omega) ?_ (by omega)
   rw [nr,if_neg h9];((repeat' (first | with_reducible exact ar _ | exact am _ | refine aE ?_ ?_ | fail))<;>(try with_reducible rfl))
   all_goals rfl
 ·obtain rfl:k=10:=by omega
  (repeat' ((try refine aw ?_);(conv=>arg 4;whnf);first | refine az ?_ |(refine sN ?_;intro b)| exact ax | fail));(all_goals refine av ?_)
end Go.Proofs.YtbobhnldhpjdlaaGreatDoor
