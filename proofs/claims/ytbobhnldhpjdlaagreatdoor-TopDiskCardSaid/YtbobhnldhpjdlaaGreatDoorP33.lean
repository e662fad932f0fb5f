/- Lemmas and walks: what each function does, by its own code. No condition beyond those of each statement. -/
import Derived.Test.YtbobhnldhpjdlaaGreatDoorP13
import Derived.Test.YtbobhnldhpjdlaaGreatDoorP17
import Derived.Test.YtbobhnldhpjdlaaGreatDoorP28
import Derived.Test.YtbobhnldhpjdlaaGreatDoorP32
set_option linter.all false
set_option linter.unusedVariables false
namespace Go.Proofs.YtbobhnldhpjdlaaGreatDoor
open Go Go.RowKit Go.Cs Go.Cz
set_option maxRecDepth 100000
set_option maxHeartbeats 4000000
instance {c:UInt8}:Fb [.int .u8 (c.toNat:Int)] cB [c]:=⟨rfl⟩
theorem JS {k y:B16}:Zp Tryz.prog 337 [vA (dE k),vA (dE y)] [] [] B16 (fun _=>True) (fun o=>vA (dE o)) (fun _=> []) (fun _=> []):=by
 have hl:=iG k 176
 refine ak fun G=> ?_
 (repeat' ((try refine aw ?_);(conv=>arg 4;whnf);first | refine aO ?_ |(refine sN ?_;intro b)| fail));(all_goals refine av ?_)
 (first |(refine bh ?_;(conv=>arg 4;whnf);refine bc rfl ?_))
 (repeat' ((try refine aw ?_);(conv=>arg 4;whnf);first | refine aO ?_ |(refine sN ?_;intro b)|((first | refine aA LO ?_ | refine aA (JC hl) ?_);intro x hx;refine aH ?_)| fail));(all_goals refine av ?_)
 all_goals exact aD x True.intro rfl (am _) bu
theorem HA {k:B16} {y:Non} {u:Nat} (hu:u<2^32):Zp Tryz.prog 307 [vA (dE k),vA (br y), .int .u32 ((u:Nat):Int)] [] [] B16 (fun _=>True) (fun o=>vA (dE o)) (fun _=> []) (fun _=> []):=by
 have h1:=nV (m:=y.sh) y.hsh
 have h2:=tm (n:=y.ct) y.hct
 have h3:=nV (m:=u) hu
 refine ak fun G=> ?_
 (repeat' ((try refine aw ?_);(conv=>arg 4;whnf);first | refine aO ?_ |(refine sN ?_;intro b)|(refine aa ?_;intro g c')| fail));(all_goals refine av ?_)
 (first |(refine bh ?_;(conv=>arg 4;whnf);refine bc rfl ?_))
 (repeat' ((try refine aw ?_);(conv=>arg 4;whnf);first | refine aO ?_ |(refine sN ?_;intro b)|(refine aa ?_;intro g c')|((first | refine aA h1 ?_ | refine aA h2 ?_ | refine aA h3 ?_);intro x hx;refine aH ?_)| fail));(all_goals refine av ?_)
 obtain ⟨L,hL⟩:∃L,L=List.take 4 (be y.sh 4)++be y.ct 8++be u 4:=⟨_,rfl⟩
 have hl:L.length=16:=by rw [hL];simp [gl]
 rw [←hL]
 refine L5 (K:=cB) (m:=1) (n:=4+8+4) (c:=c') (e:=5) g ?_
 intro rs _ _
 refine kz cB L g 16 c' ?_
 revert b;intro bbk
 refine fL bbk (bE (List.replicate 16 0)) rfl ?_
 refine dh [bbk] (X:=Nat×List UInt8) (fun x=> [(9,vI x.1)]) (fun x=>x.1≤16∧x.2.length=16) (fun x=> [iB bbk (bE x.2) 31]) (fun x=>16-x.1) (0,List.replicate 16 0) ⟨Nat.zero_le _,rfl⟩ rfl (by (((repeat' (first | with_reducible exact ar _ | exact am _ | refine aE ?_ ?_ | fail))<;>(try with_reducible rfl)))<;>rfl) ?_
 rintro ⟨i,Q⟩ ⟨hi2,hq⟩
 (conv=>arg 2;simp only [List.cons_append,List.nil_append])
 dsimp only at hi2 hq⊢
 by_cases h5:i<16
 ·(repeat' ((try refine aw ?_);(conv=>arg 4;whnf);first | refine aO ?_ |(refine sN ?_;intro b)|(refine aa ?_;intro g c')| fail));(all_goals refine av ?_)
  exact jV (i+1,List.set Q _ _) ⟨h5,by dsimp only;rw [List.length_set];exact hq⟩ cD (by dsimp only;omega) bu
 ·obtain rfl:i=16:=by omega
  refine fL bbk (dE ⟨Q,hq⟩) rfl ?_
  (repeat' ((try refine aw ?_);(conv=>arg 4;whnf);first | refine aO ?_ |(refine sN ?_;intro b)|(refine aa ?_;intro g c')|(refine aA JS ?_;intro x hx;refine aH ?_)| fail));(all_goals refine av ?_)
  exact aD x True.intro rfl (am _) bu
theorem M6 {k:B16} {y:Non} {a:Option Addr} {n c:Nat} {l:List UInt8} (hl:l.length=32):Zp Tryz.prog 263 [vA (dE k),vA (br y),vI 0, .slice a n c] [] [Sl cB a n c l] (Option Addr×Nat×List UInt8) (fun x=>x.2.2.length=32) (fun x=> .slice x.1 32 x.2.1) (fun _=> []) (fun x=> [Sl cB x.1 32 x.2.1 x.2.2]):=by
 refine ak fun G=> ?_
 refine aS 0 ?_
 intro hn hc hm ha
 rw [hl] at hn
 subst hn
 obtain ⟨sb,so,rfl⟩:=ha (by decide) (by decide)
 (repeat' ((try refine aw ?_);(conv=>arg 4;whnf);first | refine aO ?_ |(refine sN ?_;intro b)|(refine aa ?_;intro g c')| fail));(all_goals refine av ?_)
 revert b;intro bbk
 refine dh [bbk] (X:=Nat×Option Addr×Nat×List UInt8×B16) (fun x=> [(9, .slice x.2.1 x.1 x.2.2.1),(11,vI x.1)]) (fun x=>x.1≤32∧x.2.2.2.1.length=x.1) (fun x=> [iB bbk (dE x.2.2.2.2) 31,iN cB 1 x.2.1 x.1 x.2.2.1 5 x.2.2.2.1]) (fun x=>32-x.1) (0,none,0, [],B16.zero) ⟨Nat.zero_le _,rfl⟩ rfl (by ((repeat' (first | with_reducible exact ar _ | exact am _ | refine aE ?_ ?_ | refine aX ?_ | refine qT rfl ?_))<;>(try with_reducible rfl))) ?_
 rintro ⟨i,a,c,M,B⟩ ⟨hi,hM⟩
 (conv=>arg 2;simp only [List.cons_append,List.nil_append])
 dsimp only at hi hM⊢
 have hBl:=B.h
 by_cases h5:i<32
 ·by_cases h0:i=0
  ·have hb:=HA (k:=k) (y:=y) (u:=(0+i)/16) (by omega)
   (repeat' ((try refine aw ?_);(conv=>arg 4;whnf);first | refine aO ?_ |(refine sN ?_;intro b)|(refine aa ?_;intro g c')|(refine aA hb ?_;intro x hx;refine aH ?_)| fail));(all_goals refine av ?_)
   refine gM [iB bbk (dE x) 31] _ cD (fun _ h=>h) rfl ?_
   (repeat' ((try refine aw ?_);(conv=>arg 4;whnf);first | refine aO ?_ |(refine sN ?_;intro b)|(refine aa ?_;intro g c')| fail));(all_goals refine av ?_)
   refine jV (i+1,some ⟨g,0,none⟩,c',M++ [l.getD i default^^^x.l.getD ((0+i)%16) default],x) ⟨h5,by simp [hM]⟩ ?_ (by dsimp only;omega) bu
   dsimp only
   ((repeat' (first | with_reducible exact ar _ | exact am _ | refine aE ?_ ?_ | refine aX ?_))<;>(try with_reducible rfl))
  ·by_cases h16:(0+i)%16=0
   ·have hb:=HA (k:=k) (y:=y) (u:=(0+i)/16) (by omega)
    (repeat' ((try refine aw ?_);(conv=>arg 4;whnf);first | refine aO ?_ |(refine sN ?_;intro b)|(refine aa ?_;intro g c')|(refine aA hb ?_;intro x hx;refine aH ?_)| fail));(all_goals refine av ?_)
    refine gM [iB bbk (dE x) 31] _ cD (fun _ h=>h) rfl ?_
    (repeat' ((try refine aw ?_);(conv=>arg 4;whnf);first | refine aO ?_ |(refine sN ?_;intro b)|(refine aa ?_;intro g c')| fail));(all_goals refine av ?_)
    refine jV (i+1,some ⟨g,0,none⟩,c',M++ [l.getD i default^^^x.l.getD ((0+i)%16) default],x) ⟨h5,by simp [hM]⟩ ?_ (by dsimp only;omega) bu
    dsimp only
    ((repeat' (first | with_reducible exact ar _ | exact am _ | refine aE ?_ ?_ | refine aX ?_))<;>(try with_reducible rfl))
   ·(repeat' ((try refine aw ?_);(conv=>arg 4;whnf);first | refine aO ?_ |(refine sN ?_;intro b)|(refine aa ?_;intro g c')| fail));(all_goals refine av ?_)
    refine gM [iB bbk (dE B) 31] _ cD (fun _ h=>h) rfl ?_
    (repeat' ((try refine aw ?_);(conv=>arg 4;whnf);first | refine aO ?_ |(refine sN ?_;intro b)|(refine aa ?_;intro g c')| fail));(all_goals refine av ?_)
    refine jV (i+1,some ⟨g,0,none⟩,c',M++ [l.getD i default^^^B.l.getD ((0+i)%16) default],B) ⟨h5,by simp [hM]⟩ ?_ (by dsimp only;omega) bu
    dsimp only
    ((repeat' (first | with_reducible exact ar _ | exact am _ | refine aE ?_ ?_ | refine aX ?_))<;>(try with_reducible rfl))
 ·obtain rfl:i=32:=by omega
  refine eE (m:=1) (e:=5) cB a 32 c ?_
  (repeat' ((try refine aw ?_);(conv=>arg 4;whnf);first | refine aO ?_ |(refine sN ?_;intro b)|(refine aa ?_;intro g c')| fail));(all_goals refine av ?_)
  exact aD (a,c,M) hM rfl (am _) bu
theorem MT {k:B16} {y:Non} {d:Dig}:Zp Tryz.prog 197 [vA (dE k),vA (br y),vA (ay d)] [] [] Dig (fun _=>True) (fun x=>vA (ay x)) (fun _=> []) (fun _=> []):=by
 have hd:=d.h
 refine ak fun G=> ?_
 (repeat' ((try refine aw ?_);(conv=>arg 4;whnf);first | refine aO ?_ |(refine sN ?_;intro b)| fail));(all_goals refine av ?_)
 rename_i kbx nbx dbx
 refine bG dbx ?_
 (first | refine bF rfl rfl ?_ | fail)
 (repeat' ((try refine aw ?_);(conv=>arg 4;whnf);first | refine aO ?_ |(refine sN ?_;intro b)|(refine cw (M6 (l:=d.l) hd) ?_;intro x hx;refine bV ?_)| fail));(all_goals refine av ?_)
 obtain ⟨xa,xc,xl⟩:=x
 dsimp only at hx⊢
 refine aS 0 ?_
 intro hn hc hm ha
 obtain ⟨sb,so,rfl⟩:=ha (by decide) (by decide)
 revert b;intro obk
 refine fL obk (bE (List.replicate 32 0)) rfl ?_
 refine dh [obk] (X:=Nat×List UInt8) (fun x=> [(9,vI x.1)]) (fun x=>x.1≤32∧x.2.length=32) (fun x=> [iB obk (bE x.2) 52]) (fun x=>32-x.1) (0,List.replicate 32 0) ⟨Nat.zero_le _,rfl⟩ rfl (by (((repeat' (first | with_reducible exact ar _ | exact am _ | refine aE ?_ ?_ | fail))<;>(try with_reducible rfl)))<;>rfl) ?_
 rintro ⟨i,Q⟩ ⟨hi2,hq⟩
 (conv=>arg 2;simp only [List.cons_append,List.nil_append])
 dsimp only at hi2 hq⊢
 by_cases h5:i<32
 ·(repeat' ((try refine aw ?_);(conv=>arg 4;whnf);first | refine aO ?_ |(refine sN ?_;intro b)| fail));(all_goals refine av ?_)
  exact jV (i+1,List.set Q _ _) ⟨h5,by dsimp only;rw [List.length_set];exact hq⟩ cD (by dsimp only;omega) bu
 ·obtain rfl:i=32:=by omega
  refine fL obk (ay ⟨Q,hq⟩) rfl ?_
  (repeat' ((try refine aw ?_);(conv=>arg 4;whnf);first | refine aO ?_ |(refine sN ?_;intro b)| fail));(all_goals refine av ?_)
  exact aD (⟨Q,hq⟩:Dig) True.intro rfl (am _) bu
theorem LY {e:B16} {m:Dig} {i:Nat} {y:Non} {p:Dig} (hi:i<2^32):Zp Tryz.prog 96 [vA (dE e),vA (ay m),vI i,vA (br y),vA (ay p)] [] [] Dig (fun _=>True) (fun x=> .tuple #[vA (ay x),vA (ay (il ⟨e,m⟩ i y x))]) (fun _=> []) (fun _=> []):=by
 have hm:=m.h
 refine ak fun G=> ?_
 (repeat' ((try refine aw ?_);(conv=>arg 4;whnf);first | refine aO ?_ |(refine sN ?_;intro b)|(refine aA MT ?_;intro x hx;refine aH ?_)| fail));(all_goals refine av ?_)
 rename_i ebx mbx nbx pbx o1x o2x
 revert x;intro xd
 refine bG mbx ?_
 have hml:(fz i y xd).length=48:=by simp [fz,gl]
 have hS:=fun a b n c n2 c2=>BC (a:=a) (b:=b) (n:=n) (c:=c) (n2:=n2) (c2:=c2) (l:=m.l) (m:=fz i y xd) (by omega) (by omega) (by omega) (by omega)
 rw [show ej m.l (fz i y xd)=il ⟨e,m⟩ i y xd from rfl] at hS
 (first |(refine bh ?_;(conv=>arg 4;whnf);refine bc rfl ?_))
 (repeat' ((try refine aw ?_);(conv=>arg 4;whnf);first | refine aO ?_ |(refine sN ?_;intro b)|(refine cw (MQ (i:=i) (y:=y) (d:=xd) hi) ?_;intro x hx;refine bV ?_)|(refine aA (hS _ _ _ _ _ _) ?_;intro x hx;refine aH ?_)| fail));(all_goals refine av ?_)
 all_goals exact aD xd True.intro rfl (am _) bu
end Go.Proofs.YtbobhnldhpjdlaaGreatDoor
