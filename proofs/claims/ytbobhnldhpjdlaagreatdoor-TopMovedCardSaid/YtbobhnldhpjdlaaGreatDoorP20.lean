/- Lemmas and walks: what each function does, by its own code. No condition beyond those of each statement. -/
import Derived.Test.YtbobhnldhpjdlaaGreatDoorP10
import Derived.Test.YtbobhnldhpjdlaaGreatDoorP13
set_option linter.all false
set_option linter.unusedVariables false
namespace Go.Proofs.YtbobhnldhpjdlaaGreatDoor
open Go Go.RowKit Go.Cs Go.Cz
set_option maxRecDepth 100000
set_option maxHeartbeats 1000000
theorem ww {x:UInt8}:x&&&1=1↔((x&&&1).toNat:Int)=1:=by
 constructor
 ·intro h;rw [h];rfl
 ·intro h;apply UInt8.toNat_inj.1;show _=1;omega
theorem yO {u v:UInt8}:Zp Tryz.prog 341 [vb u,vb v] [] [] Unit (fun _=>True) (fun _=>vb (ui u v)) (fun _=> []) (fun _=> []):=by
 refine an fun G=> ?_
 (repeat' ((try refine au ?_);(conv=>arg 4;whnf);first | refine ax ?_ |(refine sN ?_;intro b)|(refine sC ?_ ?_<;>intro h)|(refine ar ?_ ?_<;>intro h<;>try contradiction)|(refine aa ?_;intro g c')| refine ae ?_ | refine ai ?_ | exact aw |(refine ak rfl ?_;intro D lL)| refine ah ?_ ?_ | refine aj ?_ ?_ ?_ | fail));(all_goals refine av ?_)
 refine dC (X:=Nat) (fun i=> [(9,vI i),(5,vb (nD u v i).2)]) (fun i=>i≤8) (fun i=> [iB b [vb (nD u v i).1] 5]) (fun i=>8-i) 0 (Nat.zero_le _) rfl (am _) ?_
 intro i hi
 by_cases h:i<8
 ·(repeat' ((try refine au ?_);(conv=>arg 4;whnf);first | refine ax ?_ |(refine sN ?_;intro b)|(refine sC ?_ ?_<;>intro h)|(refine ar ?_ ?_<;>intro h<;>try contradiction)|(refine aa ?_;intro g c')| refine ae ?_ | refine ai ?_ | exact aw |(refine ak rfl ?_;intro D lL)| refine ah ?_ ?_ | refine aj ?_ ?_ ?_ | fail));(all_goals refine av ?_)
  ·refine bj (i+1) ?_ (by omega) (am _) (by omega)
   have h3:=ww.2 h
   simp only [Hs,List.map_cons,List.map_nil,nD,if_pos h3];rfl
  ·refine bj (i+1) ?_ (by omega) (am _) (by omega)
   have h3:¬(v>>>UInt8.ofNat i&&&1=1):=fun e=>h (ww.1 e)
   simp only [Hs,List.map_cons,List.map_nil,nD,if_neg h3];rfl
 ·obtain rfl:i=8:=by omega
  (repeat' ((try refine au ?_);(conv=>arg 4;whnf);first | refine ax ?_ |(refine sN ?_;intro b)|(refine sC ?_ ?_<;>intro h)|(refine ar ?_ ?_<;>intro h<;>try contradiction)|(refine aa ?_;intro g c')| refine ae ?_ | refine ai ?_ | exact aw |(refine ak rfl ?_;intro D lL)| refine ah ?_ ?_ | refine aj ?_ ?_ ?_ | fail));(all_goals refine av ?_)
theorem Hf {u:UInt8} (h:(u.toNat:Int)=0):u=0:=UInt8.toNat_inj.1 (by show _=0;omega)
theorem EV {u:UInt8} {k:Nat} (hk:k≤9223372036854775807):Zp Tryz.prog 330 [vb u,vI k] [] [] Unit (fun _=>True) (fun _=>vb (qr u k)) (fun _=> []) (fun _=> []):=by
 refine an fun G=> ?_
 (repeat' ((try refine au ?_);(conv=>arg 4;whnf);first | refine ax ?_ |(refine sN ?_;intro b)|(refine sC ?_ ?_<;>intro h)|(refine ar ?_ ?_<;>intro h<;>try contradiction)|(refine aa ?_;intro g c')| refine ae ?_ | refine ai ?_ | exact aw |(refine ak rfl ?_;intro D lL)| refine ah ?_ ?_ | refine aj ?_ ?_ ?_ | fail));(all_goals refine av ?_)
 ·rename_i h2
  exact aG () True.intro (by rw [Hf h2,show k=0 by omega];rfl) (af _)
 ·rename_i h2
  exact aG () True.intro (by rw [Hf h2,qr,if_pos rfl,if_neg (by omega)];rfl) (af _)
 have h0:¬u=0:=fun e=>h (by rw [e];rfl)
 refine dC (X:=UInt8×Nat×UInt8) (fun x=> [(0,vb x.1),(5,vI x.2.1),(6,vb x.2.2)]) (fun x=>x.2.1≤9223372036854775807∧AI x.1 x.2.1 x.2.2=qr u k) (fun x=> []) (fun x=>x.2.1) (u,k%255,1) ?_ rfl (am _) ?_
 ·exact ⟨by dsimp only;omega,by rw [qr,if_neg h0]⟩
 rintro ⟨a,k',o⟩ ⟨h1,h2⟩
 dsimp only at h1 h2⊢
 by_cases h3:k'=0
 ·subst h3
  rw [AI,if_pos rfl] at h2
  subst h2
  (repeat' ((try refine au ?_);(conv=>arg 4;whnf);first | refine ax ?_ |(refine sN ?_;intro b)|(refine sC ?_ ?_<;>intro h)|(refine ar ?_ ?_<;>intro h<;>try contradiction)|(refine aa ?_;intro g c')| refine ae ?_ | refine ai ?_ | exact aw |(refine ak rfl ?_;intro D lL)| refine ah ?_ ?_ | refine aj ?_ ?_ ?_ | fail));(all_goals refine av ?_)
 ·rw [AI,if_neg h3] at h2
  by_cases h4:k'%2=1
  ·rw [if_pos h4] at h2
   (repeat' ((try refine au ?_);(conv=>arg 4;whnf);first | refine ax ?_ |(refine sN ?_;intro b)|(refine sC ?_ ?_<;>intro h)|(refine ar ?_ ?_<;>intro h<;>try contradiction)|(refine aa ?_;intro g c')|(refine ay yO ?_;intro x hx;refine aN ?_)| refine ae ?_ | refine ai ?_ | exact aw |(refine ak rfl ?_;intro D lL)| refine ah ?_ ?_ | refine aj ?_ ?_ ?_ | fail));(all_goals refine av ?_)
   refine bj ((ui a a,k'/2,ui o a):UInt8×Nat×UInt8) rfl ⟨by dsimp only;omega,h2⟩ (am _) (by dsimp only;omega)
  ·rw [if_neg h4] at h2
   (repeat' ((try refine au ?_);(conv=>arg 4;whnf);first | refine ax ?_ |(refine sN ?_;intro b)|(refine sC ?_ ?_<;>intro h)|(refine ar ?_ ?_<;>intro h<;>try contradiction)|(refine aa ?_;intro g c')|(refine ay yO ?_;intro x hx;refine aN ?_)| refine ae ?_ | refine ai ?_ | exact aw |(refine ak rfl ?_;intro D lL)| refine ah ?_ ?_ | refine aj ?_ ?_ ?_ | fail));(all_goals refine av ?_)
   refine bj ((ui a a,k'/2,o):UInt8×Nat×UInt8) rfl ⟨by dsimp only;omega,h2⟩ (am _) (by dsimp only;omega)
theorem Id {u:UInt8} {k:Nat} (h1:1≤k) (h2:k≤7):Zp Tryz.prog 340 [vb u,vI k] [] [] Unit (fun _=>True) (fun _=>vb (Lw u k)) (fun _=> []) (fun _=> []):=by
 refine an fun G=> ?_
 (repeat' ((try refine au ?_);(conv=>arg 4;whnf);first | refine ax ?_ |(refine sN ?_;intro b)|(refine sC ?_ ?_<;>intro h)|(refine ar ?_ ?_<;>intro h<;>try contradiction)|(refine aa ?_;intro g c')| refine ae ?_ | refine ai ?_ | exact aw |(refine ak rfl ?_;intro D lL)| refine ah ?_ ?_ | refine aj ?_ ?_ ?_ | fail));(all_goals refine av ?_)
 exact aG () True.intro (by rw [Lw,show k%8=k by omega];rfl) (af _)
theorem ES {u:UInt8}:Zp Tryz.prog 329 [vb u] [] [] Unit (fun _=>True) (fun _=>vb (gA u)) (fun _=> []) (fun _=> []):=by
 refine an fun G=> ?_
 obtain ⟨p,hp⟩:∃p,p=qr u 254:=⟨_,rfl⟩
 have hz:=EV (u:=u) (k:=254) (by decide)
 rw [←hp] at hz
 (repeat' ((try refine au ?_);(conv=>arg 4;whnf);first | refine ax ?_ |(refine sN ?_;intro b)|(refine sC ?_ ?_<;>intro h)|(refine ar ?_ ?_<;>intro h<;>try contradiction)|(refine aa ?_;intro g c')|(refine ay hz ?_;intro x hx;refine aN ?_)| refine ae ?_ | refine ai ?_ | exact aw |(refine ak rfl ?_;intro D lL)| refine ah ?_ ?_ | refine aj ?_ ?_ ?_ | fail));(all_goals refine av ?_)
 refine dC (X:=Nat) (fun i=> [(5,vI (i+1)),(4,vb (F3 p i))]) (fun i=>i≤4) (fun i=> []) (fun i=>4-i) 0 (Nat.zero_le _) rfl (am _) ?_
 intro i hi
 by_cases h:i<4
 ·(repeat' ((try refine au ?_);(conv=>arg 4;whnf);first | refine ax ?_ |(refine sN ?_;intro b)|(refine sC ?_ ?_<;>intro h)|(refine ar ?_ ?_<;>intro h<;>try contradiction)|(refine aa ?_;intro g c')|(refine ay (Id (k:=i+1) (by omega) (by omega)) ?_;intro x hx;refine aN ?_)| refine ae ?_ | refine ai ?_ | exact aw |(refine ak rfl ?_;intro D lL)| refine ah ?_ ?_ | refine aj ?_ ?_ ?_ | fail));(all_goals refine av ?_)
  exact bj (i+1) rfl (by omega) (am _) (by omega)
 ·obtain rfl:i=4:=by omega
  (repeat' ((try refine au ?_);(conv=>arg 4;whnf);first | refine ax ?_ |(refine sN ?_;intro b)|(refine sC ?_ ?_<;>intro h)|(refine ar ?_ ?_<;>intro h<;>try contradiction)|(refine aa ?_;intro g c')| refine ae ?_ | refine ai ?_ | exact aw |(refine ak rfl ?_;intro D lL)| refine ah ?_ ?_ | refine aj ?_ ?_ ?_ | fail));(all_goals refine av ?_)
  exact aG () True.intro (by rw [gA,←hp];rfl) (af _)
end Go.Proofs.YtbobhnldhpjdlaaGreatDoor
namespace Go.Proofs.YtbobhnldhpjdlaaGreatDoor
open Go Go.RowKit Go.Cs Go.Cz
set_option maxRecDepth 100000
set_option maxHeartbeats 1000000
abbrev tU:Value:= .tuple #[]
theorem yB {sb e:Nat} {s:List UInt8} {k:B16} (hs:s.length=16):Zp Tryz.prog 331 [vP sb 0,vA (fz k)] [iB sb (b8 s) e] [] Unit (fun _=>True) (fun _=>tU) (fun _=> [iB sb (b8 (lz s k.l)) e]) (fun _=> []):=by
 refine an fun G=> ?_
 (repeat' ((try refine au ?_);(conv=>arg 4;whnf);first | refine ax ?_ |(refine sN ?_;intro b)|(refine sC ?_ ?_<;>intro h)|(refine ar ?_ ?_<;>intro h<;>try contradiction)|(refine aa ?_;intro g c')| refine ae ?_ | refine ai ?_ | exact aw |(refine ak rfl ?_;intro D lL)| refine ah ?_ ?_ | refine aj ?_ ?_ ?_ | fail));(all_goals refine av ?_)
 have hA:(lz s k.l).length=s.length:=by simp [lz,hs]
 refine dC (X:=Nat) (fun i=> [(5,vI i)]) (fun i=>i≤16) (fun i=> [iB sb (b8 (ij (lz s k.l) s i)) e,iB b (fz k) 31]) (fun i=>16-i) 0 (Nat.zero_le _) rfl ?_ ?_
 ·rw [fZ];((repeat' (first | with_reducible exact am _ | exact af _ | refine aB ?_ ?_ | refine aD inferInstance ?_))<;>(try with_reducible rfl))
 intro i hi
 have hl:=gj (new:=lz s k.l) (old:=s) (t:=i) hA (by omega)
 by_cases h:i<16
 ·have ho:=pr (new:=lz s k.l) (old:=s) (t:=i) (j:=i) hA (Nat.le_refl _) (by omega)
  have hn:=fE (new:=lz s k.l) (old:=s) (t:=i) (x:=s.getD i default^^^k.l.getD i default) hA (by omega) (by simp [lz,List.getD,h])
  (repeat' ((try refine au ?_);(conv=>arg 4;whnf);first | refine ax ?_ |(refine sN ?_;intro b)|(refine sC ?_ ?_<;>intro h)|(refine ar ?_ ?_<;>intro h<;>try contradiction)|(refine aa ?_;intro g c')| refine ae ?_ | refine ai ?_ | exact aw |(refine ak rfl ?_;intro D lL)| refine ah ?_ ?_ | refine aj ?_ ?_ ?_ | fail));(all_goals refine av ?_)
  refine bj (i+1) rfl (by omega) ?_ (by omega)
  rw [ho,hn];((repeat' (first | with_reducible exact am _ | exact af _ | refine aB ?_ ?_ | refine aD inferInstance ?_))<;>(try with_reducible rfl))
 ·obtain rfl:i=16:=by omega
  rw [hJ (by omega) (by omega)]
  (repeat' ((try refine au ?_);(conv=>arg 4;whnf);first | refine ax ?_ |(refine sN ?_;intro b)|(refine sC ?_ ?_<;>intro h)|(refine ar ?_ ?_<;>intro h<;>try contradiction)|(refine aa ?_;intro g c')| refine ae ?_ | refine ai ?_ | exact aw |(refine ak rfl ?_;intro D lL)| refine ah ?_ ?_ | refine aj ?_ ?_ ?_ | fail));(all_goals refine av ?_)
  exact aG () True.intro rfl (aB (af _) rfl)
theorem Eu {sb e:Nat} {s:List UInt8} (hs:s.length=16):Zp Tryz.prog 332 [vP sb 0, .func (.func 329) #[] #[]] [iB sb (b8 s) e] [] Unit (fun _=>True) (fun _=>tU) (fun _=> [iB sb (b8 (j7 gA s)) e]) (fun _=> []):=by
 refine an fun G=> ?_
 (repeat' ((try refine au ?_);(conv=>arg 4;whnf);first | refine ax ?_ |(refine sN ?_;intro b)|(refine sC ?_ ?_<;>intro h)|(refine ar ?_ ?_<;>intro h<;>try contradiction)|(refine aa ?_;intro g c')| refine ae ?_ | refine ai ?_ | exact aw |(refine ak rfl ?_;intro D lL)| refine ah ?_ ?_ | refine aj ?_ ?_ ?_ | fail));(all_goals refine av ?_)
 have hA:(j7 gA s).length=s.length:=by simp [j7,hs]
 refine dC (X:=Nat) (fun i=> [(10,vI i)]) (fun i=>i≤16) (fun i=> [iB sb (b8 (ij (j7 gA s) s i)) e]) (fun i=>16-i) 0 (Nat.zero_le _) rfl ?_ ?_
 ·rw [fZ];((repeat' (first | with_reducible exact am _ | exact af _ | refine aB ?_ ?_ | refine aD inferInstance ?_))<;>(try with_reducible rfl))
 intro i hi
 have hl:=gj (new:=j7 gA s) (old:=s) (t:=i) hA (by omega)
 by_cases h:i<16
 ·have hn:=fE (new:=j7 gA s) (old:=s) (t:=i) (x:=gA (s.getD i default)) hA (by omega) (by simp [j7,List.getD,h])
  (repeat' ((try refine au ?_);(conv=>arg 4;whnf);first | refine ax ?_ |(refine sN ?_;intro b)|(refine sC ?_ ?_<;>intro h)|(refine ar ?_ ?_<;>intro h<;>try contradiction)|(refine aa ?_;intro g c')|(refine ay ES ?_;intro x hx;refine aN ?_)| refine ae ?_ | refine ai ?_ | exact aw |(refine ak rfl ?_;intro D lL)| refine ah ?_ ?_ | refine aj ?_ ?_ ?_ | fail));(all_goals refine av ?_)
  refine bj (i+1) rfl (by omega) ?_ (by omega)
  rw [hn];((repeat' (first | with_reducible exact am _ | exact af _ | refine aB ?_ ?_ | refine aD inferInstance ?_))<;>(try with_reducible rfl))
 ·obtain rfl:i=16:=by omega
  rw [hJ (by omega) (by omega)]
  (repeat' ((try refine au ?_);(conv=>arg 4;whnf);first | refine ax ?_ |(refine sN ?_;intro b)|(refine sC ?_ ?_<;>intro h)|(refine ar ?_ ?_<;>intro h<;>try contradiction)|(refine aa ?_;intro g c')| refine ae ?_ | refine ai ?_ | exact aw |(refine ak rfl ?_;intro D lL)| refine ah ?_ ?_ | refine aj ?_ ?_ ?_ | fail));(all_goals refine av ?_)
  exact aG () True.intro rfl (aB (af _) rfl)
end Go.Proofs.YtbobhnldhpjdlaaGreatDoor
namespace Go.Proofs.YtbobhnldhpjdlaaGreatDoor
open Go Go.RowKit Go.Cs Go.Cz
set_option maxRecDepth 100000
set_option maxHeartbeats 1000000
theorem EI {sb e:Nat} {s:List UInt8} (hs:s.length=16):Zp Tryz.prog 333 [vP sb 0,vI 1] [iB sb (b8 s) e] [] Unit (fun _=>True) (fun _=>tU) (fun _=> [iB sb (b8 (kE 1 s)) e]) (fun _=> []):=by
 refine an fun G=> ?_
 (repeat' ((try refine au ?_);(conv=>arg 4;whnf);first | refine ax ?_ |(refine sN ?_;intro b)|(refine sC ?_ ?_<;>intro h)|(refine ar ?_ ?_<;>intro h<;>try contradiction)|(refine aa ?_;intro g c')| refine ae ?_ | refine ai ?_ | exact aw |(refine ak rfl ?_;intro D lL)| refine ah ?_ ?_ | refine aj ?_ ?_ ?_ | fail));(all_goals refine av ?_)
 have hA:(kE 1 s).length=s.length:=by simp [kE,hs]
 refine dC (X:=Nat) (fun c=> [(11,vI c)]) (fun c=>c≤4) (fun c=> [iB sb (b8 (ij (kE 1 s) s (4*c))) e,iB b (b8 s) 31]) (fun c=>4-c) 0 (Nat.zero_le _) rfl ?_ ?_
 ·rw [Nat.mul_zero,fZ];((repeat' (first | with_reducible exact am _ | exact af _ | refine aB ?_ ?_ | refine aD inferInstance ?_))<;>(try with_reducible rfl))
 intro c hc
 by_cases h:c<4
 ·(repeat' ((try refine au ?_);(conv=>arg 4;whnf);first | refine ax ?_ |(refine sN ?_;intro b)|(refine sC ?_ ?_<;>intro h)|(refine ar ?_ ?_<;>intro h<;>try contradiction)|(refine aa ?_;intro g c')| refine ae ?_ | refine ai ?_ | exact aw |(refine ak rfl ?_;intro D lL)| refine ah ?_ ?_ | refine aj ?_ ?_ ?_ | fail));(all_goals refine av ?_)
  refine dC (X:=Nat) (fun r=> [(14,vI r)]) (fun r=>r≤4) (fun r=> [iB sb (b8 (ij (kE 1 s) s (4*c+r))) e,iB b (b8 s) 31]) (fun r=>4-r) 0 (Nat.zero_le _) rfl ?_ ?_
  ·rw [Nat.add_zero];((repeat' (first | with_reducible exact am _ | exact af _ | refine aB ?_ ?_ | refine aD inferInstance ?_))<;>(try with_reducible rfl))
  intro r hr
  have hl:=gj (new:=kE 1 s) (old:=s) (t:=4*c+r) hA (by omega)
  by_cases h2:r<4
  ·have hn:=fE (new:=kE 1 s) (old:=s) (t:=4*c+r) (x:=s.getD (4*((c+1*r)%4)+r) default) hA (by omega) (by
    rw [kE,List.getD_eq_getElem?_getD (l:=List.map _ _),List.getElem?_map,List.getElem?_range (by omega)]
    simp only [Option.map_some,Option.getD_some]
    rw [show (4*c+r)/4=c by omega,show (4*c+r)%4=r by omega])
   (repeat' ((try refine au ?_);(conv=>arg 4;whnf);first | refine ax ?_ |(refine sN ?_;intro b)|(refine sC ?_ ?_<;>intro h)|(refine ar ?_ ?_<;>intro h<;>try contradiction)|(refine aa ?_;intro g c')| refine ae ?_ | refine ai ?_ | exact aw |(refine ak rfl ?_;intro D lL)| refine ah ?_ ?_ | refine aj ?_ ?_ ?_ | fail));(all_goals refine av ?_)
   refine bj (r+1) rfl (by omega) ?_ (by omega)
   rw [hn,Nat.add_assoc];((repeat' (first | with_reducible exact am _ | exact af _ | refine aB ?_ ?_ | refine aD inferInstance ?_))<;>(try with_reducible rfl))
  ·obtain rfl:r=4:=by omega
   (repeat' ((try refine au ?_);(conv=>arg 4;whnf);first | refine ax ?_ |(refine sN ?_;intro b)|(refine sC ?_ ?_<;>intro h)|(refine ar ?_ ?_<;>intro h<;>try contradiction)|(refine aa ?_;intro g c')| refine ae ?_ | refine ai ?_ | exact aw |(refine ak rfl ?_;intro D lL)| refine ah ?_ ?_ | refine aj ?_ ?_ ?_ | fail));(all_goals refine av ?_)
   refine bj (c+1) rfl (by omega) ?_ (by omega)
   rw [show 4*(c+1)=4*c+4 by omega];((repeat' (first | with_reducible exact am _ | exact af _ | refine aB ?_ ?_ | refine aD inferInstance ?_))<;>(try with_reducible rfl))
 ·obtain rfl:c=4:=by omega
  rw [hJ (by omega) (by omega)]
  (repeat' ((try refine au ?_);(conv=>arg 4;whnf);first | refine ax ?_ |(refine sN ?_;intro b)|(refine sC ?_ ?_<;>intro h)|(refine ar ?_ ?_<;>intro h<;>try contradiction)|(refine aa ?_;intro g c')| refine ae ?_ | refine ai ?_ | exact aw |(refine ak rfl ?_;intro D lL)| refine ah ?_ ?_ | refine aj ?_ ?_ ?_ | fail));(all_goals refine av ?_)
  exact aG () True.intro rfl (aB (af _) rfl)
theorem Hk {sb e:Nat} {s f:List UInt8} (hs:s.length=16) (hf:f.length=4):Zp Tryz.prog 334 [vP sb 0,vA (b8 f)] [iB sb (b8 s) e] [] Unit (fun _=>True) (fun _=>tU) (fun _=> [iB sb (b8 (lw f s)) e]) (fun _=> []):=by
 refine an fun G=> ?_
 (repeat' ((try refine au ?_);(conv=>arg 4;whnf);first | refine ax ?_ |(refine sN ?_;intro b)|(refine sC ?_ ?_<;>intro h)|(refine ar ?_ ?_<;>intro h<;>try contradiction)|(refine aa ?_;intro g c')| refine ae ?_ | refine ai ?_ | exact aw |(refine ak rfl ?_;intro D lL)| refine ah ?_ ?_ | refine aj ?_ ?_ ?_ | fail));(all_goals refine av ?_)
 rename_i fb
 have hA:(lw f s).length=s.length:=by simp [lw,hs]
 refine dC (X:=Nat) (fun c=> [(14,vI c)]) (fun c=>c≤4) (fun c=> [iB sb (b8 (ij (lw f s) s (4*c))) e,iB b (b8 s) 31,iB fb (b8 f) 527]) (fun c=>4-c) 0 (Nat.zero_le _) rfl ?_ ?_
 ·rw [Nat.mul_zero,fZ];((repeat' (first | with_reducible exact am _ | exact af _ | refine aB ?_ ?_ | refine aD inferInstance ?_))<;>(try with_reducible rfl))
 intro c hc
 by_cases h:c<4
 ·(repeat' ((try refine au ?_);(conv=>arg 4;whnf);first | refine ax ?_ |(refine sN ?_;intro b)|(refine sC ?_ ?_<;>intro h)|(refine ar ?_ ?_<;>intro h<;>try contradiction)|(refine aa ?_;intro g c')| refine ae ?_ | refine ai ?_ | exact aw |(refine ak rfl ?_;intro D lL)| refine ah ?_ ?_ | refine aj ?_ ?_ ?_ | fail));(all_goals refine av ?_)
  refine dC (X:=Nat) (fun r=> [(17,vI r)]) (fun r=>r≤4) (fun r=> [iB sb (b8 (ij (lw f s) s (4*c+r))) e,iB b (b8 s) 31,iB fb (b8 f) 527]) (fun r=>4-r) 0 (Nat.zero_le _) rfl ?_ ?_
  ·rw [Nat.add_zero];((repeat' (first | with_reducible exact am _ | exact af _ | refine aB ?_ ?_ | refine aD inferInstance ?_))<;>(try with_reducible rfl))
  intro r hr
  have hl:=gj (new:=lw f s) (old:=s) (t:=4*c+r) hA (by omega)
  by_cases h2:r<4
  ·have hn:=fE (new:=lw f s) (old:=s) (t:=4*c+r) (x:=Ce f s c r 4) hA (by omega) (by
    rw [lw,List.getD_eq_getElem?_getD (l:=List.map _ _),List.getElem?_map,List.getElem?_range (by omega)]
    simp only [Option.map_some,Option.getD_some]
    rw [show (4*c+r)/4=c by omega,show (4*c+r)%4=r by omega])
   (repeat' ((try refine au ?_);(conv=>arg 4;whnf);first | refine ax ?_ |(refine sN ?_;intro b)|(refine sC ?_ ?_<;>intro h)|(refine ar ?_ ?_<;>intro h<;>try contradiction)|(refine aa ?_;intro g c')| refine ae ?_ | refine ai ?_ | exact aw |(refine ak rfl ?_;intro D lL)| refine ah ?_ ?_ | refine aj ?_ ?_ ?_ | fail));(all_goals refine av ?_)
   refine dC (X:=Nat) (fun i=> [(21,vI i),(7,vb (Ce f s c r i))]) (fun i=>i≤4) (fun i=> [iB sb (b8 (ij (lw f s) s (4*c+r))) e,iB b (b8 s) 31,iB fb (b8 f) 527]) (fun i=>4-i) 0 (Nat.zero_le _) rfl ?_ ?_
   ·((repeat' (first | with_reducible exact am _ | exact af _ | refine aB ?_ ?_ | refine aD inferInstance ?_))<;>(try with_reducible rfl))
   intro i hi
   by_cases h3:i<4
   ·(repeat' ((try refine au ?_);(conv=>arg 4;whnf);first | refine ax ?_ |(refine sN ?_;intro b)|(refine sC ?_ ?_<;>intro h)|(refine ar ?_ ?_<;>intro h<;>try contradiction)|(refine aa ?_;intro g c')|(refine ay yO ?_;intro x hx;refine aN ?_)| refine ae ?_ | refine ai ?_ | exact aw |(refine ak rfl ?_;intro D lL)| refine ah ?_ ?_ | refine aj ?_ ?_ ?_ | fail));(all_goals refine av ?_)
    refine bj (i+1) rfl (by omega) ?_ (by omega)
    ((repeat' (first | with_reducible exact am _ | exact af _ | refine aB ?_ ?_ | refine aD inferInstance ?_))<;>(try with_reducible rfl))
   ·obtain rfl:i=4:=by omega
    (repeat' ((try refine au ?_);(conv=>arg 4;whnf);first | refine ax ?_ |(refine sN ?_;intro b)|(refine sC ?_ ?_<;>intro h)|(refine ar ?_ ?_<;>intro h<;>try contradiction)|(refine aa ?_;intro g c')| refine ae ?_ | refine ai ?_ | exact aw |(refine ak rfl ?_;intro D lL)| refine ah ?_ ?_ | refine aj ?_ ?_ ?_ | fail));(all_goals refine av ?_)
    refine bj (r+1) rfl (by omega) ?_ (by omega)
    rw [hn,Nat.add_assoc];((repeat' (first | with_reducible exact am _ | exact af _ | refine aB ?_ ?_ | refine aD inferInstance ?_))<;>(try with_reducible rfl))
  ·obtain rfl:r=4:=by omega
   (repeat' ((try refine au ?_);(conv=>arg 4;whnf);first | refine ax ?_ |(refine sN ?_;intro b)|(refine sC ?_ ?_<;>intro h)|(refine ar ?_ ?_<;>intro h<;>try contradiction)|(refine aa ?_;intro g c')| refine ae ?_ | refine ai ?_ | exact aw |(refine ak rfl ?_;intro D lL)| refine ah ?_ ?_ | refine aj ?_ ?_ ?_ | fail));(all_goals refine av ?_)
   refine bj (c+1) rfl (by omega) ?_ (by omega)
   rw [show 4*(c+1)=4*c+4 by omega];((repeat' (first | with_reducible exact am _ | exact af _ | refine aB ?_ ?_ | refine aD inferInstance ?_))<;>(try with_reducible rfl))
 ·obtain rfl:c=4:=by omega
  rw [hJ (by omega) (by omega)]
  (repeat' ((try refine au ?_);(conv=>arg 4;whnf);first | refine ax ?_ |(refine sN ?_;intro b)|(refine sC ?_ ?_<;>intro h)|(refine ar ?_ ?_<;>intro h<;>try contradiction)|(refine aa ?_;intro g c')| refine ae ?_ | refine ai ?_ | exact aw |(refine ak rfl ?_;intro D lL)| refine ah ?_ ?_ | refine aj ?_ ?_ ?_ | fail));(all_goals refine av ?_)
  exact aG () True.intro rfl (aB (af _) rfl)
end Go.Proofs.YtbobhnldhpjdlaaGreatDoor
