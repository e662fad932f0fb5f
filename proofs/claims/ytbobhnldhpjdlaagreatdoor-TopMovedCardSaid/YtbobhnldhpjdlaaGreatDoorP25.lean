/- Lemmas and walks: what each function does, by its own code. No condition beyond those of each statement. -/
import Derived.Test.YtbobhnldhpjdlaaGreatDoorP12
import Derived.Test.YtbobhnldhpjdlaaGreatDoorP18
import Derived.Test.YtbobhnldhpjdlaaGreatDoorP24
set_option linter.all false
set_option linter.unusedVariables false
namespace Go.Proofs.YtbobhnldhpjdlaaGreatDoor
open Go Go.RowKit Go.Cs Go.Cz
set_option maxRecDepth 100000
set_option maxHeartbeats 1000000
theorem A7 {y:Rec} (h:cD y=0):Zp Tryz.prog 244 [vA (cL y)] [] [] Nat (fun _=>True) (fun b=> .tuple #[.slice (some ⟨b,0,none⟩) 45 45,vI 0]) (fun b=> [iB b (b8 (gl y)) 5]) (fun _=> []):=by
 refine an fun G=> ?_
 have hc:=nA (x:=y)
 rw [h] at hc
 have hn:=fV y.non
 have e: [[UInt8.ofNat y.st],fC y.non,y.tag.l].flatten=gl y:=by simp [gl]
 have hl:=fW y
 have hle: [[UInt8.ofNat y.st],fC y.non,y.tag.l].flatten.length≤1099511627776:=by rw [e,hl];decide
 (repeat' ((try refine au ?_);(conv=>arg 4;whnf);first | refine ax ?_ |(refine sN ?_;intro b)|(refine sC ?_ ?_<;>intro h)|(refine ar ?_ ?_<;>intro h<;>try contradiction)|(refine aa ?_;intro g c')|((first | refine ay hc ?_ | refine ay tq ?_ | refine ay (jx (ls:= [[UInt8.ofNat y.st],fC y.non,y.tag.l]) hle) ?_);intro x hx;refine aN ?_)| refine ae ?_ | refine ai ?_ | exact aw |(refine ak rfl ?_;intro D lL)| refine ah ?_ ?_ | refine aj ?_ ?_ ?_ | fail));(all_goals refine av ?_)
 all_goals refine aG x True.intro (by rw [e,hl];rfl) ?_
 all_goals rw [e]
 ·((repeat' (first | with_reducible exact am _ | exact af _ | refine aB ?_ ?_ | refine aD inferInstance ?_))<;>(try with_reducible rfl))
 ·((repeat' (first | with_reducible exact am _ | exact af _ | refine aB ?_ ?_ | refine aD inferInstance ?_))<;>(try with_reducible rfl))
theorem yN {y:Ent} (h:eF y=0):Zp Tryz.prog 247 [vA (dN y)] [] [] Nat (fun _=>True) (fun b=> .tuple #[.slice (some ⟨b,0,none⟩) 33 33,vI 0]) (fun b=> [iB b (b8 (ig y)) 5]) (fun _=> []):=by
 refine an fun G=> ?_
 have hc:=Cy (x:=y)
 rw [h] at hc
 have e: [[UInt8.ofNat y.st],y.dg.l].flatten=ig y:=by simp [ig]
 have hl:=fN y
 have hle: [[UInt8.ofNat y.st],y.dg.l].flatten.length≤1099511627776:=by rw [e,hl];decide
 (repeat' ((try refine au ?_);(conv=>arg 4;whnf);first | refine ax ?_ |(refine sN ?_;intro b)|(refine sC ?_ ?_<;>intro h)|(refine ar ?_ ?_<;>intro h<;>try contradiction)|(refine aa ?_;intro g c')|((first | refine ay hc ?_ | refine ay (jx (ls:= [[UInt8.ofNat y.st],y.dg.l]) hle) ?_);intro x hx;refine aN ?_)| refine ae ?_ | refine ai ?_ | exact aw |(refine ak rfl ?_;intro D lL)| refine ah ?_ ?_ | refine aj ?_ ?_ ?_ | fail));(all_goals refine av ?_)
 refine aG x True.intro (by rw [e,hl];rfl) ?_
 rw [e];((repeat' (first | with_reducible exact am _ | exact af _ | refine aB ?_ ?_ | refine aD inferInstance ?_))<;>(try with_reducible rfl))
theorem j6 {st:Nat} (h:st≤2) (h0:st≠0):Zp Tryz.prog 140 [.int .u8 ((st:Nat):Int)] [] [] Unit (fun _=>True) (fun _=> .tuple #[vI (st-1),vI 0]) (fun _=> []) (fun _=> []):=by
 refine an fun G=> ?_
 rcases (show st=1∨st=2 by omega) with rfl | rfl
 ·(repeat' ((try refine au ?_);(conv=>arg 4;whnf);first | refine ax ?_ |(refine sN ?_;intro b)|(refine sC ?_ ?_<;>intro h)|(refine ar ?_ ?_<;>intro h<;>try contradiction)|(refine aa ?_;intro g c')| refine ae ?_ | refine ai ?_ | exact aw |(refine ak rfl ?_;intro D lL)| refine ah ?_ ?_ | refine aj ?_ ?_ ?_ | fail));(all_goals refine av ?_)
 ·(repeat' ((try refine au ?_);(conv=>arg 4;whnf);first | refine ax ?_ |(refine sN ?_;intro b)|(refine sC ?_ ?_<;>intro h)|(refine ar ?_ ?_<;>intro h<;>try contradiction)|(refine aa ?_;intro g c')| refine ae ?_ | refine ai ?_ | exact aw |(refine ak rfl ?_;intro D lL)| refine ah ?_ ?_ | refine aj ?_ ?_ ?_ | fail));(all_goals refine av ?_)
theorem CK:Zp Tryz.prog 140 [.int .u8 ((0:Nat):Int)] [] [] Unit (fun _=>True) (fun _=> .tuple #[vI 0,vI 11]) (fun _=> []) (fun _=> []):=by
 refine an fun G=> ?_
 (repeat' ((try refine au ?_);(conv=>arg 4;whnf);first | refine ax ?_ |(refine sN ?_;intro b)|(refine sC ?_ ?_<;>intro h)|(refine ar ?_ ?_<;>intro h<;>try contradiction)|(refine aa ?_;intro g c')| refine ae ?_ | refine ai ?_ | exact aw |(refine ak rfl ?_;intro D lL)| refine ah ?_ ?_ | refine aj ?_ ?_ ?_ | fail));(all_goals refine av ?_)
theorem vu {t:Nat} (h:t≤1):Zp Tryz.prog 294 [vI t] [] [] Unit (fun _=>True) (fun _=> .tuple #[.int .u8 ((t+1:Nat):Int),vI 0]) (fun _=> []) (fun _=> []):=by
 refine an fun G=> ?_
 rcases (show t=0∨t=1 by omega) with rfl | rfl
 ·(repeat' ((try refine au ?_);(conv=>arg 4;whnf);first | refine ax ?_ |(refine sN ?_;intro b)|(refine sC ?_ ?_<;>intro h)|(refine ar ?_ ?_<;>intro h<;>try contradiction)|(refine aa ?_;intro g c')| refine ae ?_ | refine ai ?_ | exact aw |(refine ak rfl ?_;intro D lL)| refine ah ?_ ?_ | refine aj ?_ ?_ ?_ | fail));(all_goals refine av ?_)
 ·(repeat' ((try refine au ?_);(conv=>arg 4;whnf);first | refine ax ?_ |(refine sN ?_;intro b)|(refine sC ?_ ?_<;>intro h)|(refine ar ?_ ?_<;>intro h<;>try contradiction)|(refine aa ?_;intro g c')| refine ae ?_ | refine ai ?_ | exact aw |(refine ak rfl ?_;intro D lL)| refine ah ?_ ?_ | refine aj ?_ ?_ ?_ | fail));(all_goals refine av ?_)
end Go.Proofs.YtbobhnldhpjdlaaGreatDoor
namespace Go.Proofs.YtbobhnldhpjdlaaGreatDoor
open Go Go.RowKit Go.Cs Go.Cz
set_option maxRecDepth 100000
set_option maxHeartbeats 1000000
theorem pZ {n:Nat} (h:n<256):Zp Tryz.prog 240 [.int .u8 ((n:Nat):Int)] [] [] Unit (fun _=>True) (fun _=>vI (min n 1)) (fun _=> []) (fun _=> []):=by
 refine an fun G=> ?_
 (repeat' ((try refine au ?_);(conv=>arg 4;whnf);first | refine ax ?_ |(refine sN ?_;intro b)|(refine sC ?_ ?_<;>intro h)|(refine ar ?_ ?_<;>intro h<;>try contradiction)|(refine aa ?_;intro g c')| refine ae ?_ | refine ai ?_ | exact aw |(refine ak rfl ?_;intro D lL)| refine ah ?_ ?_ | refine aj ?_ ?_ ?_ | fail));(all_goals refine av ?_)
theorem DO {x:R4}:Zp Tryz.prog 242 [vA (ly x), .func (.func 153) #[] #[]] [] [] Unit (fun _=>True) (fun _=>vI (mc x)) (fun _=> []) (fun _=> []):=by
 refine an fun G=> ?_
 (repeat' ((try refine au ?_);(conv=>arg 4;whnf);first | refine ax ?_ |(refine sN ?_;intro b)|(refine sC ?_ ?_<;>intro h)|(refine ar ?_ ?_<;>intro h<;>try contradiction)|(refine aa ?_;intro g c')| refine ae ?_ | refine ai ?_ | exact aw |(refine ak rfl ?_;intro D lL)| refine ah ?_ ?_ | refine aj ?_ ?_ ?_ | fail));(all_goals refine av ?_)
 refine dC (X:=Nat) (fun i=> [(4,vI 0),(9,vI i)]) (fun i=>i≤4∧∀k,k<i→cD (x.get k)=0) (fun i=> []) (fun i=>4-i) 0 ⟨Nat.zero_le _,fun k h=>absurd h (Nat.not_lt_zero _)⟩ rfl (af _) ?_
 rintro i ⟨hi,hz⟩
 by_cases h:i<4
 ·by_cases hc:cD (x.l.getD i default)=0
  ·(repeat' ((try refine au ?_);(conv=>arg 4;whnf);first | refine ax ?_ |(refine sN ?_;intro b)|(refine sC ?_ ?_<;>intro h)|(refine ar ?_ ?_<;>intro h<;>try contradiction)|(refine aa ?_;intro g c')|(refine ay nA ?_;intro x hx;refine aN ?_)| refine ae ?_ | refine ai ?_ | exact aw |(refine ak rfl ?_;intro D lL)| refine ah ?_ ?_ | refine aj ?_ ?_ ?_ | fail));(all_goals refine av ?_)
   refine bj (i+1) rfl ⟨h,fun k hk=> ?_⟩ (af _) (by omega)
   rcases Nat.lt_succ_iff_lt_or_eq.1 hk with g | rfl
   ·exact hz k g
   ·exact hc
  ·(repeat' ((try refine au ?_);(conv=>arg 4;whnf);first | refine ax ?_ |(refine sN ?_;intro b)|(refine sC ?_ ?_<;>intro h)|(refine ar ?_ ?_<;>intro h<;>try contradiction)|(refine aa ?_;intro g c')|(refine ay nA ?_;intro x hx;refine aN ?_)| refine ae ?_ | refine ai ?_ | exact aw |(refine ak rfl ?_;intro D lL)| refine ah ?_ ?_ | refine aj ?_ ?_ ?_ | fail));(all_goals refine av ?_)
   exact aG () True.intro (by rw [←tG h hc];rfl) (af _)
 ·have e:mc x=0:=bh.2 fun k hk=>hz k (by omega)
  (repeat' ((try refine au ?_);(conv=>arg 4;whnf);first | refine ax ?_ |(refine sN ?_;intro b)|(refine sC ?_ ?_<;>intro h)|(refine ar ?_ ?_<;>intro h<;>try contradiction)|(refine aa ?_;intro g c')| refine ae ?_ | refine ai ?_ | exact aw |(refine ak rfl ?_;intro D lL)| refine ah ?_ ?_ | refine aj ?_ ?_ ?_ | fail));(all_goals refine av ?_)
  exact aG () True.intro (by rw [e];rfl) (af _)
theorem D6 {x:E4}:Zp Tryz.prog 245 [vA (lg x), .func (.func 293) #[] #[]] [] [] Unit (fun _=>True) (fun _=>vI (m9 x)) (fun _=> []) (fun _=> []):=by
 refine an fun G=> ?_
 (repeat' ((try refine au ?_);(conv=>arg 4;whnf);first | refine ax ?_ |(refine sN ?_;intro b)|(refine sC ?_ ?_<;>intro h)|(refine ar ?_ ?_<;>intro h<;>try contradiction)|(refine aa ?_;intro g c')| refine ae ?_ | refine ai ?_ | exact aw |(refine ak rfl ?_;intro D lL)| refine ah ?_ ?_ | refine aj ?_ ?_ ?_ | fail));(all_goals refine av ?_)
 refine dC (X:=Nat) (fun i=> [(4,vI 0),(9,vI i)]) (fun i=>i≤4∧∀k,k<i→eF (x.get k)=0) (fun i=> []) (fun i=>4-i) 0 ⟨Nat.zero_le _,fun k h=>absurd h (Nat.not_lt_zero _)⟩ rfl (af _) ?_
 rintro i ⟨hi,hz⟩
 by_cases h:i<4
 ·by_cases hc:eF (x.l.getD i default)=0
  ·(repeat' ((try refine au ?_);(conv=>arg 4;whnf);first | refine ax ?_ |(refine sN ?_;intro b)|(refine sC ?_ ?_<;>intro h)|(refine ar ?_ ?_<;>intro h<;>try contradiction)|(refine aa ?_;intro g c')|(refine ay Cy ?_;intro x hx;refine aN ?_)| refine ae ?_ | refine ai ?_ | exact aw |(refine ak rfl ?_;intro D lL)| refine ah ?_ ?_ | refine aj ?_ ?_ ?_ | fail));(all_goals refine av ?_)
   refine bj (i+1) rfl ⟨h,fun k hk=> ?_⟩ (af _) (by omega)
   rcases Nat.lt_succ_iff_lt_or_eq.1 hk with g | rfl
   ·exact hz k g
   ·exact hc
  ·(repeat' ((try refine au ?_);(conv=>arg 4;whnf);first | refine ax ?_ |(refine sN ?_;intro b)|(refine sC ?_ ?_<;>intro h)|(refine ar ?_ ?_<;>intro h<;>try contradiction)|(refine aa ?_;intro g c')|(refine ay Cy ?_;intro x hx;refine aN ?_)| refine ae ?_ | refine ai ?_ | exact aw |(refine ak rfl ?_;intro D lL)| refine ah ?_ ?_ | refine aj ?_ ?_ ?_ | fail));(all_goals refine av ?_)
   exact aG () True.intro (by rw [←tK h hc];rfl) (af _)
 ·have e:m9 x=0:=bh.2 fun k hk=>hz k (by omega)
  (repeat' ((try refine au ?_);(conv=>arg 4;whnf);first | refine ax ?_ |(refine sN ?_;intro b)|(refine sC ?_ ?_<;>intro h)|(refine ar ?_ ?_<;>intro h<;>try contradiction)|(refine aa ?_;intro g c')| refine ae ?_ | refine ai ?_ | exact aw |(refine ak rfl ?_;intro D lL)| refine ah ?_ ?_ | refine aj ?_ ?_ ?_ | fail));(all_goals refine av ?_)
  exact aG () True.intro (by rw [e];rfl) (af _)
theorem zo {x:Nod}:Zp Tryz.prog 239 [vA (a7 x)] [] [] Unit (fun _=>True) (fun _=>vI (cd x)) (fun _=> []) (fun _=> []):=by
 refine an fun G=> ?_
 by_cases h5:5<x.lv
 ·rw [show cd x=1 from if_pos h5]
  (repeat' ((try refine au ?_);(conv=>arg 4;whnf);first | refine ax ?_ |(refine sN ?_;intro b)|(refine sC ?_ ?_<;>intro h)|(refine ar ?_ ?_<;>intro h<;>try contradiction)|(refine aa ?_;intro g c')| refine ae ?_ | refine ai ?_ | exact aw |(refine ak rfl ?_;intro D lL)| refine ah ?_ ?_ | refine aj ?_ ?_ ?_ | fail));(all_goals refine av ?_)
 by_cases h0:x.lv=0
 ·by_cases hz:x.es=E4.zero
  ·rw [show cd x=mc x.rs by rw [cd,if_neg h5,if_pos h0,if_pos ((E4.eqb_iff _ _).2 hz)]]
   (repeat' ((try refine au ?_);(conv=>arg 4;whnf);first | refine ax ?_ |(refine sN ?_;intro b)|(refine sC ?_ ?_<;>intro h)|(refine ar ?_ ?_<;>intro h<;>try contradiction)|(refine aa ?_;intro g c')|(refine ay DO ?_;intro x hx;refine aN ?_)| refine ae ?_ | refine ai ?_ | exact aw |(refine ak rfl ?_;intro D lL)| refine ah ?_ ?_ | refine aj ?_ ?_ ?_ | fail));(all_goals refine av ?_)
  ·rw [show cd x=1 by rw [cd,if_neg h5,if_pos h0,if_neg (fun g=>hz ((E4.eqb_iff _ _).1 g))]]
   (repeat' ((try refine au ?_);(conv=>arg 4;whnf);first | refine ax ?_ |(refine sN ?_;intro b)|(refine sC ?_ ?_<;>intro h)|(refine ar ?_ ?_<;>intro h<;>try contradiction)|(refine aa ?_;intro g c')|(refine ay DO ?_;intro x hx;refine aN ?_)| refine ae ?_ | refine ai ?_ | exact aw |(refine ak rfl ?_;intro D lL)| refine ah ?_ ?_ | refine aj ?_ ?_ ?_ | fail));(all_goals refine av ?_)
 ·by_cases hz:x.rs=R4.zero
  ·rw [show cd x=m9 x.es by rw [cd,if_neg h5,if_neg h0,if_pos ((R4.eqb_iff _ _).2 hz)]]
   (repeat' ((try refine au ?_);(conv=>arg 4;whnf);first | refine ax ?_ |(refine sN ?_;intro b)|(refine sC ?_ ?_<;>intro h)|(refine ar ?_ ?_<;>intro h<;>try contradiction)|(refine aa ?_;intro g c')|(refine ay D6 ?_;intro x hx;refine aN ?_)| refine ae ?_ | refine ai ?_ | exact aw |(refine ak rfl ?_;intro D lL)| refine ah ?_ ?_ | refine aj ?_ ?_ ?_ | fail));(all_goals refine av ?_)
  ·rw [show cd x=1 by rw [cd,if_neg h5,if_neg h0,if_neg (fun g=>hz ((R4.eqb_iff _ _).1 g))]]
   (repeat' ((try refine au ?_);(conv=>arg 4;whnf);first | refine ax ?_ |(refine sN ?_;intro b)|(refine sC ?_ ?_<;>intro h)|(refine ar ?_ ?_<;>intro h<;>try contradiction)|(refine aa ?_;intro g c')|(refine ay D6 ?_;intro x hx;refine aN ?_)| refine ae ?_ | refine ai ?_ | exact aw |(refine ak rfl ?_;intro D lL)| refine ah ?_ ?_ | refine aj ?_ ?_ ?_ | fail));(all_goals refine av ?_)
theorem oM {x:Nod}:Zp Tryz.prog 325 [vA (a7 x)] [] [] Unit (fun _=>True) (fun _=>vI (usd x 4)) (fun _=> []) (fun _=> []):=by
 refine an fun G=> ?_
 (repeat' ((try refine au ?_);(conv=>arg 4;whnf);first | refine ax ?_ |(refine sN ?_;intro b)|(refine sC ?_ ?_<;>intro h)|(refine ar ?_ ?_<;>intro h<;>try contradiction)|(refine aa ?_;intro g c')| refine ae ?_ | refine ai ?_ | exact aw |(refine ak rfl ?_;intro D lL)| refine ah ?_ ?_ | refine aj ?_ ?_ ?_ | fail));(all_goals refine av ?_)
 refine dC (X:=Nat) (fun i=> [(3,vI (usd x i)),(5,vI i)]) (fun i=>i≤4) (fun i=> [iB b (a7 x) 217]) (fun i=>4-i) 0 (Nat.zero_le _) rfl ?_ ?_
 ·((repeat' (first | with_reducible exact am _ | exact af _ | refine aB ?_ ?_ | refine aD inferInstance ?_))<;>(try with_reducible rfl))
 intro i hi
 have hu:=po x i
 by_cases h:i<4
 ·by_cases h0:x.lv=0
  ·by_cases hs:(x.rs.l.getD i default).st=0
   ·have e:usd x (i+1)=usd x i:=by rw [usd,if_pos h0,if_pos (show (x.rs.get i).st=0 from hs)];rfl
    (repeat' ((try refine au ?_);(conv=>arg 4;whnf);first | refine ax ?_ |(refine sN ?_;intro b)|(refine sC ?_ ?_<;>intro h)|(refine ar ?_ ?_<;>intro h<;>try contradiction)|(refine aa ?_;intro g c')| refine ae ?_ | refine ai ?_ | exact aw |(refine ak rfl ?_;intro D lL)| refine ah ?_ ?_ | refine aj ?_ ?_ ?_ | fail));(all_goals refine av ?_)
    exact bj (i+1) (by rw [e];rfl) (by omega) (by ((repeat' (first | with_reducible exact am _ | exact af _ | refine aB ?_ ?_ | refine aD inferInstance ?_))<;>(try with_reducible rfl))) (by omega)
   ·have e:usd x (i+1)=usd x i+1:=by rw [usd,if_pos h0,if_neg (show ¬(x.rs.get i).st=0 from hs)]
    (repeat' ((try refine au ?_);(conv=>arg 4;whnf);first | refine ax ?_ |(refine sN ?_;intro b)|(refine sC ?_ ?_<;>intro h)|(refine ar ?_ ?_<;>intro h<;>try contradiction)|(refine aa ?_;intro g c')| refine ae ?_ | refine ai ?_ | exact aw |(refine ak rfl ?_;intro D lL)| refine ah ?_ ?_ | refine aj ?_ ?_ ?_ | fail));(all_goals refine av ?_)
    exact bj (i+1) (by rw [e];rfl) (by omega) (by ((repeat' (first | with_reducible exact am _ | exact af _ | refine aB ?_ ?_ | refine aD inferInstance ?_))<;>(try with_reducible rfl))) (by omega)
  ·by_cases hs:(x.es.l.getD i default).st=0
   ·have e:usd x (i+1)=usd x i:=by rw [usd,if_neg h0,if_pos (show (x.es.get i).st=0 from hs)];rfl
    (repeat' ((try refine au ?_);(conv=>arg 4;whnf);first | refine ax ?_ |(refine sN ?_;intro b)|(refine sC ?_ ?_<;>intro h)|(refine ar ?_ ?_<;>intro h<;>try contradiction)|(refine aa ?_;intro g c')| refine ae ?_ | refine ai ?_ | exact aw |(refine ak rfl ?_;intro D lL)| refine ah ?_ ?_ | refine aj ?_ ?_ ?_ | fail));(all_goals refine av ?_)
    exact bj (i+1) (by rw [e];rfl) (by omega) (by ((repeat' (first | with_reducible exact am _ | exact af _ | refine aB ?_ ?_ | refine aD inferInstance ?_))<;>(try with_reducible rfl))) (by omega)
   ·have e:usd x (i+1)=usd x i+1:=by rw [usd,if_neg h0,if_neg (show ¬(x.es.get i).st=0 from hs)]
    (repeat' ((try refine au ?_);(conv=>arg 4;whnf);first | refine ax ?_ |(refine sN ?_;intro b)|(refine sC ?_ ?_<;>intro h)|(refine ar ?_ ?_<;>intro h<;>try contradiction)|(refine aa ?_;intro g c')| refine ae ?_ | refine ai ?_ | exact aw |(refine ak rfl ?_;intro D lL)| refine ah ?_ ?_ | refine aj ?_ ?_ ?_ | fail));(all_goals refine av ?_)
    exact bj (i+1) (by rw [e];rfl) (by omega) (by ((repeat' (first | with_reducible exact am _ | exact af _ | refine aB ?_ ?_ | refine aD inferInstance ?_))<;>(try with_reducible rfl))) (by omega)
 ·obtain rfl:i=4:=by omega
  (repeat' ((try refine au ?_);(conv=>arg 4;whnf);first | refine ax ?_ |(refine sN ?_;intro b)|(refine sC ?_ ?_<;>intro h)|(refine ar ?_ ?_<;>intro h<;>try contradiction)|(refine aa ?_;intro g c')| refine ae ?_ | refine ai ?_ | exact aw |(refine ak rfl ?_;intro D lL)| refine ah ?_ ?_ | refine aj ?_ ?_ ?_ | fail));(all_goals refine av ?_)
end Go.Proofs.YtbobhnldhpjdlaaGreatDoor
namespace Go.Proofs.YtbobhnldhpjdlaaGreatDoor
open Go Go.RowKit Go.Cs Go.Cz
set_option maxRecDepth 100000
set_option maxHeartbeats 1000000
theorem uL {lv ix:Nat} (h1:lv<256) (h2:ix<4294967296):Zp Tryz.prog 139 [.int .u8 ((lv:Nat):Int), .int .u32 ((ix:Nat):Int)] [] [] Unit (fun _=>True) (fun _=>vA (a7 (Nod.mt lv ix))) (fun _=> []) (fun _=> []):=by
  refine an fun G=> ?_
  have i1:Nu 256 ((lv:Nat):Int) lv:=⟨rfl,h1⟩
  have i2:Nu 4294967296 ((ix:Nat):Int) ix:=⟨rfl,h2⟩
  (repeat' ((try refine au ?_);(conv=>arg 4;whnf);first | refine ax ?_ |(refine sN ?_;intro b)|(refine sC ?_ ?_<;>intro h)|(refine ar ?_ ?_<;>intro h<;>try contradiction)|(refine aa ?_;intro g c')| refine ae ?_ | refine ai ?_ | exact aw |(refine ak rfl ?_;intro D lL)| refine ah ?_ ?_ | refine aj ?_ ?_ ?_ | fail));(all_goals refine av ?_)
  exact aG () True.intro (by rw [←Nod.mt_eq h1 h2];rfl) (af _)
def lB (y:Nod) (i:Nat):List UInt8:=jb y++gy gl y.rs.get i++List.replicate (180-45*i) 0
def lr (y:Nod) (i:Nat):List UInt8:=jb y++gy ig y.es.get i++List.replicate (132-33*i) 0
theorem jW (y:Nod):(jb y).length=5:=by simp [jb]
theorem q8 (y:Nod) (n:Nat) (h:5≤n):spl (spl (List.replicate n (0:UInt8)) 0 [UInt8.ofNat y.lv]) (0+1) (be y.ix 4)=jb y++List.replicate (n-5) 0:=by
  obtain ⟨m,rfl⟩:∃m,n=m+5:=⟨n-5,by omega⟩
  have h4:(be y.ix 4).length=4:=by simp
  simp only [spl,List.take_zero,List.nil_append,List.length_singleton,List.drop_replicate,Nat.zero_add,h4]
  rw [show List.take 1 ([UInt8.ofNat y.lv]++List.replicate (m+5-1) 0)= [UInt8.ofNat y.lv] from rfl,List.drop_append,List.drop_replicate]
  simp [jb]
theorem GA (y:Nod):lB y 0=jb y++List.replicate 180 0:=by simp [lB,gy]
theorem FS (y:Nod):lr y 0=jb y++List.replicate 132 0:=by simp [lr,gy]
theorem A4 (y:Nod) {i:Nat} (h:i≤4):(lB y i).length=185:=by simp [lB,jW,eR fW];omega
theorem yz (y:Nod) {i:Nat} (h:i≤4):(lr y i).length=137:=by simp [lr,jW,eR fN];omega
theorem FU (y:Nod) (h:y.lv=0):lB y 4=aL y:=by simp [lB,aL,h]
theorem E9 (y:Nod) (h:y.lv≠0):lr y 4=aL y:=by simp [lr,aL,h]
theorem yt (y:Nod) {i:Nat} (h:i<4):spl (lB y i) (5+45*i) (gl (y.rs.l.getD i default))=lB y (i+1):=by
  have h1:(jb y++gy gl y.rs.get i).length=5+45*i:=by simp [jW,eR fW];omega
  have h2:(gl (y.rs.l.getD i default)).length=45:=fW _
  rw [spl,lB,List.take_left' h1,List.drop_append,List.drop_eq_nil_of_le (by rw [h1,h2];omega),List.nil_append,h1,h2,List.drop_replicate,lB,gy]
  rw [show 180-45*i-(5+45*i+45-(5+45*i))=180-45*(i+1) by omega]
  simp only [List.append_assoc];rfl
theorem xK (y:Nod) {i:Nat} (h:i<4):spl (lr y i) (5+33*i) (ig (y.es.l.getD i default))=lr y (i+1):=by
  have h1:(jb y++gy ig y.es.get i).length=5+33*i:=by simp [jW,eR fN];omega
  have h2:(ig (y.es.l.getD i default)).length=33:=fN _
  rw [spl,lr,List.take_left' h1,List.drop_append,List.drop_eq_nil_of_le (by rw [h1,h2];omega),List.nil_append,h1,h2,List.drop_replicate,lr,gy]
  rw [show 132-33*i-(5+33*i+33-(5+33*i))=132-33*(i+1) by omega]
  simp only [List.append_assoc];rfl
theorem Cl {y:Nod} {q:Value×Value} (h:cd y=0) (h0:y.lv=0):Zp Tryz.prog 181 [vA (a7 y)] [] [Gs q] Nat (fun _=>True) (fun b=> .tuple #[.slice (some ⟨b,0,none⟩) (d7 y) (d7 y),vI 0]) (fun b=> [iB b (b8 (aL y)) 5]) (fun _=> []):=by
  refine an fun G=> ?_
  have hck:=zo (x:=y)
  rw [h] at hck
  have hlv:=gP h
  have hkd:=pZ y.hlv
  have hix:y.ix<4294967296:=y.hix
  have g0:([45,33]:List Nat).getD 0 default=45:=rfl
  have g1:([45,33]:List Nat).getD 1 default=33:=rfl
  have hR:∀i,i<4→cD (y.rs.l.getD i default)=0:=fun i hi=>bh.1 (gY h h0) i hi
  have hb0:List.flatMap cB (spl (spl (List.replicate (5+4* [45,33].getD 0 default) 0) 0 [UInt8.ofNat y.lv]) (0+1) (be y.ix 4))=b8 (lB y 0):=by rw [GA,cu,q8 _ _ (by decide)];rfl
  rw [show min y.lv 1=0 by omega] at hkd
  (repeat' ((try refine au ?_);(conv=>arg 4;whnf);first | refine cp ?_ |(refine sN ?_;intro b)|(refine sC ?_ ?_<;>intro h)|(refine ar ?_ ?_<;>intro h<;>try contradiction)|(refine aa ?_;intro g c')|((first | refine ay hck ?_ | refine ay hkd ?_ | refine ay (jZ (v:=y.ix) hix) ?_);intro x hx;refine aN ?_)| refine ae ?_ | refine ai ?_ | exact aw |(refine ak rfl ?_;intro D lL)| refine ah ?_ ?_ | refine aj ?_ ?_ ?_ | fail));(all_goals refine av ?_)
  rename_i mb cb
  refine fy [mb] rfl ?_
  (repeat' ((try refine au ?_);(conv=>arg 4;whnf);first | refine cp ?_ |(refine sN ?_;intro b)|(refine sC ?_ ?_<;>intro h)|(refine ar ?_ ?_<;>intro h<;>try contradiction)|(refine aa ?_;intro g c')|(refine ay (jZ (v:=y.ix) hix) ?_;intro x hx;refine aN ?_)| refine ae ?_ | refine ai ?_ | exact aw |(refine ak rfl ?_;intro D lL)| refine ah ?_ ?_ | refine aj ?_ ?_ ?_ | fail));(all_goals refine av ?_)
  all_goals rw [hb0]
  all_goals refine eA [cb,mb] (X:=Nat) (fun i=> [(4,vI 0),(9,vI i)]) (fun i=>i≤4) (fun i=> [iB cb [.slice (some ⟨mb,0,none⟩) (5+45*i) 185] 55,iB mb (b8 (lB y i)) 5]) (fun i=>4-i) 0 (Nat.zero_le _) rfl (by (((repeat' (first | with_reducible exact am _ | exact af _ | refine aB ?_ ?_ | refine aD inferInstance ?_ | refine aI ?_))<;>(try with_reducible rfl)))<;>rfl) ?_
  all_goals (intro i hi
             (conv=>arg 2;simp only [List.cons_append,List.nil_append])
             have hbl:=A4 y hi
             by_cases h:i<4
             · have hc:=hR i h
               have hrl:=fW (y.rs.l.getD i default)
               have hst:5+45*(i+1)=5+45*i+45:=by omega
               (repeat' ((try refine au ?_);(conv=>arg 4;whnf);first | refine cp ?_ |(refine sN ?_;intro b)|(refine sC ?_ ?_<;>intro h)|(refine ar ?_ ?_<;>intro h<;>try contradiction)|(refine aa ?_;intro g c')|(refine ay (A7 hc) ?_;intro x hx;refine aN ?_)| refine ae ?_ | refine ai ?_ | exact aw |(refine ak rfl ?_;intro D lL)| refine ah ?_ ?_ | refine aj ?_ ?_ ?_ | fail));(all_goals refine av ?_)
               refine fy [mb,cb] rfl ?_
               (repeat' ((try refine au ?_);(conv=>arg 4;whnf);first | refine ax ?_ |(refine sN ?_;intro b)|(refine sC ?_ ?_<;>intro h)|(refine ar ?_ ?_<;>intro h<;>try contradiction)|(refine aa ?_;intro g c')|(refine ay (A7 hc) ?_;intro x hx;refine aN ?_)| refine ae ?_ | refine ai ?_ | exact aw |(refine ak rfl ?_;intro D lL)| refine ah ?_ ?_ | refine aj ?_ ?_ ?_ | fail));(all_goals refine av ?_)
               all_goals refine bj (i+1) rfl (by omega) ?_ (by omega)
               all_goals rw [hst,←yt y h]
               all_goals ((repeat' (first | with_reducible exact am _ | exact af _ | refine aB ?_ ?_ | refine aD inferInstance ?_ | refine aI ?_))<;>(try with_reducible rfl))
             · obtain rfl:i=4:=by omega
               rw [FU y h0]
               (repeat' ((try refine au ?_);(conv=>arg 4;whnf);first | refine ax ?_ |(refine sN ?_;intro b)|(refine sC ?_ ?_<;>intro h)|(refine ar ?_ ?_<;>intro h<;>try contradiction)|(refine aa ?_;intro g c')| refine ae ?_ | refine ai ?_ | exact aw |(refine ak rfl ?_;intro D lL)| refine ah ?_ ?_ | refine aj ?_ ?_ ?_ | fail));(all_goals refine av ?_)
               refine aG mb True.intro ?_ ?_
               · rw [d7];first |(rw [if_pos h0];rfl)|(rw [if_neg h0];rfl)
               · ((repeat' (first | with_reducible exact am _ | exact af _ | refine aB ?_ ?_ | refine aD inferInstance ?_ | refine aI ?_))<;>(try with_reducible rfl)))
theorem CU {y:Nod} {q:Value×Value} (h:cd y=0) (h0:¬y.lv=0):Zp Tryz.prog 181 [vA (a7 y)] [] [Gs q] Nat (fun _=>True) (fun b=> .tuple #[.slice (some ⟨b,0,none⟩) (d7 y) (d7 y),vI 0]) (fun b=> [iB b (b8 (aL y)) 5]) (fun _=> []):=by
  refine an fun G=> ?_
  have hck:=zo (x:=y)
  rw [h] at hck
  have hlv:=gP h
  have hkd:=pZ y.hlv
  have hix:y.ix<4294967296:=y.hix
  have g0:([45,33]:List Nat).getD 0 default=45:=rfl
  have g1:([45,33]:List Nat).getD 1 default=33:=rfl
  have hE:∀i,i<4→eF (y.es.l.getD i default)=0:=fun i hi=>bh.1 (jQ h h0) i hi
  have hb0:List.flatMap cB (spl (spl (List.replicate (5+4*33) 0) 0 [UInt8.ofNat y.lv]) (0+1) (be y.ix 4))=b8 (lr y 0):=by rw [FS,cu,q8 _ _ (by decide)]
  rw [show min y.lv 1=1 by omega] at hkd
  (repeat' ((try refine au ?_);(conv=>arg 4;whnf);first | refine cp ?_ |(refine sN ?_;intro b)|(refine sC ?_ ?_<;>intro h)|(refine ar ?_ ?_<;>intro h<;>try contradiction)|(refine aa ?_;intro g c')|((first | refine ay hck ?_ | refine ay hkd ?_ | refine ay (jZ (v:=y.ix) hix) ?_);intro x hx;refine aN ?_)| refine ae ?_ | refine ai ?_ | exact aw |(refine ak rfl ?_;intro D lL)| refine ah ?_ ?_ | refine aj ?_ ?_ ?_ | fail));(all_goals refine av ?_)
  rename_i mb cb
  refine fy [mb] rfl ?_
  (repeat' ((try refine au ?_);(conv=>arg 4;whnf);first | refine cp ?_ |(refine sN ?_;intro b)|(refine sC ?_ ?_<;>intro h)|(refine ar ?_ ?_<;>intro h<;>try contradiction)|(refine aa ?_;intro g c')|(refine ay (jZ (v:=y.ix) hix) ?_;intro x hx;refine aN ?_)| refine ae ?_ | refine ai ?_ | exact aw |(refine ak rfl ?_;intro D lL)| refine ah ?_ ?_ | refine aj ?_ ?_ ?_ | fail));(all_goals refine av ?_)
  all_goals rw [hb0]
  all_goals refine eA [cb,mb] (X:=Nat) (fun i=> [(4,vI 0),(9,vI i)]) (fun i=>i≤4) (fun i=> [iB cb [.slice (some ⟨mb,0,none⟩) (5+33*i) 137] 55,iB mb (b8 (lr y i)) 5]) (fun i=>4-i) 0 (Nat.zero_le _) rfl (by (((repeat' (first | with_reducible exact am _ | exact af _ | refine aB ?_ ?_ | refine aD inferInstance ?_ | refine aI ?_))<;>(try with_reducible rfl)))<;>rfl) ?_
  all_goals (intro i hi
             (conv=>arg 2;simp only [List.cons_append,List.nil_append])
             have hbl:=yz y hi
             by_cases h:i<4
             · have hc:=hE i h
               have hrl:=fN (y.es.l.getD i default)
               have hst:5+33*(i+1)=5+33*i+33:=by omega
               (repeat' ((try refine au ?_);(conv=>arg 4;whnf);first | refine cp ?_ |(refine sN ?_;intro b)|(refine sC ?_ ?_<;>intro h)|(refine ar ?_ ?_<;>intro h<;>try contradiction)|(refine aa ?_;intro g c')|(refine ay (yN hc) ?_;intro x hx;refine aN ?_)| refine ae ?_ | refine ai ?_ | exact aw |(refine ak rfl ?_;intro D lL)| refine ah ?_ ?_ | refine aj ?_ ?_ ?_ | fail));(all_goals refine av ?_)
               refine fy [mb,cb] rfl ?_
               (repeat' ((try refine au ?_);(conv=>arg 4;whnf);first | refine ax ?_ |(refine sN ?_;intro b)|(refine sC ?_ ?_<;>intro h)|(refine ar ?_ ?_<;>intro h<;>try contradiction)|(refine aa ?_;intro g c')|(refine ay (yN hc) ?_;intro x hx;refine aN ?_)| refine ae ?_ | refine ai ?_ | exact aw |(refine ak rfl ?_;intro D lL)| refine ah ?_ ?_ | refine aj ?_ ?_ ?_ | fail));(all_goals refine av ?_)
               all_goals refine bj (i+1) rfl (by omega) ?_ (by omega)
               all_goals rw [hst,←xK y h]
               all_goals ((repeat' (first | with_reducible exact am _ | exact af _ | refine aB ?_ ?_ | refine aD inferInstance ?_ | refine aI ?_))<;>(try with_reducible rfl))
             · obtain rfl:i=4:=by omega
               rw [E9 y h0]
               (repeat' ((try refine au ?_);(conv=>arg 4;whnf);first | refine ax ?_ |(refine sN ?_;intro b)|(refine sC ?_ ?_<;>intro h)|(refine ar ?_ ?_<;>intro h<;>try contradiction)|(refine aa ?_;intro g c')| refine ae ?_ | refine ai ?_ | exact aw |(refine ak rfl ?_;intro D lL)| refine ah ?_ ?_ | refine aj ?_ ?_ ?_ | fail));(all_goals refine av ?_)
               refine aG mb True.intro ?_ ?_
               · rw [d7];first |(rw [if_pos h0];rfl)|(rw [if_neg h0];rfl)
               · ((repeat' (first | with_reducible exact am _ | exact af _ | refine aB ?_ ?_ | refine aD inferInstance ?_ | refine aI ?_))<;>(try with_reducible rfl)))
theorem pP {y:Nod} {q:Value×Value} (h:cd y=0):Zp Tryz.prog 181 [vA (a7 y)] [] [Gs q] Nat (fun _=>True) (fun b=> .tuple #[.slice (some ⟨b,0,none⟩) (d7 y) (d7 y),vI 0]) (fun b=> [iB b (b8 (aL y)) 5]) (fun _=> []):=by
  by_cases h0:y.lv=0
  · exact Cl h h0
  · exact CU h h0
end Go.Proofs.YtbobhnldhpjdlaaGreatDoor
