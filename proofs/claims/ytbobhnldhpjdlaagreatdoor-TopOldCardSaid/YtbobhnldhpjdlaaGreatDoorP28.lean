/- Lemmas and walks: what each function does, by its own code. No condition beyond those of each statement. -/
import Derived.Test.YtbobhnldhpjdlaaGreatDoorP13
import Derived.Test.YtbobhnldhpjdlaaGreatDoorP14
import Derived.Test.YtbobhnldhpjdlaaGreatDoorP27
set_option linter.all false
set_option linter.unusedVariables false
namespace Go.Proofs.YtbobhnldhpjdlaaGreatDoor
open Go Go.RowKit Go.Cs Go.Cz
set_option maxRecDepth 100000
set_option maxHeartbeats 1000000
theorem BU {y:Rec} (h:bS y=0):Zp Tryz.prog 244 [vA (bY y)] [] [] Nat (fun _=>True) (fun b=> .tuple #[.slice (some ⟨b,0,none⟩) 45 45,vI 0]) (fun b=> [iB b (bE (ga y)) 5]) (fun _=> []):=by
 refine ak fun G=> ?_
 have hc:=nB (x:=y)
 rw [h] at hc
 have hn:=d4 y.non
 have e: [[UInt8.ofNat y.st],eA y.non,y.tag.l].flatten=ga y:=by simp [ga]
 have hl:=fe y
 have hle: [[UInt8.ofNat y.st],eA y.non,y.tag.l].flatten.length≤1099511627776:=by rw [e,hl];decide
 (repeat' ((try refine aw ?_);(conv=>arg 4;whnf);first | refine az ?_ |(refine sN ?_;intro b)|(refine sC ?_ ?_<;>intro h)|(refine au ?_ ?_<;>intro h<;>try contradiction)|(refine aa ?_;intro g c')|((first | refine aA hc ?_ | refine aA oZ ?_ | refine aA (i7 (ls:= [[UInt8.ofNat y.st],eA y.non,y.tag.l]) hle) ?_);intro x hx;refine aH ?_)| refine ae ?_ | refine ai ?_ | exact ax |(refine aj rfl ?_;intro D lL)| refine af ?_ ?_ | refine ah ?_ ?_ ?_ | fail));(all_goals refine av ?_)
 all_goals refine aD x True.intro (by rw [e,hl];rfl) ?_
 all_goals rw [e]
 ·((repeat' (first | with_reducible exact ar _ | exact am _ | refine aE ?_ ?_ | refine aG inferInstance ?_))<;>(try with_reducible rfl))
 ·((repeat' (first | with_reducible exact ar _ | exact am _ | refine aE ?_ ?_ | refine aG inferInstance ?_))<;>(try with_reducible rfl))
theorem AN {y:Ent} (h:dK y=0):Zp Tryz.prog 247 [vA (c6 y)] [] [] Nat (fun _=>True) (fun b=> .tuple #[.slice (some ⟨b,0,none⟩) 33 33,vI 0]) (fun b=> [iB b (bE (gP y)) 5]) (fun _=> []):=by
 refine ak fun G=> ?_
 have hc:=Dy (x:=y)
 rw [h] at hc
 have e: [[UInt8.ofNat y.st],y.dg.l].flatten=gP y:=by simp [gP]
 have hl:=eZ y
 have hle: [[UInt8.ofNat y.st],y.dg.l].flatten.length≤1099511627776:=by rw [e,hl];decide
 (repeat' ((try refine aw ?_);(conv=>arg 4;whnf);first | refine az ?_ |(refine sN ?_;intro b)|(refine sC ?_ ?_<;>intro h)|(refine au ?_ ?_<;>intro h<;>try contradiction)|(refine aa ?_;intro g c')|((first | refine aA hc ?_ | refine aA (i7 (ls:= [[UInt8.ofNat y.st],y.dg.l]) hle) ?_);intro x hx;refine aH ?_)| refine ae ?_ | refine ai ?_ | exact ax |(refine aj rfl ?_;intro D lL)| refine af ?_ ?_ | refine ah ?_ ?_ ?_ | fail));(all_goals refine av ?_)
 refine aD x True.intro (by rw [e,hl];rfl) ?_
 rw [e];((repeat' (first | with_reducible exact ar _ | exact am _ | refine aE ?_ ?_ | refine aG inferInstance ?_))<;>(try with_reducible rfl))
theorem kt {st:Nat} (h:st≤2) (h0:st≠0):Zp Tryz.prog 140 [.int .u8 ((st:Nat):Int)] [] [] Unit (fun _=>True) (fun _=> .tuple #[vI (st-1),vI 0]) (fun _=> []) (fun _=> []):=by
 refine ak fun G=> ?_
 rcases (show st=1∨st=2 by omega) with rfl | rfl
 ·(repeat' ((try refine aw ?_);(conv=>arg 4;whnf);first | refine az ?_ |(refine sN ?_;intro b)|(refine sC ?_ ?_<;>intro h)|(refine au ?_ ?_<;>intro h<;>try contradiction)|(refine aa ?_;intro g c')| refine ae ?_ | refine ai ?_ | exact ax |(refine aj rfl ?_;intro D lL)| refine af ?_ ?_ | refine ah ?_ ?_ ?_ | fail));(all_goals refine av ?_)
 ·(repeat' ((try refine aw ?_);(conv=>arg 4;whnf);first | refine az ?_ |(refine sN ?_;intro b)|(refine sC ?_ ?_<;>intro h)|(refine au ?_ ?_<;>intro h<;>try contradiction)|(refine aa ?_;intro g c')| refine ae ?_ | refine ai ?_ | exact ax |(refine aj rfl ?_;intro D lL)| refine af ?_ ?_ | refine ah ?_ ?_ ?_ | fail));(all_goals refine av ?_)
theorem DW:Zp Tryz.prog 140 [.int .u8 ((0:Nat):Int)] [] [] Unit (fun _=>True) (fun _=> .tuple #[vI 0,vI 11]) (fun _=> []) (fun _=> []):=by
 refine ak fun G=> ?_
 (repeat' ((try refine aw ?_);(conv=>arg 4;whnf);first | refine az ?_ |(refine sN ?_;intro b)|(refine sC ?_ ?_<;>intro h)|(refine au ?_ ?_<;>intro h<;>try contradiction)|(refine aa ?_;intro g c')| refine ae ?_ | refine ai ?_ | exact ax |(refine aj rfl ?_;intro D lL)| refine af ?_ ?_ | refine ah ?_ ?_ ?_ | fail));(all_goals refine av ?_)
theorem vN {t:Nat} (h:t≤1):Zp Tryz.prog 294 [vI t] [] [] Unit (fun _=>True) (fun _=> .tuple #[.int .u8 ((t+1:Nat):Int),vI 0]) (fun _=> []) (fun _=> []):=by
 refine ak fun G=> ?_
 rcases (show t=0∨t=1 by omega) with rfl | rfl
 ·(repeat' ((try refine aw ?_);(conv=>arg 4;whnf);first | refine az ?_ |(refine sN ?_;intro b)|(refine sC ?_ ?_<;>intro h)|(refine au ?_ ?_<;>intro h<;>try contradiction)|(refine aa ?_;intro g c')| refine ae ?_ | refine ai ?_ | exact ax |(refine aj rfl ?_;intro D lL)| refine af ?_ ?_ | refine ah ?_ ?_ ?_ | fail));(all_goals refine av ?_)
 ·(repeat' ((try refine aw ?_);(conv=>arg 4;whnf);first | refine az ?_ |(refine sN ?_;intro b)|(refine sC ?_ ?_<;>intro h)|(refine au ?_ ?_<;>intro h<;>try contradiction)|(refine aa ?_;intro g c')| refine ae ?_ | refine ai ?_ | exact ax |(refine aj rfl ?_;intro D lL)| refine af ?_ ?_ | refine ah ?_ ?_ ?_ | fail));(all_goals refine av ?_)
end Go.Proofs.YtbobhnldhpjdlaaGreatDoor
namespace Go.Proofs.YtbobhnldhpjdlaaGreatDoor
open Go Go.RowKit Go.Cs Go.Cz
set_option maxRecDepth 100000
set_option maxHeartbeats 1000000
theorem po {n:Nat} (h:n<256):Zp Tryz.prog 240 [.int .u8 ((n:Nat):Int)] [] [] Unit (fun _=>True) (fun _=>vI (min n 1)) (fun _=> []) (fun _=> []):=by
 refine ak fun G=> ?_
 (repeat' ((try refine aw ?_);(conv=>arg 4;whnf);first | refine az ?_ |(refine sN ?_;intro b)|(refine sC ?_ ?_<;>intro h)|(refine au ?_ ?_<;>intro h<;>try contradiction)|(refine aa ?_;intro g c')| refine ae ?_ | refine ai ?_ | exact ax |(refine aj rfl ?_;intro D lL)| refine af ?_ ?_ | refine ah ?_ ?_ ?_ | fail));(all_goals refine av ?_)
theorem EM {x:R4}:Zp Tryz.prog 242 [vA (kT x), .func (.func 153) #[] #[]] [] [] Unit (fun _=>True) (fun _=>vI (lz x)) (fun _=> []) (fun _=> []):=by
 refine ak fun G=> ?_
 (repeat' ((try refine aw ?_);(conv=>arg 4;whnf);first | refine az ?_ |(refine sN ?_;intro b)|(refine sC ?_ ?_<;>intro h)|(refine au ?_ ?_<;>intro h<;>try contradiction)|(refine aa ?_;intro g c')| refine ae ?_ | refine ai ?_ | exact ax |(refine aj rfl ?_;intro D lL)| refine af ?_ ?_ | refine ah ?_ ?_ ?_ | fail));(all_goals refine av ?_)
 refine cN (X:=Nat) (fun i=> [(4,vI 0),(9,vI i)]) (fun i=>i≤4∧∀k,k<i→bS (x.get k)=0) (fun i=> []) (fun i=>4-i) 0 ⟨Nat.zero_le _,fun k h=>absurd h (Nat.not_lt_zero _)⟩ rfl (am _) ?_
 rintro i ⟨hi,hz⟩
 by_cases h:i<4
 ·by_cases hc:bS (x.l.getD i default)=0
  ·(repeat' ((try refine aw ?_);(conv=>arg 4;whnf);first | refine az ?_ |(refine sN ?_;intro b)|(refine sC ?_ ?_<;>intro h)|(refine au ?_ ?_<;>intro h<;>try contradiction)|(refine aa ?_;intro g c')|(refine aA nB ?_;intro x hx;refine aH ?_)| refine ae ?_ | refine ai ?_ | exact ax |(refine aj rfl ?_;intro D lL)| refine af ?_ ?_ | refine ah ?_ ?_ ?_ | fail));(all_goals refine av ?_)
   refine a5 (i+1) rfl ⟨h,fun k hk=> ?_⟩ (am _) (by omega)
   rcases Nat.lt_succ_iff_lt_or_eq.1 hk with g | rfl
   ·exact hz k g
   ·exact hc
  ·(repeat' ((try refine aw ?_);(conv=>arg 4;whnf);first | refine az ?_ |(refine sN ?_;intro b)|(refine sC ?_ ?_<;>intro h)|(refine au ?_ ?_<;>intro h<;>try contradiction)|(refine aa ?_;intro g c')|(refine aA nB ?_;intro x hx;refine aH ?_)| refine ae ?_ | refine ai ?_ | exact ax |(refine aj rfl ?_;intro D lL)| refine af ?_ ?_ | refine ah ?_ ?_ ?_ | fail));(all_goals refine av ?_)
   exact aD () True.intro (by rw [←tP h hc];rfl) (am _)
 ·have e:lz x=0:=aZ.2 fun k hk=>hz k (by omega)
  (repeat' ((try refine aw ?_);(conv=>arg 4;whnf);first | refine az ?_ |(refine sN ?_;intro b)|(refine sC ?_ ?_<;>intro h)|(refine au ?_ ?_<;>intro h<;>try contradiction)|(refine aa ?_;intro g c')| refine ae ?_ | refine ai ?_ | exact ax |(refine aj rfl ?_;intro D lL)| refine af ?_ ?_ | refine ah ?_ ?_ ?_ | fail));(all_goals refine av ?_)
  exact aD () True.intro (by rw [e];rfl) (am _)
theorem Ec {x:E4}:Zp Tryz.prog 245 [vA (kO x), .func (.func 293) #[] #[]] [] [] Unit (fun _=>True) (fun _=>vI (mL x)) (fun _=> []) (fun _=> []):=by
 refine ak fun G=> ?_
 (repeat' ((try refine aw ?_);(conv=>arg 4;whnf);first | refine az ?_ |(refine sN ?_;intro b)|(refine sC ?_ ?_<;>intro h)|(refine au ?_ ?_<;>intro h<;>try contradiction)|(refine aa ?_;intro g c')| refine ae ?_ | refine ai ?_ | exact ax |(refine aj rfl ?_;intro D lL)| refine af ?_ ?_ | refine ah ?_ ?_ ?_ | fail));(all_goals refine av ?_)
 refine cN (X:=Nat) (fun i=> [(4,vI 0),(9,vI i)]) (fun i=>i≤4∧∀k,k<i→dK (x.get k)=0) (fun i=> []) (fun i=>4-i) 0 ⟨Nat.zero_le _,fun k h=>absurd h (Nat.not_lt_zero _)⟩ rfl (am _) ?_
 rintro i ⟨hi,hz⟩
 by_cases h:i<4
 ·by_cases hc:dK (x.l.getD i default)=0
  ·(repeat' ((try refine aw ?_);(conv=>arg 4;whnf);first | refine az ?_ |(refine sN ?_;intro b)|(refine sC ?_ ?_<;>intro h)|(refine au ?_ ?_<;>intro h<;>try contradiction)|(refine aa ?_;intro g c')|(refine aA Dy ?_;intro x hx;refine aH ?_)| refine ae ?_ | refine ai ?_ | exact ax |(refine aj rfl ?_;intro D lL)| refine af ?_ ?_ | refine ah ?_ ?_ ?_ | fail));(all_goals refine av ?_)
   refine a5 (i+1) rfl ⟨h,fun k hk=> ?_⟩ (am _) (by omega)
   rcases Nat.lt_succ_iff_lt_or_eq.1 hk with g | rfl
   ·exact hz k g
   ·exact hc
  ·(repeat' ((try refine aw ?_);(conv=>arg 4;whnf);first | refine az ?_ |(refine sN ?_;intro b)|(refine sC ?_ ?_<;>intro h)|(refine au ?_ ?_<;>intro h<;>try contradiction)|(refine aa ?_;intro g c')|(refine aA Dy ?_;intro x hx;refine aH ?_)| refine ae ?_ | refine ai ?_ | exact ax |(refine aj rfl ?_;intro D lL)| refine af ?_ ?_ | refine ah ?_ ?_ ?_ | fail));(all_goals refine av ?_)
   exact aD () True.intro (by rw [←ss h hc];rfl) (am _)
 ·have e:mL x=0:=aZ.2 fun k hk=>hz k (by omega)
  (repeat' ((try refine aw ?_);(conv=>arg 4;whnf);first | refine az ?_ |(refine sN ?_;intro b)|(refine sC ?_ ?_<;>intro h)|(refine au ?_ ?_<;>intro h<;>try contradiction)|(refine aa ?_;intro g c')| refine ae ?_ | refine ai ?_ | exact ax |(refine aj rfl ?_;intro D lL)| refine af ?_ ?_ | refine ah ?_ ?_ ?_ | fail));(all_goals refine av ?_)
  exact aD () True.intro (by rw [e];rfl) (am _)
theorem BV {x:Nod}:Zp Tryz.prog 239 [vA (aU x)] [] [] Unit (fun _=>True) (fun _=>vI (bA x)) (fun _=> []) (fun _=> []):=by
 refine ak fun G=> ?_
 by_cases h5:5<x.lv
 ·rw [show bA x=1 from if_pos h5]
  (repeat' ((try refine aw ?_);(conv=>arg 4;whnf);first | refine az ?_ |(refine sN ?_;intro b)|(refine sC ?_ ?_<;>intro h)|(refine au ?_ ?_<;>intro h<;>try contradiction)|(refine aa ?_;intro g c')| refine ae ?_ | refine ai ?_ | exact ax |(refine aj rfl ?_;intro D lL)| refine af ?_ ?_ | refine ah ?_ ?_ ?_ | fail));(all_goals refine av ?_)
 by_cases h0:x.lv=0
 ·by_cases hz:x.es=E4.zero
  ·rw [show bA x=lz x.rs by rw [bA,if_neg h5,if_pos h0,if_pos ((E4.eqb_iff _ _).2 hz)]]
   (repeat' ((try refine aw ?_);(conv=>arg 4;whnf);first | refine az ?_ |(refine sN ?_;intro b)|(refine sC ?_ ?_<;>intro h)|(refine au ?_ ?_<;>intro h<;>try contradiction)|(refine aa ?_;intro g c')|(refine aA EM ?_;intro x hx;refine aH ?_)| refine ae ?_ | refine ai ?_ | exact ax |(refine aj rfl ?_;intro D lL)| refine af ?_ ?_ | refine ah ?_ ?_ ?_ | fail));(all_goals refine av ?_)
  ·rw [show bA x=1 by rw [bA,if_neg h5,if_pos h0,if_neg (fun g=>hz ((E4.eqb_iff _ _).1 g))]]
   (repeat' ((try refine aw ?_);(conv=>arg 4;whnf);first | refine az ?_ |(refine sN ?_;intro b)|(refine sC ?_ ?_<;>intro h)|(refine au ?_ ?_<;>intro h<;>try contradiction)|(refine aa ?_;intro g c')|(refine aA EM ?_;intro x hx;refine aH ?_)| refine ae ?_ | refine ai ?_ | exact ax |(refine aj rfl ?_;intro D lL)| refine af ?_ ?_ | refine ah ?_ ?_ ?_ | fail));(all_goals refine av ?_)
 ·by_cases hz:x.rs=R4.zero
  ·rw [show bA x=mL x.es by rw [bA,if_neg h5,if_neg h0,if_pos ((R4.eqb_iff _ _).2 hz)]]
   (repeat' ((try refine aw ?_);(conv=>arg 4;whnf);first | refine az ?_ |(refine sN ?_;intro b)|(refine sC ?_ ?_<;>intro h)|(refine au ?_ ?_<;>intro h<;>try contradiction)|(refine aa ?_;intro g c')|(refine aA Ec ?_;intro x hx;refine aH ?_)| refine ae ?_ | refine ai ?_ | exact ax |(refine aj rfl ?_;intro D lL)| refine af ?_ ?_ | refine ah ?_ ?_ ?_ | fail));(all_goals refine av ?_)
  ·rw [show bA x=1 by rw [bA,if_neg h5,if_neg h0,if_neg (fun g=>hz ((R4.eqb_iff _ _).1 g))]]
   (repeat' ((try refine aw ?_);(conv=>arg 4;whnf);first | refine az ?_ |(refine sN ?_;intro b)|(refine sC ?_ ?_<;>intro h)|(refine au ?_ ?_<;>intro h<;>try contradiction)|(refine aa ?_;intro g c')|(refine aA Ec ?_;intro x hx;refine aH ?_)| refine ae ?_ | refine ai ?_ | exact ax |(refine aj rfl ?_;intro D lL)| refine af ?_ ?_ | refine ah ?_ ?_ ?_ | fail));(all_goals refine av ?_)
theorem pJ {x:Nod}:Zp Tryz.prog 325 [vA (aU x)] [] [] Unit (fun _=>True) (fun _=>vI (usd x 4)) (fun _=> []) (fun _=> []):=by
 refine ak fun G=> ?_
 (repeat' ((try refine aw ?_);(conv=>arg 4;whnf);first | refine az ?_ |(refine sN ?_;intro b)|(refine sC ?_ ?_<;>intro h)|(refine au ?_ ?_<;>intro h<;>try contradiction)|(refine aa ?_;intro g c')| refine ae ?_ | refine ai ?_ | exact ax |(refine aj rfl ?_;intro D lL)| refine af ?_ ?_ | refine ah ?_ ?_ ?_ | fail));(all_goals refine av ?_)
 refine cN (X:=Nat) (fun i=> [(3,vI (usd x i)),(5,vI i)]) (fun i=>i≤4) (fun i=> [iB b (aU x) 217]) (fun i=>4-i) 0 (Nat.zero_le _) rfl ?_ ?_
 ·((repeat' (first | with_reducible exact ar _ | exact am _ | refine aE ?_ ?_ | refine aG inferInstance ?_))<;>(try with_reducible rfl))
 intro i hi
 have hu:=pA x i
 by_cases h:i<4
 ·by_cases h0:x.lv=0
  ·by_cases hs:(x.rs.l.getD i default).st=0
   ·have e:usd x (i+1)=usd x i:=by rw [usd,if_pos h0,if_pos (show (x.rs.get i).st=0 from hs)];rfl
    (repeat' ((try refine aw ?_);(conv=>arg 4;whnf);first | refine az ?_ |(refine sN ?_;intro b)|(refine sC ?_ ?_<;>intro h)|(refine au ?_ ?_<;>intro h<;>try contradiction)|(refine aa ?_;intro g c')| refine ae ?_ | refine ai ?_ | exact ax |(refine aj rfl ?_;intro D lL)| refine af ?_ ?_ | refine ah ?_ ?_ ?_ | fail));(all_goals refine av ?_)
    exact a5 (i+1) (by rw [e];rfl) (by omega) (by ((repeat' (first | with_reducible exact ar _ | exact am _ | refine aE ?_ ?_ | refine aG inferInstance ?_))<;>(try with_reducible rfl))) (by omega)
   ·have e:usd x (i+1)=usd x i+1:=by rw [usd,if_pos h0,if_neg (show ¬(x.rs.get i).st=0 from hs)]
    (repeat' ((try refine aw ?_);(conv=>arg 4;whnf);first | refine az ?_ |(refine sN ?_;intro b)|(refine sC ?_ ?_<;>intro h)|(refine au ?_ ?_<;>intro h<;>try contradiction)|(refine aa ?_;intro g c')| refine ae ?_ | refine ai ?_ | exact ax |(refine aj rfl ?_;intro D lL)| refine af ?_ ?_ | refine ah ?_ ?_ ?_ | fail));(all_goals refine av ?_)
    exact a5 (i+1) (by rw [e];rfl) (by omega) (by ((repeat' (first | with_reducible exact ar _ | exact am _ | refine aE ?_ ?_ | refine aG inferInstance ?_))<;>(try with_reducible rfl))) (by omega)
  ·by_cases hs:(x.es.l.getD i default).st=0
   ·have e:usd x (i+1)=usd x i:=by rw [usd,if_neg h0,if_pos (show (x.es.get i).st=0 from hs)];rfl
    (repeat' ((try refine aw ?_);(conv=>arg 4;whnf);first | refine az ?_ |(refine sN ?_;intro b)|(refine sC ?_ ?_<;>intro h)|(refine au ?_ ?_<;>intro h<;>try contradiction)|(refine aa ?_;intro g c')| refine ae ?_ | refine ai ?_ | exact ax |(refine aj rfl ?_;intro D lL)| refine af ?_ ?_ | refine ah ?_ ?_ ?_ | fail));(all_goals refine av ?_)
    exact a5 (i+1) (by rw [e];rfl) (by omega) (by ((repeat' (first | with_reducible exact ar _ | exact am _ | refine aE ?_ ?_ | refine aG inferInstance ?_))<;>(try with_reducible rfl))) (by omega)
   ·have e:usd x (i+1)=usd x i+1:=by rw [usd,if_neg h0,if_neg (show ¬(x.es.get i).st=0 from hs)]
    (repeat' ((try refine aw ?_);(conv=>arg 4;whnf);first | refine az ?_ |(refine sN ?_;intro b)|(refine sC ?_ ?_<;>intro h)|(refine au ?_ ?_<;>intro h<;>try contradiction)|(refine aa ?_;intro g c')| refine ae ?_ | refine ai ?_ | exact ax |(refine aj rfl ?_;intro D lL)| refine af ?_ ?_ | refine ah ?_ ?_ ?_ | fail));(all_goals refine av ?_)
    exact a5 (i+1) (by rw [e];rfl) (by omega) (by ((repeat' (first | with_reducible exact ar _ | exact am _ | refine aE ?_ ?_ | refine aG inferInstance ?_))<;>(try with_reducible rfl))) (by omega)
 ·obtain rfl:i=4:=by omega
  (repeat' ((try refine aw ?_);(conv=>arg 4;whnf);first | refine az ?_ |(refine sN ?_;intro b)|(refine sC ?_ ?_<;>intro h)|(refine au ?_ ?_<;>intro h<;>try contradiction)|(refine aa ?_;intro g c')| refine ae ?_ | refine ai ?_ | exact ax |(refine aj rfl ?_;intro D lL)| refine af ?_ ?_ | refine ah ?_ ?_ ?_ | fail));(all_goals refine av ?_)
end Go.Proofs.YtbobhnldhpjdlaaGreatDoor
namespace Go.Proofs.YtbobhnldhpjdlaaGreatDoor
open Go Go.RowKit Go.Cs Go.Cz
set_option maxRecDepth 100000
set_option maxHeartbeats 1000000
theorem wZ {lv ix:Nat} (h1:lv<256) (h2:ix<4294967296):Zp Tryz.prog 139 [.int .u8 ((lv:Nat):Int), .int .u32 ((ix:Nat):Int)] [] [] Unit (fun _=>True) (fun _=>vA (aU (Nod.mt lv ix))) (fun _=> []) (fun _=> []):=by
  refine ak fun G=> ?_
  have i1:Nu 256 ((lv:Nat):Int) lv:=⟨rfl,h1⟩
  have i2:Nu 4294967296 ((ix:Nat):Int) ix:=⟨rfl,h2⟩
  (repeat' ((try refine aw ?_);(conv=>arg 4;whnf);first | refine az ?_ |(refine sN ?_;intro b)|(refine sC ?_ ?_<;>intro h)|(refine au ?_ ?_<;>intro h<;>try contradiction)|(refine aa ?_;intro g c')| refine ae ?_ | refine ai ?_ | exact ax |(refine aj rfl ?_;intro D lL)| refine af ?_ ?_ | refine ah ?_ ?_ ?_ | fail));(all_goals refine av ?_)
  exact aD () True.intro (by rw [←Nod.mt_eq h1 h2];rfl) (am _)
def kX (y:Nod) (i:Nat):List UInt8:=iZ y++fV ga y.rs.get i++List.replicate (180-45*i) 0
def kN (y:Nod) (i:Nat):List UInt8:=iZ y++fV gP y.es.get i++List.replicate (132-33*i) 0
theorem jk (y:Nod):(iZ y).length=5:=by simp [iZ]
theorem rF (y:Nod) (n:Nat) (h:5≤n):spl (spl (List.replicate n (0:UInt8)) 0 [UInt8.ofNat y.lv]) (0+1) (be y.ix 4)=iZ y++List.replicate (n-5) 0:=by
  obtain ⟨m,rfl⟩:∃m,n=m+5:=⟨n-5,by omega⟩
  have h4:(be y.ix 4).length=4:=by simp
  simp only [spl,List.take_zero,List.nil_append,List.length_singleton,List.drop_replicate,Nat.zero_add,h4]
  rw [show List.take 1 ([UInt8.ofNat y.lv]++List.replicate (m+5-1) 0)= [UInt8.ofNat y.lv] from rfl,List.drop_append,List.drop_replicate]
  simp [iZ]
theorem Gd (y:Nod):kX y 0=iZ y++List.replicate 180 0:=by simp [kX,fV]
theorem GH (y:Nod):kN y 0=iZ y++List.replicate 132 0:=by simp [kN,fV]
theorem zA (y:Nod) {i:Nat} (h:i≤4):(kX y i).length=185:=by simp [kX,jk,dU fe];omega
theorem yX (y:Nod) {i:Nat} (h:i≤4):(kN y i).length=137:=by simp [kN,jk,dU eZ];omega
theorem FI (y:Nod) (h:y.lv=0):kX y 4=aM y:=by simp [kX,aM,h]
theorem GU (y:Nod) (h:y.lv≠0):kN y 4=aM y:=by simp [kN,aM,h]
theorem yK (y:Nod) {i:Nat} (h:i<4):spl (kX y i) (5+45*i) (ga (y.rs.l.getD i default))=kX y (i+1):=by
  have h1:(iZ y++fV ga y.rs.get i).length=5+45*i:=by simp [jk,dU fe];omega
  have h2:(ga (y.rs.l.getD i default)).length=45:=fe _
  rw [spl,kX,List.take_left' h1,List.drop_append,List.drop_eq_nil_of_le (by rw [h1,h2];omega),List.nil_append,h1,h2,List.drop_replicate,kX,fV]
  rw [show 180-45*i-(5+45*i+45-(5+45*i))=180-45*(i+1) by omega]
  simp only [List.append_assoc];rfl
theorem yo (y:Nod) {i:Nat} (h:i<4):spl (kN y i) (5+33*i) (gP (y.es.l.getD i default))=kN y (i+1):=by
  have h1:(iZ y++fV gP y.es.get i).length=5+33*i:=by simp [jk,dU eZ];omega
  have h2:(gP (y.es.l.getD i default)).length=33:=eZ _
  rw [spl,kN,List.take_left' h1,List.drop_append,List.drop_eq_nil_of_le (by rw [h1,h2];omega),List.nil_append,h1,h2,List.drop_replicate,kN,fV]
  rw [show 132-33*i-(5+33*i+33-(5+33*i))=132-33*(i+1) by omega]
  simp only [List.append_assoc];rfl
theorem CE {y:Nod} {q:Value×Value} (h:bA y=0) (h0:y.lv=0):Zp Tryz.prog 181 [vA (aU y)] [] [Gs q] Nat (fun _=>True) (fun b=> .tuple #[.slice (some ⟨b,0,none⟩) (dx y) (dx y),vI 0]) (fun b=> [iB b (bE (aM y)) 5]) (fun _=> []):=by
  refine ak fun G=> ?_
  have hck:=BV (x:=y)
  rw [h] at hck
  have hlv:=gG h
  have hkd:=po y.hlv
  have hix:y.ix<4294967296:=y.hix
  have g0:([45,33]:List Nat).getD 0 default=45:=rfl
  have g1:([45,33]:List Nat).getD 1 default=33:=rfl
  have hR:∀i,i<4→bS (y.rs.l.getD i default)=0:=fun i hi=>aZ.1 (gA h h0) i hi
  have hb0:List.flatMap cB (spl (spl (List.replicate (5+4* [45,33].getD 0 default) 0) 0 [UInt8.ofNat y.lv]) (0+1) (be y.ix 4))=bE (kX y 0):=by rw [Gd,bL,rF _ _ (by decide)];rfl
  rw [show min y.lv 1=0 by omega] at hkd
  (repeat' ((try refine aw ?_);(conv=>arg 4;whnf);first | refine aO ?_ |(refine sN ?_;intro b)|(refine sC ?_ ?_<;>intro h)|(refine au ?_ ?_<;>intro h<;>try contradiction)|(refine aa ?_;intro g c')|((first | refine aA hck ?_ | refine aA hkd ?_ | refine aA (jI (v:=y.ix) hix) ?_);intro x hx;refine aH ?_)| refine ae ?_ | refine ai ?_ | exact ax |(refine aj rfl ?_;intro D lL)| refine af ?_ ?_ | refine ah ?_ ?_ ?_ | fail));(all_goals refine av ?_)
  rename_i mb cb
  refine dH [mb] rfl ?_
  (repeat' ((try refine aw ?_);(conv=>arg 4;whnf);first | refine aO ?_ |(refine sN ?_;intro b)|(refine sC ?_ ?_<;>intro h)|(refine au ?_ ?_<;>intro h<;>try contradiction)|(refine aa ?_;intro g c')|(refine aA (jI (v:=y.ix) hix) ?_;intro x hx;refine aH ?_)| refine ae ?_ | refine ai ?_ | exact ax |(refine aj rfl ?_;intro D lL)| refine af ?_ ?_ | refine ah ?_ ?_ ?_ | fail));(all_goals refine av ?_)
  all_goals rw [hb0]
  all_goals refine dh [cb,mb] (X:=Nat) (fun i=> [(4,vI 0),(9,vI i)]) (fun i=>i≤4) (fun i=> [iB cb [.slice (some ⟨mb,0,none⟩) (5+45*i) 185] 55,iB mb (bE (kX y i)) 5]) (fun i=>4-i) 0 (Nat.zero_le _) rfl (by (((repeat' (first | with_reducible exact ar _ | exact am _ | refine aE ?_ ?_ | refine aG inferInstance ?_ | refine aX ?_))<;>(try with_reducible rfl)))<;>rfl) ?_
  all_goals (intro i hi
             (conv=>arg 2;simp only [List.cons_append,List.nil_append])
             have hbl:=zA y hi
             by_cases h:i<4
             · have hc:=hR i h
               have hrl:=fe (y.rs.l.getD i default)
               have hst:5+45*(i+1)=5+45*i+45:=by omega
               (repeat' ((try refine aw ?_);(conv=>arg 4;whnf);first | refine aO ?_ |(refine sN ?_;intro b)|(refine sC ?_ ?_<;>intro h)|(refine au ?_ ?_<;>intro h<;>try contradiction)|(refine aa ?_;intro g c')|(refine aA (BU hc) ?_;intro x hx;refine aH ?_)| refine ae ?_ | refine ai ?_ | exact ax |(refine aj rfl ?_;intro D lL)| refine af ?_ ?_ | refine ah ?_ ?_ ?_ | fail));(all_goals refine av ?_)
               refine dH [mb,cb] rfl ?_
               (repeat' ((try refine aw ?_);(conv=>arg 4;whnf);first | refine az ?_ |(refine sN ?_;intro b)|(refine sC ?_ ?_<;>intro h)|(refine au ?_ ?_<;>intro h<;>try contradiction)|(refine aa ?_;intro g c')|(refine aA (BU hc) ?_;intro x hx;refine aH ?_)| refine ae ?_ | refine ai ?_ | exact ax |(refine aj rfl ?_;intro D lL)| refine af ?_ ?_ | refine ah ?_ ?_ ?_ | fail));(all_goals refine av ?_)
               all_goals refine a5 (i+1) rfl (by omega) ?_ (by omega)
               all_goals rw [hst,←yK y h]
               all_goals ((repeat' (first | with_reducible exact ar _ | exact am _ | refine aE ?_ ?_ | refine aG inferInstance ?_ | refine aX ?_))<;>(try with_reducible rfl))
             · obtain rfl:i=4:=by omega
               rw [FI y h0]
               (repeat' ((try refine aw ?_);(conv=>arg 4;whnf);first | refine az ?_ |(refine sN ?_;intro b)|(refine sC ?_ ?_<;>intro h)|(refine au ?_ ?_<;>intro h<;>try contradiction)|(refine aa ?_;intro g c')| refine ae ?_ | refine ai ?_ | exact ax |(refine aj rfl ?_;intro D lL)| refine af ?_ ?_ | refine ah ?_ ?_ ?_ | fail));(all_goals refine av ?_)
               refine aD mb True.intro ?_ ?_
               · rw [dx];first |(rw [if_pos h0];rfl)|(rw [if_neg h0];rfl)
               · ((repeat' (first | with_reducible exact ar _ | exact am _ | refine aE ?_ ?_ | refine aG inferInstance ?_ | refine aX ?_))<;>(try with_reducible rfl)))
theorem DD {y:Nod} {q:Value×Value} (h:bA y=0) (h0:¬y.lv=0):Zp Tryz.prog 181 [vA (aU y)] [] [Gs q] Nat (fun _=>True) (fun b=> .tuple #[.slice (some ⟨b,0,none⟩) (dx y) (dx y),vI 0]) (fun b=> [iB b (bE (aM y)) 5]) (fun _=> []):=by
  refine ak fun G=> ?_
  have hck:=BV (x:=y)
  rw [h] at hck
  have hlv:=gG h
  have hkd:=po y.hlv
  have hix:y.ix<4294967296:=y.hix
  have g0:([45,33]:List Nat).getD 0 default=45:=rfl
  have g1:([45,33]:List Nat).getD 1 default=33:=rfl
  have hE:∀i,i<4→dK (y.es.l.getD i default)=0:=fun i hi=>aZ.1 (jy h h0) i hi
  have hb0:List.flatMap cB (spl (spl (List.replicate (5+4*33) 0) 0 [UInt8.ofNat y.lv]) (0+1) (be y.ix 4))=bE (kN y 0):=by rw [GH,bL,rF _ _ (by decide)]
  rw [show min y.lv 1=1 by omega] at hkd
  (repeat' ((try refine aw ?_);(conv=>arg 4;whnf);first | refine aO ?_ |(refine sN ?_;intro b)|(refine sC ?_ ?_<;>intro h)|(refine au ?_ ?_<;>intro h<;>try contradiction)|(refine aa ?_;intro g c')|((first | refine aA hck ?_ | refine aA hkd ?_ | refine aA (jI (v:=y.ix) hix) ?_);intro x hx;refine aH ?_)| refine ae ?_ | refine ai ?_ | exact ax |(refine aj rfl ?_;intro D lL)| refine af ?_ ?_ | refine ah ?_ ?_ ?_ | fail));(all_goals refine av ?_)
  rename_i mb cb
  refine dH [mb] rfl ?_
  (repeat' ((try refine aw ?_);(conv=>arg 4;whnf);first | refine aO ?_ |(refine sN ?_;intro b)|(refine sC ?_ ?_<;>intro h)|(refine au ?_ ?_<;>intro h<;>try contradiction)|(refine aa ?_;intro g c')|(refine aA (jI (v:=y.ix) hix) ?_;intro x hx;refine aH ?_)| refine ae ?_ | refine ai ?_ | exact ax |(refine aj rfl ?_;intro D lL)| refine af ?_ ?_ | refine ah ?_ ?_ ?_ | fail));(all_goals refine av ?_)
  all_goals rw [hb0]
  all_goals refine dh [cb,mb] (X:=Nat) (fun i=> [(4,vI 0),(9,vI i)]) (fun i=>i≤4) (fun i=> [iB cb [.slice (some ⟨mb,0,none⟩) (5+33*i) 137] 55,iB mb (bE (kN y i)) 5]) (fun i=>4-i) 0 (Nat.zero_le _) rfl (by (((repeat' (first | with_reducible exact ar _ | exact am _ | refine aE ?_ ?_ | refine aG inferInstance ?_ | refine aX ?_))<;>(try with_reducible rfl)))<;>rfl) ?_
  all_goals (intro i hi
             (conv=>arg 2;simp only [List.cons_append,List.nil_append])
             have hbl:=yX y hi
             by_cases h:i<4
             · have hc:=hE i h
               have hrl:=eZ (y.es.l.getD i default)
               have hst:5+33*(i+1)=5+33*i+33:=by omega
               (repeat' ((try refine aw ?_);(conv=>arg 4;whnf);first | refine aO ?_ |(refine sN ?_;intro b)|(refine sC ?_ ?_<;>intro h)|(refine au ?_ ?_<;>intro h<;>try contradiction)|(refine aa ?_;intro g c')|(refine aA (AN hc) ?_;intro x hx;refine aH ?_)| refine ae ?_ | refine ai ?_ | exact ax |(refine aj rfl ?_;intro D lL)| refine af ?_ ?_ | refine ah ?_ ?_ ?_ | fail));(all_goals refine av ?_)
               refine dH [mb,cb] rfl ?_
               (repeat' ((try refine aw ?_);(conv=>arg 4;whnf);first | refine az ?_ |(refine sN ?_;intro b)|(refine sC ?_ ?_<;>intro h)|(refine au ?_ ?_<;>intro h<;>try contradiction)|(refine aa ?_;intro g c')|(refine aA (AN hc) ?_;intro x hx;refine aH ?_)| refine ae ?_ | refine ai ?_ | exact ax |(refine aj rfl ?_;intro D lL)| refine af ?_ ?_ | refine ah ?_ ?_ ?_ | fail));(all_goals refine av ?_)
               all_goals refine a5 (i+1) rfl (by omega) ?_ (by omega)
               all_goals rw [hst,←yo y h]
               all_goals ((repeat' (first | with_reducible exact ar _ | exact am _ | refine aE ?_ ?_ | refine aG inferInstance ?_ | refine aX ?_))<;>(try with_reducible rfl))
             · obtain rfl:i=4:=by omega
               rw [GU y h0]
               (repeat' ((try refine aw ?_);(conv=>arg 4;whnf);first | refine az ?_ |(refine sN ?_;intro b)|(refine sC ?_ ?_<;>intro h)|(refine au ?_ ?_<;>intro h<;>try contradiction)|(refine aa ?_;intro g c')| refine ae ?_ | refine ai ?_ | exact ax |(refine aj rfl ?_;intro D lL)| refine af ?_ ?_ | refine ah ?_ ?_ ?_ | fail));(all_goals refine av ?_)
               refine aD mb True.intro ?_ ?_
               · rw [dx];first |(rw [if_pos h0];rfl)|(rw [if_neg h0];rfl)
               · ((repeat' (first | with_reducible exact ar _ | exact am _ | refine aE ?_ ?_ | refine aG inferInstance ?_ | refine aX ?_))<;>(try with_reducible rfl)))
theorem oE {y:Nod} {q:Value×Value} (h:bA y=0):Zp Tryz.prog 181 [vA (aU y)] [] [Gs q] Nat (fun _=>True) (fun b=> .tuple #[.slice (some ⟨b,0,none⟩) (dx y) (dx y),vI 0]) (fun b=> [iB b (bE (aM y)) 5]) (fun _=> []):=by
  by_cases h0:y.lv=0
  · exact CE h h0
  · exact DD h h0
end Go.Proofs.YtbobhnldhpjdlaaGreatDoor
