/- Lemmas and walks: what each function does, by its own code. No condition beyond those of each statement. -/
import Derived.Test.YtbobhnldhpjdlaaGreatDoorP14
import Derived.Test.YtbobhnldhpjdlaaGreatDoorP23
set_option linter.all false
set_option linter.unusedVariables false
namespace Go.Proofs.YtbobhnldhpjdlaaGreatDoor
open Go Go.RowKit Go.Cs Go.Cz
set_option maxRecDepth 100000
set_option maxHeartbeats 1000000
theorem JY {sch:List B16} {y:B16} (hs:sch.length=11):Zp Tryz.prog 302 [vA (sch.flatMap dE),vA (dE y)] [] [] Unit (fun _=>True) (fun _=>vA (dE (xQ sch y))) (fun _=> []) (fun _=> []):=by
 refine ak fun G=> ?_
 (repeat' ((try refine aw ?_);(conv=>arg 4;whnf);first | refine az ?_ |(refine sN ?_;intro b)|(refine sC ?_ ?_<;>intro h)|(refine au ?_ ?_<;>intro h<;>try contradiction)|(refine aa ?_;intro g c')|(refine da (zE y.h) ?_;intro x hx;refine bV ?_)| refine ae ?_ | refine ai ?_ | exact ax |(refine aj rfl ?_;intro D lL)| refine af ?_ ?_ | refine ah ?_ ?_ ?_ | fail));(all_goals refine av ?_)
 rename_i sb xb ob
 refine cN (X:=Nat) (fun k=> [(10,vI (k+1))]) (fun k=>k≤10) (fun k=> [iB b (bE (nr sch y k).l) 531,iB ob (dE B16.zero) 31,iB xb (dE y) 31,iB sb (sch.flatMap dE) 504]) (fun k=>10-k) 0 (Nat.zero_le _) rfl ?_ ?_
 ·((repeat' (first | with_reducible exact ar _ | exact am _ | refine aE ?_ ?_ | refine aG inferInstance ?_))<;>(try with_reducible rfl))
  all_goals rfl
 intro k hk
 have hl:=(nr sch y k).h
 by_cases h:k<10
 ·have h1:(kr fU (nr sch y k).l).length=16:=by simp [kr]
  have h2:(kq 1 (kr fU (nr sch y k).l)).length=16:=by simp [kq]
  by_cases h9:k+1<10
  ·have h3:(kW [2,3,1,1] (kq 1 (kr fU (nr sch y k).l))).length=16:=by simp [kW]
   (repeat' ((try refine aw ?_);(conv=>arg 4;whnf);first | refine az ?_ |(refine sN ?_;intro b)|(refine sC ?_ ?_<;>intro h)|(refine au ?_ ?_<;>intro h<;>try contradiction)|(refine aa ?_;intro g c')|((first | refine da (E1 hl) ?_ | refine da (EZ h1) ?_);intro x hx;refine bV ?_)| refine ae ?_ | refine ai ?_ | exact ax |(refine aj rfl ?_;intro D lL)| refine af ?_ ?_ | refine ah ?_ ?_ ?_ | fail));(all_goals refine av ?_)
   refine nF (Ls (a:=2) (b:=3) (c:=1) (d:=1)) ?_
   (repeat' ((try refine aw ?_);(conv=>arg 4;whnf);first | refine az ?_ |(refine sN ?_;intro b)|(refine sC ?_ ?_<;>intro h)|(refine au ?_ ?_<;>intro h<;>try contradiction)|(refine aa ?_;intro g c')|((first | refine da (HT (f:= [2,3,1,1]) h2 rfl) ?_ | refine da (zE h3) ?_);intro x hx;refine bV ?_)| refine ae ?_ | refine ai ?_ | exact ax |(refine aj rfl ?_;intro D lL)| refine af ?_ ?_ | refine ah ?_ ?_ ?_ | fail));(all_goals refine av ?_)
   refine a5 (k+1) rfl (by omega) ?_ (by omega)
   rw [nr,if_pos h9];((repeat' (first | with_reducible exact ar _ | exact am _ | refine aE ?_ ?_ | refine aG inferInstance ?_))<;>(try with_reducible rfl))
   all_goals rfl
  ·(repeat' ((try refine aw ?_);(conv=>arg 4;whnf);first | refine az ?_ |(refine sN ?_;intro b)|(refine sC ?_ ?_<;>intro h)|(refine au ?_ ?_<;>intro h<;>try contradiction)|(refine aa ?_;intro g c')|((first | refine da (E1 hl) ?_ | refine da (EZ h1) ?_ | refine da (zE h2) ?_);intro x hx;refine bV ?_)| refine ae ?_ | refine ai ?_ | exact ax |(refine aj rfl ?_;intro D lL)| refine af ?_ ?_ | refine ah ?_ ?_ ?_ | fail));(all_goals refine av ?_)
   refine a5 (k+1) rfl (by omega) ?_ (by omega)
   rw [nr,if_neg h9];((repeat' (first | with_reducible exact ar _ | exact am _ | refine aE ?_ ?_ | refine aG inferInstance ?_))<;>(try with_reducible rfl))
   all_goals rfl
 ·obtain rfl:k=10:=by omega
  (repeat' ((try refine aw ?_);(conv=>arg 4;whnf);first | refine az ?_ |(refine sN ?_;intro b)|(refine sC ?_ ?_<;>intro h)|(refine au ?_ ?_<;>intro h<;>try contradiction)|(refine aa ?_;intro g c')| refine ae ?_ | refine ai ?_ | exact ax |(refine aj rfl ?_;intro D lL)| refine af ?_ ?_ | refine ah ?_ ?_ ?_ | fail));(all_goals refine av ?_)
end Go.Proofs.YtbobhnldhpjdlaaGreatDoor
