/- Lemmas and walks: what each function does, by its own code. No condition beyond those of each statement. -/
import Derived.Test.YtbobhnldhpjdlaaGreatDoorP12
import Derived.Test.YtbobhnldhpjdlaaGreatDoorP20
set_option linter.all false
set_option linter.unusedVariables false
namespace Go.Proofs.YtbobhnldhpjdlaaGreatDoor
open Go Go.RowKit Go.Cs Go.Cz
set_option maxRecDepth 100000
set_option maxHeartbeats 1000000
theorem Ju {sch:List B16} {y:B16} (hs:sch.length=11):Zp Tryz.prog 302 [vA (sch.flatMap fz),vA (fz y)] [] [] Unit (fun _=>True) (fun _=>vA (fz (ye sch y))) (fun _=> []) (fun _=> []):=by
 refine an fun G=> ?_
 (repeat' ((try refine au ?_);(conv=>arg 4;whnf);first | refine ax ?_ |(refine sN ?_;intro b)|(refine sC ?_ ?_<;>intro h)|(refine ar ?_ ?_<;>intro h<;>try contradiction)|(refine aa ?_;intro g c')|(refine dJ (yB y.h) ?_;intro x hx;refine c9 ?_)| refine ae ?_ | refine ai ?_ | exact aw |(refine ak rfl ?_;intro D lL)| refine ah ?_ ?_ | refine aj ?_ ?_ ?_ | fail));(all_goals refine av ?_)
 rename_i sb xb ob
 refine dC (X:=Nat) (fun k=> [(10,vI (k+1))]) (fun k=>k≤10) (fun k=> [iB b (b8 (nB sch y k).l) 531,iB ob (fz B16.zero) 31,iB xb (fz y) 31,iB sb (sch.flatMap fz) 504]) (fun k=>10-k) 0 (Nat.zero_le _) rfl ?_ ?_
 ·((repeat' (first | with_reducible exact am _ | exact af _ | refine aB ?_ ?_ | refine aD inferInstance ?_))<;>(try with_reducible rfl))
  all_goals rfl
 intro k hk
 have hl:=(nB sch y k).h
 by_cases h:k<10
 ·have h1:(j7 gA (nB sch y k).l).length=16:=by simp [j7]
  have h2:(kE 1 (j7 gA (nB sch y k).l)).length=16:=by simp [kE]
  by_cases h9:k+1<10
  ·have h3:(lw [2,3,1,1] (kE 1 (j7 gA (nB sch y k).l))).length=16:=by simp [lw]
   (repeat' ((try refine au ?_);(conv=>arg 4;whnf);first | refine ax ?_ |(refine sN ?_;intro b)|(refine sC ?_ ?_<;>intro h)|(refine ar ?_ ?_<;>intro h<;>try contradiction)|(refine aa ?_;intro g c')|((first | refine dJ (Eu hl) ?_ | refine dJ (EI h1) ?_);intro x hx;refine c9 ?_)| refine ae ?_ | refine ai ?_ | exact aw |(refine ak rfl ?_;intro D lL)| refine ah ?_ ?_ | refine aj ?_ ?_ ?_ | fail));(all_goals refine av ?_)
   refine nK (KL (a:=2) (b:=3) (c:=1) (d:=1)) ?_
   (repeat' ((try refine au ?_);(conv=>arg 4;whnf);first | refine ax ?_ |(refine sN ?_;intro b)|(refine sC ?_ ?_<;>intro h)|(refine ar ?_ ?_<;>intro h<;>try contradiction)|(refine aa ?_;intro g c')|((first | refine dJ (Hk (f:= [2,3,1,1]) h2 rfl) ?_ | refine dJ (yB h3) ?_);intro x hx;refine c9 ?_)| refine ae ?_ | refine ai ?_ | exact aw |(refine ak rfl ?_;intro D lL)| refine ah ?_ ?_ | refine aj ?_ ?_ ?_ | fail));(all_goals refine av ?_)
   refine bj (k+1) rfl (by omega) ?_ (by omega)
   rw [nB,if_pos h9];((repeat' (first | with_reducible exact am _ | exact af _ | refine aB ?_ ?_ | refine aD inferInstance ?_))<;>(try with_reducible rfl))
   all_goals rfl
  ·(repeat' ((try refine au ?_);(conv=>arg 4;whnf);first | refine ax ?_ |(refine sN ?_;intro b)|(refine sC ?_ ?_<;>intro h)|(refine ar ?_ ?_<;>intro h<;>try contradiction)|(refine aa ?_;intro g c')|((first | refine dJ (Eu hl) ?_ | refine dJ (EI h1) ?_ | refine dJ (yB h2) ?_);intro x hx;refine c9 ?_)| refine ae ?_ | refine ai ?_ | exact aw |(refine ak rfl ?_;intro D lL)| refine ah ?_ ?_ | refine aj ?_ ?_ ?_ | fail));(all_goals refine av ?_)
   refine bj (k+1) rfl (by omega) ?_ (by omega)
   rw [nB,if_neg h9];((repeat' (first | with_reducible exact am _ | exact af _ | refine aB ?_ ?_ | refine aD inferInstance ?_))<;>(try with_reducible rfl))
   all_goals rfl
 ·obtain rfl:k=10:=by omega
  (repeat' ((try refine au ?_);(conv=>arg 4;whnf);first | refine ax ?_ |(refine sN ?_;intro b)|(refine sC ?_ ?_<;>intro h)|(refine ar ?_ ?_<;>intro h<;>try contradiction)|(refine aa ?_;intro g c')| refine ae ?_ | refine ai ?_ | exact aw |(refine ak rfl ?_;intro D lL)| refine ah ?_ ?_ | refine aj ?_ ?_ ?_ | fail));(all_goals refine av ?_)
end Go.Proofs.YtbobhnldhpjdlaaGreatDoor
