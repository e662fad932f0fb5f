/- Lemmas and walks: what each function does, by its own code. No condition beyond those of each statement. -/
import Derived.Test.YtbobhnldhpjdlaaGreatDoorP10
import Derived.Test.YtbobhnldhpjdlaaGreatDoorP13
set_option linter.all false
set_option linter.unusedVariables false
namespace Go.Proofs.YtbobhnldhpjdlaaGreatDoor
open Go Go.RowKit Go.Cs Go.Cz
set_option maxRecDepth 100000
set_option maxHeartbeats 2000000
theorem Il {a a2:Option Addr} {n c n2 c2:Nat} {l m:List UInt8} {q:Value×Value} (h:l.length≤64) (hb:m.length≤4096):Zp Tryz.prog 77 [.slice a n c, .slice a2 n2 c2] [] [Sl cB a n c l,Sl cB a2 n2 c2 m,Gs q] Unit (fun _=>True) (fun _=>vA (aE (fg l m))) (fun _=> []) (fun _=> []):=by
 refine an fun G=> ?_
 have hb1: [m].flatten.length≤576460752303423488:=by simp;omega
 have e:fg l m=fg l [m].flatten:=by simp
 rw [e]
 (repeat' ((try refine au ?_);(conv=>arg 4;whnf);first | refine ax ?_ |(refine sN ?_;intro b)|(refine sC ?_ ?_<;>intro h)|(refine ar ?_ ?_<;>intro h<;>try contradiction)|(refine aa ?_;intro g c')|(refine ay (ra (q:=q) (ls:= [m]) h hb1) ?_;intro x hx;refine aN ?_)| refine ae ?_ | refine ai ?_ | exact aw |(refine ak rfl ?_;intro D lL)| refine ah ?_ ?_ | refine aj ?_ ?_ ?_ | fail));(all_goals refine av ?_)
theorem DZ {a a2:Option Addr} {n c n2 c2 k:Nat} {l m:List UInt8} {q:Value×Value} (h:l.length≤64) (hb:m.length≤4096) (h0:0<k) (h1:k≤32):Zp Tryz.prog 78 [.slice a n c, .slice a2 n2 c2,vI k] [] [Sl cB a n c l,Sl cB a2 n2 c2 m,Gs q] Nat (fun _=>True) (fun b=> .tuple #[.slice (some ⟨b,0,none⟩) k k,vI 0]) (fun b=> [iS cB b 0 k k ((fg l (m++ [1])).l.take k)]) (fun _=> []):=by
 refine an fun G=> ?_
 have hb1: [[],m, [1]].flatten.length≤576460752303423488:=by simp;omega
 have e:fg l (m++ [1])=fg l [[],m, [1]].flatten:=by simp
 rw [e]
 (repeat' ((try refine au ?_);(conv=>arg 4;whnf);first | refine ax ?_ |(refine sN ?_;intro b)|(refine sC ?_ ?_<;>intro h)|(refine ar ?_ ?_<;>intro h<;>try contradiction)|(refine aa ?_;intro g c')| refine ae ?_ | refine ai ?_ | exact aw |(refine ak rfl ?_;intro D lL)| refine ah ?_ ?_ | refine aj ?_ ?_ ?_ | fail));(all_goals refine av ?_)
 refine ji 1 (cM ?_)
 have hl: [([]:List UInt8),(fg l [[],m, [1]].flatten).l].flatten.length=32:=by simp
 (repeat' ((try refine au ?_);(conv=>arg 4;whnf);first | refine ax ?_ |(refine sN ?_;intro b)|(refine sC ?_ ?_<;>intro h)|(refine ar ?_ ?_<;>intro h<;>try contradiction)|(refine aa ?_;intro g c')|((first | refine ay (ra (q:=q) (ls:= [[],m, [1]]) h hb1) ?_ | refine ay (jx (ls:= [[],(fg l [[],m, [1]].flatten).l]) (by omega)) ?_);intro x hx;refine aN ?_)| refine ae ?_ | refine ai ?_ | exact aw |(refine ak rfl ?_;intro D lL)| refine ah ?_ ?_ | refine aj ?_ ?_ ?_ | fail));(all_goals refine av ?_)
 refine aG x True.intro rfl (Li (e:=5) (fun w h3=> ?_) (af _))
 rw [show [([]:List UInt8),(fg l [[],m, [1]].flatten).l].flatten=(fg l [[],m, [1]].flatten).l by simp,cu] at h3
 refine r4 ?_ (by simp;omega) (Nat.le_refl _) (by omega)
 have h4:(fg l [[],m, [1]].flatten).l.flatMap cB=(((fg l [[],m, [1]].flatten).l.take k).flatMap cB)++(((fg l [[],m, [1]].flatten).l.drop k).flatMap cB):=by rw [←List.flatMap_append,List.take_append_drop]
 rw [h4] at h3
 exact At.sub h3 0 _ (by simp)
theorem z6 {m:Dig} {q:Value×Value}:Zp Tryz.prog 13 [vA (aE m)] [] [Gs q] Unit (fun _=>True) (fun _=>vA (cf (jk m))) (fun _=> []) (fun _=> []):=by
 refine an fun G=> ?_
 (repeat' ((try refine au ?_);(conv=>arg 4;whnf);first | refine ax ?_ |(refine sN ?_;intro b)|(refine sC ?_ ?_<;>intro h)|(refine ar ?_ ?_<;>intro h<;>try contradiction)|(refine aa ?_;intro g c')|((first | refine ay (Il (q:=q) (l:= [99,97,105,115,115,111,110]) (m:=m.l) (by decide) (by simp)) ?_ | refine ay (DZ (q:=q) (l:=(DB m).l) (m:= [101,110,99,114,121,112,116]) (k:=16) (by simp) (by decide) (by decide) (by decide)) ?_ | refine ay (DZ (q:=q) (l:=(DB m).l) (m:= [109,97,99]) (k:=32) (by simp) (by decide) (by decide) (by decide)) ?_);intro x hx;refine aN ?_)| refine ae ?_ | refine ai ?_ | exact aw |(refine ak rfl ?_;intro D lL)| refine ah ?_ ?_ | refine aj ?_ ?_ ?_ | fail));(all_goals refine av ?_)
 rename_i _ kb _ _ _ _ _ _ _
 refine eV kb (b8 (List.replicate 48 0)) rfl ?_
 (repeat' ((try refine au ?_);(conv=>arg 4;whnf);first | refine ax ?_ |(refine sN ?_;intro b)|(refine sC ?_ ?_<;>intro h)|(refine ar ?_ ?_<;>intro h<;>try contradiction)|(refine aa ?_;intro g c')| refine ae ?_ | refine ai ?_ | exact aw |(refine ak rfl ?_;intro D lL)| refine ah ?_ ?_ | refine aj ?_ ?_ ?_ | fail));(all_goals refine av ?_)
 trace_state
 all_goals split
end Go.Proofs.YtbobhnldhpjdlaaGreatDoor
