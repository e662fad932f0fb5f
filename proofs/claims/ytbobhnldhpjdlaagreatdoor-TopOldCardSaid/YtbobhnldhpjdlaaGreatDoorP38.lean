/- Lemmas and walks: what each function does, by its own code. No condition beyond those of each statement. -/
import Derived.Test.YtbobhnldhpjdlaaGreatDoorP9
import Derived.Test.YtbobhnldhpjdlaaGreatDoorP18
set_option linter.all false
set_option linter.unusedVariables false
namespace Go.Proofs.YtbobhnldhpjdlaaGreatDoor
open Go Go.RowKit Go.Cs Go.Cz
set_option maxRecDepth 100000
set_option maxHeartbeats 2000000
theorem IU {a a2:Option Addr} {n c n2 c2:Nat} {l m:List UInt8} {q:Value×Value} (h:l.length≤64) (hb:m.length≤4096):Zp Tryz.prog 77 [.slice a n c, .slice a2 n2 c2] [] [Sl cB a n c l,Sl cB a2 n2 c2 m,Gs q] Unit (fun _=>True) (fun _=>vA (ay (ej l m))) (fun _=> []) (fun _=> []):=by
 refine ak fun G=> ?_
 have hb1: [m].flatten.length≤576460752303423488:=by simp;omega
 have e:ej l m=ej l [m].flatten:=by simp
 rw [e]
 (repeat' ((try refine aw ?_);(conv=>arg 4;whnf);first | refine az ?_ |(refine sN ?_;intro b)|(refine sC ?_ ?_<;>intro h)|(refine au ?_ ?_<;>intro h<;>try contradiction)|(refine aa ?_;intro g c')|(refine aA (qj (q:=q) (ls:= [m]) h hb1) ?_;intro x hx;refine aH ?_)| refine ae ?_ | refine ai ?_ | exact ax |(refine aj rfl ?_;intro D lL)| refine af ?_ ?_ | refine ah ?_ ?_ ?_ | fail));(all_goals refine av ?_)
theorem Ek {a a2:Option Addr} {n c n2 c2 k:Nat} {l m:List UInt8} {q:Value×Value} (h:l.length≤64) (hb:m.length≤4096) (h0:0<k) (h1:k≤32):Zp Tryz.prog 78 [.slice a n c, .slice a2 n2 c2,vI k] [] [Sl cB a n c l,Sl cB a2 n2 c2 m,Gs q] Nat (fun _=>True) (fun b=> .tuple #[.slice (some ⟨b,0,none⟩) k k,vI 0]) (fun b=> [iS cB b 0 k k ((ej l (m++ [1])).l.take k)]) (fun _=> []):=by
 refine ak fun G=> ?_
 have hb1: [[],m, [1]].flatten.length≤576460752303423488:=by simp;omega
 have e:ej l (m++ [1])=ej l [[],m, [1]].flatten:=by simp
 rw [e]
 (repeat' ((try refine aw ?_);(conv=>arg 4;whnf);first | refine az ?_ |(refine sN ?_;intro b)|(refine sC ?_ ?_<;>intro h)|(refine au ?_ ?_<;>intro h<;>try contradiction)|(refine aa ?_;intro g c')| refine ae ?_ | refine ai ?_ | exact ax |(refine aj rfl ?_;intro D lL)| refine af ?_ ?_ | refine ah ?_ ?_ ?_ | fail));(all_goals refine av ?_)
 refine gJ 1 (bN ?_)
 have hl: [([]:List UInt8),(ej l [[],m, [1]].flatten).l].flatten.length=32:=by simp
 (repeat' ((try refine aw ?_);(conv=>arg 4;whnf);first | refine az ?_ |(refine sN ?_;intro b)|(refine sC ?_ ?_<;>intro h)|(refine au ?_ ?_<;>intro h<;>try contradiction)|(refine aa ?_;intro g c')|((first | refine aA (qj (q:=q) (ls:= [[],m, [1]]) h hb1) ?_ | refine aA (i7 (ls:= [[],(ej l [[],m, [1]].flatten).l]) (by omega)) ?_);intro x hx;refine aH ?_)| refine ae ?_ | refine ai ?_ | exact ax |(refine aj rfl ?_;intro D lL)| refine af ?_ ?_ | refine ah ?_ ?_ ?_ | fail));(all_goals refine av ?_)
 refine aD x True.intro rfl (L4 (e:=5) (fun w h3=> ?_) (am _))
 rw [show [([]:List UInt8),(ej l [[],m, [1]].flatten).l].flatten=(ej l [[],m, [1]].flatten).l by simp,bL] at h3
 refine rk ?_ (by simp;omega) (Nat.le_refl _) (by omega)
 have h4:(ej l [[],m, [1]].flatten).l.flatMap cB=(((ej l [[],m, [1]].flatten).l.take k).flatMap cB)++(((ej l [[],m, [1]].flatten).l.drop k).flatMap cB):=by rw [←List.flatMap_append,List.take_append_drop]
 rw [h4] at h3
 exact At.sub h3 0 _ (by simp)
theorem Bw {m:Dig} {q:Value×Value}:Zp Tryz.prog 13 [vA (ay m)] [] [Gs q] Unit (fun _=>True) (fun _=>vA (bC (nv m))) (fun _=> []) (fun _=> []):=by
 refine ak fun G=> ?_
 (repeat' ((try refine aw ?_);(conv=>arg 4;whnf);first | refine az ?_ |(refine sN ?_;intro b)|(refine sC ?_ ?_<;>intro h)|(refine au ?_ ?_<;>intro h<;>try contradiction)|(refine aa ?_;intro g c')|((first | refine aA (IU (q:=q) (l:= [99,97,105,115,115,111,110]) (m:=m.l) (by decide) (by simp)) ?_ | refine aA (Ek (q:=q) (l:=(De m).l) (m:= [101,110,99,114,121,112,116]) (k:=16) (by simp) (by decide) (by decide) (by decide)) ?_ | refine aA (Ek (q:=q) (l:=(De m).l) (m:= [109,97,99]) (k:=32) (by simp) (by decide) (by decide) (by decide)) ?_);intro x hx;refine aH ?_)| refine ae ?_ | refine ai ?_ | exact ax |(refine aj rfl ?_;intro D lL)| refine af ?_ ?_ | refine ah ?_ ?_ ?_ | fail));(all_goals refine av ?_)
 rename_i _ kb _ _ _ _ _ _ _
 refine fL kb (bE (List.replicate 48 0)) rfl ?_
 (repeat' ((try refine aw ?_);(conv=>arg 4;whnf);first | refine az ?_ |(refine sN ?_;intro b)|(refine sC ?_ ?_<;>intro h)|(refine au ?_ ?_<;>intro h<;>try contradiction)|(refine aa ?_;intro g c')| refine ae ?_ | refine ai ?_ | exact ax |(refine aj rfl ?_;intro D lL)| refine af ?_ ?_ | refine ah ?_ ?_ ?_ | fail));(all_goals refine av ?_)
 trace_state
 all_goals split
end Go.Proofs.YtbobhnldhpjdlaaGreatDoor
