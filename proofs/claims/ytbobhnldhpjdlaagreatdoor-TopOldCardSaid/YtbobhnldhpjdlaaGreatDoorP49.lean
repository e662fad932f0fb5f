/- Lemmas and walks: what each function does, by its own code. No condition beyond those of each statement. -/
import Derived.Test.YtbobhnldhpjdlaaGreatDoorP17
import Derived.Test.YtbobhnldhpjdlaaGreatDoorP48
set_option linter.all false
set_option linter.unusedVariables false
namespace Go.Proofs.YtbobhnldhpjdlaaGreatDoor
open Go Go.RowKit Go.Cs Go.Cz
set_option maxRecDepth 100000
set_option maxHeartbeats 4000000
def VOp (n:Nat) (o:SOpn) (y:List UInt8):Prop:=(o.Kind=1∧∃j,j<n∧o.Index=(j:Int))∨(o.Kind=2∧(∃j,j<n∧o.Index=(j:Int))∧o.Data.2.1=32∧y.length=32)∨o.Kind=3∨Bdo n o.Kind o.Index o.Data.2.1
theorem AH {w:World}:Sl cB none 0 0 [] w:=⟨rfl,rfl,rfl,rfl⟩
theorem JV {n:Nat} {z0 z1 z2:UInt8} (h1:0<n) (h2:n≤4096):Zp Tryz.prog 207 [vI n,vA [.int .u8 (z0.toNat:Int), .int .u8 (z1.toNat:Int), .int .u8 (z2.toNat:Int)]] [] [] (SOpn×List UInt8) (fun x=>VOp n x.1 x.2) (fun x=>vA (aN x.1)) (fun _=> []) (fun x=> [Sl cB x.1.Data.1 x.1.Data.2.1 x.1.Data.2.2 x.2]):=by
 have hz1:=z1.toNat_lt
 have hz0:=z0.toNat_lt
 have hm:=Nat.mod_lt z1.toNat h1
 have hk:=Nat.mod_lt z0.toNat (show 0<16 by decide)
 refine ak fun G=> ?_
 (repeat' ((try refine aw ?_);(conv=>arg 4;whnf);first | refine aO ?_ |(refine sN ?_;intro b)|(refine sC ?_ ?_<;>intro h)|(refine au ?_ ?_<;>intro h<;>try contradiction)|(refine aa ?_;intro g c')|(refine aA Ev ?_;intro x hx;refine aH ?_)| refine ae ?_ | refine ai ?_ | exact ax |(refine aj rfl ?_;intro D lL)| refine af ?_ ?_ | refine ah ?_ ?_ ?_ | fail));(all_goals refine av ?_)
 ·refine aR (Sl cB none 0 0 []) (fun w _ _=>AH) ?_
  exact aD (⟨1,((z1.toNat%n:Nat):Int),(none,0,0)⟩, []) (.inl ⟨rfl,_,hm,rfl⟩) rfl (am _) bu
 ·refine eK (K:=cB) (l:=(gc z2).l) b 32 32 ?_
  exact aD (⟨2,((z1.toNat%n:Nat):Int),(some ⟨b,0,none⟩,32,32)⟩,(gc z2).l) (.inr (.inl ⟨rfl,⟨_,hm,rfl⟩,rfl,(gc z2).h⟩)) rfl (am _) bu
 ·refine aR (Sl cB none 0 0 []) (fun w _ _=>AH) ?_
  exact aD (⟨3,0,(none,0,0)⟩, []) (.inr (.inr (.inl rfl))) rfl (am _) bu
 ·have h6:=Nat.mod_lt z1.toNat (show 0<6 by decide)
  have hpl:(gc z2).l.length=32:=(gc z2).h
  revert b;intro pb
  refine eK (K:=cB) (l:=(gc z2).l) pb 32 32 ?_
  refine uy rfl ?_
  (repeat' ((try refine aw ?_);(conv=>arg 4;whnf);first | refine aO ?_ |(refine sN ?_;intro b)|(refine sC ?_ ?_<;>intro h)|(refine au ?_ ?_<;>intro h<;>try contradiction)|(refine aa ?_;intro g c')| refine ae ?_ | refine ai ?_ | exact ax |(refine aj rfl ?_;intro D lL)| refine af ?_ ?_ | refine ah ?_ ?_ ?_ | fail));(all_goals refine av ?_)
  all_goals (refine Eg ?_;intro g c')
  (repeat' ((try refine aw ?_);(conv=>arg 4;whnf);first | refine aO ?_ |(refine sN ?_;intro b)|(refine sC ?_ ?_<;>intro h)|(refine au ?_ ?_<;>intro h<;>try contradiction)|(refine aa ?_;intro g c')| refine ae ?_ | refine ai ?_ | exact ax |(refine aj rfl ?_;intro D lL)| refine af ?_ ?_ | refine ah ?_ ?_ ?_ | fail));(all_goals refine av ?_)
  all_goals (
   refine eE (m:=1) (e:=5) cB (some ⟨g,0,none⟩) (32+1) c' ?_
   refine aR (Sl cB none 0 0 []) (fun w _ _=>AH) ?_
   refine aR (Sl cB (some ⟨pb,0,none⟩) 31 32 ((gc z2).l.take 31)) (fun w _ hf=>by
    have hS:Sl cB (some ⟨pb,0,none⟩) 32 32 (gc z2).l w:=hf _ (by repeat (first | with_reducible exact List.mem_cons_self | with_reducible apply List.mem_cons_of_mem))
    exact o0 hS (by decide) (by decide) (by decide)) ?_
   rcases (by omega:z1.toNat%6=0∨z1.toNat%6=1∨z1.toNat%6=2∨z1.toNat%6=3∨z1.toNat%6=4∨z1.toNat%6=5) with h | h | h | h | h | h<;>rw [h]
   ·exact aD (⟨1,(n:Int),(none,0,0)⟩, []) (.inr (.inr (.inr (.inl ⟨rfl,rfl⟩)))) rfl (am _) bu
   ·exact aD (⟨2,-1,(some ⟨pb,0,none⟩,32,32)⟩,(gc z2).l) (.inr (.inr (.inr (.inr (.inl ⟨rfl,rfl,rfl⟩))))) rfl (am _) bu
   ·exact aD (⟨2,((z1.toNat%n:Nat):Int),(some ⟨pb,0,none⟩,31,32)⟩,(gc z2).l.take 31) (.inr (.inr (.inr (.inr (.inr (.inl ⟨rfl,rfl,_,hm,rfl⟩)))))) rfl (am _) bu
   ·exact aD (⟨0,0,(none,0,0)⟩, []) (.inr (.inr (.inr (.inr (.inr (.inr (.inr (.inl rfl)))))))) rfl (am _) bu
   ·exact aD (⟨4,0,(none,0,0)⟩, []) (.inr (.inr (.inr (.inr (.inr (.inr (.inr (.inr rfl)))))))) rfl (am _) bu
   ·exact aD (⟨2,((z1.toNat%n:Nat):Int),(some ⟨g,0,none⟩,32+1,c')⟩,(gc z2).l++ [0]) (.inr (.inr (.inr (.inr (.inr (.inr (.inl ⟨rfl,rfl,_,hm,rfl⟩))))))) rfl (am _) bu)
end Go.Proofs.YtbobhnldhpjdlaaGreatDoor
namespace Go.Proofs.YtbobhnldhpjdlaaGreatDoor
open Go Go.RowKit Go.Cs Go.Cz
set_option maxRecDepth 100000
set_option maxHeartbeats 4000000
def yF (z:UInt8×UInt8×UInt8):List Value:= [.int .u8 (z.1.toNat:Int), .int .u8 (z.2.1.toNat:Int), .int .u8 (z.2.2.toNat:Int)]
instance:CL yF 3:=⟨fun x=>rfl,fun x u hu=>by
 simp only [yF,List.mem_cons,List.mem_nil_iff,or_false] at hu
 rcases hu with rfl | rfl | rfl<;>rfl⟩
def Opm (n:Nat):List SOpn→List (List UInt8)→Pt
 | [], []=>fun _=>True
 | o::os,y::ys=>fun w=>VOp n o y∧Sl cB o.Data.1 o.Data.2.1 o.Data.2.2 y w∧Opm n os ys w
 | _,_=>fun _=>False
theorem Opm.app {n:Nat} {w:World} {o:SOpn} {y:List UInt8} (h1:VOp n o y) (h2:Sl cB o.Data.1 o.Data.2.1 o.Data.2.2 y w):∀{os:List SOpn} {ys:List (List UInt8)},Opm n os ys w→Opm n (os++ [o]) (ys++ [y]) w
 | [], [],h=>⟨h1,h2,trivial⟩
 | a::vs,c::xs,h=>⟨h.1,h.2.1,Opm.app h1 h2 h.2.2⟩
 | [],_::_,h=>h.elim
 | _::_, [],h=>h.elim
theorem Opm.get {n:Nat} {w:World}:∀{os:List SOpn} {ys:List (List UInt8)} {i:Nat},Opm n os ys w→i<os.length→VOp n (os.getD i default) (ys.getD i [])∧Sl cB (os.getD i default).Data.1 (os.getD i default).Data.2.1 (os.getD i default).Data.2.2 (ys.getD i []) w
 | a::vs,c::xs,0,h,_=>⟨h.1,h.2.1⟩
 | a::vs,c::xs,i+1,h,hi=>Opm.get (i:=i) h.2.2 (by simpa using hi)
 | [],_,i,h,hi=>by simp at hi
 | _::_, [],_,h,_=>h.elim
theorem Jb {n:Nat} {z:UInt8×UInt8×UInt8} (h1:0<n) (h2:n≤4096):Zp Tryz.prog 207 [vI n,vA (yF z)] [] [] (SOpn×List UInt8) (fun x=>VOp n x.1 x.2) (fun x=>vA (aN x.1)) (fun _=> []) (fun x=> [Sl cB x.1.Data.1 x.1.Data.2.1 x.1.Data.2.2 x.2]):=JV h1 h2
theorem IX {xb:UInt8} {oa:Option Addr} {m c:Nat} {zs:List (UInt8×UInt8×UInt8)}:Zp Tryz.prog 118 [vA (iC ⟨xb.toNat,(oa,m,c)⟩)] [] [Sl yF oa m c zs] (List SOpn×List (List UInt8)×Option Addr×Nat) (fun x=>x.1.length≤30) (fun x=> .tuple #[vI (1+xb.toNat%20), .slice x.2.2.1 x.1.length x.2.2.2]) (fun _=> []) (fun x=> [Sl aN x.2.2.1 x.1.length x.2.2.2 x.1,Opm (1+xb.toNat%20) x.1 x.2.1]):=by
 have hxb:=xb.toNat_lt
 have hm20:=Nat.mod_lt xb.toNat (show 0<20 by decide)
 have hop:=fun z=>Jb (n:=1+xb.toNat%20) (z:=z) (by omega) (by omega)
 refine ak fun G=> ?_
 refine aS 0 ?_
 intro hn hcl hml hal
 (repeat' ((try refine aw ?_);(conv=>arg 4;whnf);first | refine az ?_ |(refine sN ?_;intro b)|(refine sC ?_ ?_<;>intro h)|(refine au ?_ ?_<;>intro h<;>try contradiction)|(refine aa ?_;intro g c')| refine ae ?_ | refine ai ?_ | exact ax |(refine aj rfl ?_;intro D lL)| refine af ?_ ?_ | refine ah ?_ ?_ ?_ | fail));(all_goals refine av ?_)
 refine aR (Opm (1+xb.toNat%20) [] []) (fun w _ _=>trivial) ?_
 refine w6 [] (X:=Nat×List SOpn×List (List UInt8)×Option Addr×Nat) (fun x=> [(5, .slice x.2.2.2.1 x.1 x.2.2.2.2),(6,vI x.1)]) (fun x=>x.1≤30∧x.1≤m∧x.2.1.length=x.1) (fun x=> [iN aN 3 x.2.2.2.1 x.1 x.2.2.2.2 247 x.2.1]) (fun x=> [Opm (1+xb.toNat%20) x.2.1 x.2.2.1]) (fun x=>30-x.1) (0, [], [],none,0) ⟨Nat.zero_le _,Nat.zero_le _,rfl⟩ rfl (by
  ((repeat' (first | with_reducible exact ar _ | exact am _ | refine aE ?_ ?_ | refine aG inferInstance ?_ | refine aX ?_ | refine qT rfl ?_))<;>(try with_reducible rfl))
  all_goals rfl) bu ?_
 rintro ⟨i,os,ys,a,c0⟩ ⟨hi,him,hol⟩
 (conv=>arg 2;simp only [List.cons_append,List.nil_append])
 (conv=>arg 3;simp only [List.cons_append,List.nil_append])
 dsimp only at hi him hol⊢
 by_cases hlt:i<m
 ·obtain ⟨o1,o2,rfl⟩:=hal (by omega) (by decide)
  by_cases h30:i<30
  ·(repeat' ((try refine aw ?_);(conv=>arg 4;whnf);first | refine aO ?_ |(refine sN ?_;intro b)|(refine sC ?_ ?_<;>intro h)|(refine au ?_ ?_<;>intro h<;>try contradiction)|(refine aa ?_;intro g c')|(refine cw (hop _) ?_;intro x hx;refine bV ?_)| refine ai ?_ | exact ax |(refine aj rfl ?_;intro D lL)| refine af ?_ ?_ | refine ah ?_ ?_ ?_ | fail));(all_goals refine av ?_)
   revert x;rintro ⟨o,y⟩ ho
   dsimp only at ho⊢
   (repeat' ((try refine aw ?_);(conv=>arg 4;whnf);first | refine aO ?_ |(refine sN ?_;intro b)|(refine sC ?_ ?_<;>intro h)|(refine au ?_ ?_<;>intro h<;>try contradiction)|(refine aa ?_;intro g c')| refine ae ?_ | refine ai ?_ | exact ax |(refine aj rfl ?_;intro D lL)| refine af ?_ ?_ | refine ah ?_ ?_ ?_ | fail));(all_goals refine av ?_)
   refine aR (Opm (1+xb.toNat%20) (os++ [o]) (ys++ [y])) (fun w _ hf=>Opm.app ho (hf _ (by repeat (first | with_reducible exact List.mem_cons_self | with_reducible apply List.mem_cons_of_mem))) (hf _ (by repeat (first | with_reducible exact List.mem_cons_self | with_reducible apply List.mem_cons_of_mem)))) ?_
   refine eU (i+1,os++ [o],ys++ [y],some ⟨g,0,none⟩,c') ⟨by omega,by dsimp only;omega,by simp;omega⟩ (by
    dsimp only
    ((repeat' (first | with_reducible exact ar _ | exact am _ | refine aE ?_ ?_ | refine aG inferInstance ?_ | refine aX ?_))<;>(try with_reducible rfl))
    all_goals rfl) (by dsimp only;omega) bu
  ·subst hol
   (repeat' ((try refine aw ?_);(conv=>arg 4;whnf);first | refine aO ?_ |(refine sN ?_;intro b)|(refine sC ?_ ?_<;>intro h)|(refine au ?_ ?_<;>intro h<;>try contradiction)|(refine aa ?_;intro g c')|(refine cw (hop _) ?_;intro x hx;refine bV ?_)| refine ai ?_ | exact ax |(refine aj rfl ?_;intro D lL)| refine af ?_ ?_ | refine ah ?_ ?_ ?_ | fail));(all_goals refine av ?_)
   refine eE (m:=3) (e:=247) aN a os.length c0 ?_
   exact aD (os,ys,a,c0) (by dsimp only;omega) rfl (am _) bu
 ·subst hol
  (repeat' ((try refine aw ?_);(conv=>arg 4;whnf);first | refine aO ?_ |(refine sN ?_;intro b)|(refine sC ?_ ?_<;>intro h)|(refine au ?_ ?_<;>intro h<;>try contradiction)|(refine aa ?_;intro g c')|(refine cw (hop _) ?_;intro x hx;refine bV ?_)| refine ai ?_ | exact ax |(refine aj rfl ?_;intro D lL)| refine af ?_ ?_ | refine ah ?_ ?_ ?_ | fail));(all_goals refine av ?_)
  refine eE (m:=3) (e:=247) aN a os.length c0 ?_
  exact aD (os,ys,a,c0) (by dsimp only;omega) rfl (am _) bu
end Go.Proofs.YtbobhnldhpjdlaaGreatDoor
