/- Lemmas and walks: what each function does, by its own code. No condition beyond those of each statement. -/
import Derived.Test.YtbobhnldhpjdlaaGreatDoorP13
import Derived.Test.YtbobhnldhpjdlaaGreatDoorP15
import Derived.Test.YtbobhnldhpjdlaaGreatDoorP16
set_option linter.all false
set_option linter.unusedVariables false
namespace Go.Proofs.YtbobhnldhpjdlaaGreatDoor
open Go Go.RowKit Go.Cs Go.Cz
set_option maxRecDepth 100000
set_option maxHeartbeats 4000000
theorem Et {a:Option Addr} {n c:Nat} {l:List Dig} (h0:0<l.length) (h1:l.length≤4096):Zp Tryz.prog 268 [.slice a n c] [] [Sl ay a n c l] (Nat×List Value) (fun _=>True) (fun x=> .slice (some ⟨x.1,0,none⟩) l.length l.length) (fun x=> [iB x.1 (l.flatMap ay++x.2) 52]) (fun _=> []):=by
 refine ak fun G=> ?_
 refine aS 0 ?_
 intro hn hcl hml hal
 obtain ⟨a1,a2,rfl⟩:=hal (by omega) (by decide)
 subst hn
 (repeat' ((try refine aw ?_);(conv=>arg 4;whnf);first | refine az ?_ |(refine sN ?_;intro b)|(refine sC ?_ ?_<;>intro h)|(refine au ?_ ?_<;>intro h<;>try contradiction)|(refine aa ?_;intro g c')| refine ae ?_ | refine ai ?_ | exact ax |(refine aj rfl ?_;intro D lL)| refine af ?_ ?_ | refine ah ?_ ?_ ?_ | fail));(all_goals refine av ?_)
 rw [Nat.zero_add,List.nil_append]
 refine L5 (K:=ay) (m:=32) (n:=l.length) (c:=c') (e:=52) g ?_
 intro rs hc1 hc2
 (repeat' ((try refine aw ?_);(conv=>arg 4;whnf);first | refine az ?_ |(refine sN ?_;intro b)|(refine sC ?_ ?_<;>intro h)|(refine au ?_ ?_<;>intro h<;>try contradiction)|(refine aa ?_;intro g c')| refine ae ?_ | refine ai ?_ | exact ax |(refine aj rfl ?_;intro D lL)| refine af ?_ ?_ | refine ah ?_ ?_ ?_ | fail));(all_goals refine av ?_)
 exact aD (g,rs) True.intro rfl cD
theorem wW {a1 a2:Option Addr} {n1 n2 c1 c2:Nat} {l1 l2:List Dig} (h1:0<l1.length) (h2:l1.length≤4096) (h3:0<l2.length) (h4:l2.length≤4096):Zp Tryz.prog 209 [vA (cf ⟨(a1,n1,c1),(a2,n2,c2)⟩)] [] [Sl ay a1 n1 c1 l1,Sl ay a2 n2 c2 l2] (Nat×List Value×Nat×List Value) (fun _=>True) (fun x=>vA (cf ⟨(some ⟨x.1,0,none⟩,l1.length,l1.length),(some ⟨x.2.2.1,0,none⟩,l2.length,l2.length)⟩)) (fun x=> [iB x.1 (l1.flatMap ay++x.2.1) 52,iB x.2.2.1 (l2.flatMap ay++x.2.2.2) 52]) (fun _=> []):=by
 have hc1:=Et (a:=a1) (n:=n1) (c:=c1) h1 h2
 have hc2:=Et (a:=a2) (n:=n2) (c:=c2) h3 h4
 refine ak fun G=> ?_
 (repeat' ((try refine aw ?_);(conv=>arg 4;whnf);first | refine aO ?_ |(refine sN ?_;intro b)|(refine sC ?_ ?_<;>intro h)|(refine au ?_ ?_<;>intro h<;>try contradiction)|(refine aa ?_;intro g c')|((first | refine aA hc1 ?_ | refine aA hc2 ?_);intro x hx;refine aH ?_)| refine ae ?_ | refine ai ?_ | exact ax |(refine aj rfl ?_;intro D lL)| refine af ?_ ?_ | refine ah ?_ ?_ ?_ | fail));(all_goals refine av ?_)
 (first | refine bF rfl rfl ?_ |(refine bh ?_;(conv=>arg 4;whnf);refine bc rfl ?_))
 (repeat' ((try refine aw ?_);(conv=>arg 4;whnf);first | refine aO ?_ |(refine sN ?_;intro b)|(refine sC ?_ ?_<;>intro h)|(refine au ?_ ?_<;>intro h<;>try contradiction)|(refine aa ?_;intro g c')|((first | refine aA hc1 ?_ | refine aA hc2 ?_);intro x hx;refine aH ?_)| refine ae ?_ | refine ai ?_ | exact ax |(refine aj rfl ?_;intro D lL)| refine af ?_ ?_ | refine ah ?_ ?_ ?_ | fail));(all_goals refine av ?_)
 all_goals (
  rename_i y hy
  first
  | exact aD (y.1,y.2,x.1,x.2) True.intro rfl cD
  | exact aD (x.1,x.2,y.1,y.2) True.intro rfl cD)
theorem z8:Zp Tryz.prog 270 [] [] [] Unit (fun _=>True) (fun _=>vA [.nilFunc, .func (.func 312) #[] #[], .func (.func 313) #[] #[], .func (.func 314) #[] #[]]) (fun _=> []) (fun _=> []):=by
 refine ak fun G=> ?_
 (repeat' ((try refine aw ?_);(conv=>arg 4;whnf);first | refine az ?_ |(refine sN ?_;intro b)|(refine sC ?_ ?_<;>intro h)|(refine au ?_ ?_<;>intro h<;>try contradiction)|(refine aa ?_;intro g c')| refine ae ?_ | refine ai ?_ | exact ax |(refine aj rfl ?_;intro D lL)| refine af ?_ ?_ | refine ah ?_ ?_ ?_ | fail));(all_goals refine av ?_)
theorem z9 {O:List It} {F:List Pt} {f:Value}:Yv Tryz.prog O F (.fd 456 (vA [f]) 0) f:=aC fun w=>by kernel_rfl
section
variable {a1 a2 d1:Option Addr} {n1 n2 c1 c2 dn dc i:Nat} {l1 l2:List Dig}
theorem Iz (h1:0<l1.length) (h2:l1.length≤4096) (h3:l2.length=l1.length) (hi:i<l1.length):Zp Tryz.prog 120 [vA (cf ⟨(a1,n1,c1),(a2,n2,c2)⟩),vA (aN ⟨1,(i:Int),(d1,dn,dc)⟩)] [] [Sl ay a1 n1 c1 l1,Sl ay a2 n2 c2 l2] (Nat×Nat) (fun _=>True) (fun x=> .tuple #[vA (cf ⟨(some ⟨x.1,0,none⟩,l1.length,l1.length),(some ⟨x.2,0,none⟩,l1.length,l1.length)⟩),vA (ck ⟨l1.getD i default,0⟩),vI 0]) (fun _=> []) (fun x=> [Sl ay (some ⟨x.1,0,none⟩) l1.length l1.length l1,Sl ay (some ⟨x.2,0,none⟩) l1.length l1.length l2]):=by
 have hvl:=wW (a1:=a1) (a2:=a2) (n1:=n1) (n2:=n2) (c1:=c1) (c2:=c2) h1 h2 (by omega) (by omega:l2.length≤4096)
 have hck:=kM (n:=l1.length) h1 h2
 refine ak fun G=> ?_
 refine aS 0 ?_
 intro hn hcl hml _
 refine aS 1 ?_
 intro hn2 hcl2 hml2 _
 subst hn hn2
 (repeat' ((try refine aw ?_);(conv=>arg 4;whnf);first | refine aO ?_ |(refine sN ?_;intro b)|(refine sC ?_ ?_<;>intro h)|(refine au ?_ ?_<;>intro h<;>try contradiction)|(refine aa ?_;intro g c')|((first | refine aA hck ?_ | refine aA hvl ?_);intro x hx;refine aH ?_)| refine ae ?_ | refine ai ?_ | exact ax |(refine aj rfl ?_;intro D lL)| refine af ?_ ?_ | refine ah ?_ ?_ ?_ | fail));(all_goals refine av ?_)
 obtain ⟨b1,r1,b2,r2⟩:=x
 dsimp only
 (first | refine bF rfl rfl ?_ |(refine bh ?_;(conv=>arg 4;whnf);refine bc rfl ?_))
 (repeat' ((try refine aw ?_);(conv=>arg 4;whnf);first | refine aO ?_ |(refine sN ?_;intro b)|(refine sC ?_ ?_<;>intro h)|(refine au ?_ ?_<;>intro h<;>try contradiction)|(refine aa ?_;intro g c')| refine ae ?_ | refine ai ?_ | exact ax |(refine aj rfl ?_;intro D lL)| refine af ?_ ?_ | refine ah ?_ ?_ ?_ | fail));(all_goals refine av ?_)
 (first | refine bF rfl rfl ?_ |(refine bh ?_;(conv=>arg 4;whnf);refine bc rfl ?_))
 (repeat' ((try refine aw ?_);(conv=>arg 4;whnf);first | refine aO ?_ |(refine sN ?_;intro b)|(refine sC ?_ ?_<;>intro h)|(refine au ?_ ?_<;>intro h<;>try contradiction)|(refine aa ?_;intro g c')|(refine aA z8 ?_;intro x hx;refine aH ?_)| refine ai ?_ | exact ax |(refine aj rfl ?_;intro D lL)| refine af ?_ ?_ | refine ah ?_ ?_ ?_ | fail));(all_goals refine av ?_)
 (conv=>arg 4;arg 5;ext C;whnf)
 refine cR ?_ z9
 (repeat' ((try refine aw ?_);(conv=>arg 4;whnf);first | refine aO ?_ |(refine sN ?_;intro b)|(refine sC ?_ ?_<;>intro h)|(refine au ?_ ?_<;>intro h<;>try contradiction)|(refine aa ?_;intro g c')| refine ae ?_ | refine ai ?_ | exact ax |(refine aj rfl ?_;intro D lL)| refine af ?_ ?_ | refine ah ?_ ?_ ?_ | fail));(all_goals refine av ?_)
 (first | refine bF rfl rfl ?_ |(refine bh ?_;(conv=>arg 4;whnf);refine bc rfl ?_))
 (repeat' ((try refine aw ?_);(conv=>arg 4;whnf);first | refine aO ?_ |(refine sN ?_;intro b)|(refine sC ?_ ?_<;>intro h)|(refine au ?_ ?_<;>intro h<;>try contradiction)|(refine aa ?_;intro g c')| refine ae ?_ | refine ai ?_ | exact ax |(refine aj rfl ?_;intro D lL)| refine af ?_ ?_ | refine ah ?_ ?_ ?_ | fail));(all_goals refine av ?_)
 rw [show gr [vA (ay (l1.getD i default))]=vA (ay (l1.getD i default)) from rfl]
 (repeat' ((try refine aw ?_);(conv=>arg 4;whnf);first | refine aO ?_ |(refine sN ?_;intro b)|(refine sC ?_ ?_<;>intro h)|(refine au ?_ ?_<;>intro h<;>try contradiction)|(refine aa ?_;intro g c')| refine ae ?_ | refine ai ?_ | exact ax |(refine aj rfl ?_;intro D lL)| refine af ?_ ?_ | refine ah ?_ ?_ ?_ | fail));(all_goals refine av ?_)
 rw [show gr [vA (ck ⟨l1.getD i default,0⟩)]=vA (ck ⟨l1.getD i default,0⟩) from rfl]
 (repeat' ((try refine aw ?_);(conv=>arg 4;whnf);first | refine az ?_ |(refine sN ?_;intro b)|(refine sC ?_ ?_<;>intro h)|(refine au ?_ ?_<;>intro h<;>try contradiction)|(refine aa ?_;intro g c')| refine ae ?_ | refine ai ?_ | exact ax |(refine aj rfl ?_;intro D lL)| refine af ?_ ?_ | refine ah ?_ ?_ ?_ | fail));(all_goals refine av ?_)
 all_goals (
  refine kz ay l1 b1 l1.length l1.length ?_
  refine kz ay l2 b2 l1.length l1.length ?_
  exact aD (b1,b2) True.intro (by rw [h3];rfl) (am _) bu)
theorem Ji {y:Dig} (h1:0<l1.length) (h2:l1.length≤4096) (h3:l2.length=l1.length) (hi:i<l1.length):Zp Tryz.prog 120 [vA (cf ⟨(a1,n1,c1),(a2,n2,c2)⟩),vA (aN ⟨2,(i:Int),(d1,32,dc)⟩)] [] [Sl ay a1 n1 c1 l1,Sl ay a2 n2 c2 l2,Sl cB d1 32 dc y.l] (Nat×Nat) (fun _=>True) (fun x=> .tuple #[vA (cf ⟨(some ⟨x.1,0,none⟩,l1.length,l1.length),(some ⟨x.2,0,none⟩,l1.length,l1.length)⟩),vA (ck ⟨Dig.zero,0⟩),vI 0]) (fun _=> []) (fun x=> [Sl ay (some ⟨x.1,0,none⟩) l1.length l1.length (l1.set i y),Sl ay (some ⟨x.2,0,none⟩) l1.length l1.length l2]):=by
 have hvl:=wW (a1:=a1) (a2:=a2) (n1:=n1) (n2:=n2) (c1:=c1) (c2:=c2) h1 h2 (by omega) (by omega:l2.length≤4096)
 have hck:=kM (n:=l1.length) h1 h2
 refine ak fun G=> ?_
 refine aS 0 ?_
 intro hn hcl hml _
 refine aS 1 ?_
 intro hn2 hcl2 hml2 _
 subst hn hn2
 (repeat' ((try refine aw ?_);(conv=>arg 4;whnf);first | refine aO ?_ |(refine sN ?_;intro b)|(refine sC ?_ ?_<;>intro h)|(refine au ?_ ?_<;>intro h<;>try contradiction)|(refine aa ?_;intro g c')|((first | refine aA hck ?_ | refine aA hvl ?_);intro x hx;refine aH ?_)| refine ae ?_ | refine ai ?_ | exact ax |(refine aj rfl ?_;intro D lL)| refine af ?_ ?_ | refine ah ?_ ?_ ?_ | fail));(all_goals refine av ?_)
 obtain ⟨b1,r1,b2,r2⟩:=x
 dsimp only
 (first | refine bF rfl rfl ?_ |(refine bh ?_;(conv=>arg 4;whnf);refine bc rfl ?_))
 (repeat' ((try refine aw ?_);(conv=>arg 4;whnf);first | refine aO ?_ |(refine sN ?_;intro b)|(refine sC ?_ ?_<;>intro h)|(refine au ?_ ?_<;>intro h<;>try contradiction)|(refine aa ?_;intro g c')| refine ae ?_ | refine ai ?_ | exact ax |(refine aj rfl ?_;intro D lL)| refine af ?_ ?_ | refine ah ?_ ?_ ?_ | fail));(all_goals refine av ?_)
 refine dH [b1] rfl ?_
 have hyl:y.l.length=32:=y.h
 have hU:Ub (l1.flatMap ay++r1) (0+i*32) ((y.l.take (min 32 32)).flatMap cB) ((l1.set i y).flatMap ay++r1) True:=⟨fun _=>by
  rw [List.take_of_length_le (by omega),←bL]
  obtain ⟨p0,q0,s0,e1,e2,e3,e4⟩:=j6 (K:=ay) (m:=32) (t:=l1) y hi
  exact ⟨p0,q0,s0++r1,by rw [e1];simp,by omega,e3,by rw [e4];simp;rfl⟩⟩
 (repeat' ((try refine aw ?_);(conv=>arg 4;whnf);first | refine aO ?_ |(refine sN ?_;intro b)|(refine sC ?_ ?_<;>intro h)|(refine au ?_ ?_<;>intro h<;>try contradiction)|(refine aa ?_;intro g c')|(refine aA z8 ?_;intro x hx;refine aH ?_)| refine ai ?_ | exact ax |(refine aj rfl ?_;intro D lL)| refine af ?_ ?_ | refine ah ?_ ?_ ?_ | fail));(all_goals refine av ?_)
 (conv=>arg 4;arg 5;ext C;whnf)
 refine cR ?_ z9
 (repeat' ((try refine aw ?_);(conv=>arg 4;whnf);first | refine aO ?_ |(refine sN ?_;intro b)|(refine sC ?_ ?_<;>intro h)|(refine au ?_ ?_<;>intro h<;>try contradiction)|(refine aa ?_;intro g c')| refine ae ?_ | refine ai ?_ | exact ax |(refine aj rfl ?_;intro D lL)| refine af ?_ ?_ | refine ah ?_ ?_ ?_ | fail));(all_goals refine av ?_)
 refine dH [b1] rfl ?_
 (repeat' ((try refine aw ?_);(conv=>arg 4;whnf);first | refine aO ?_ |(refine sN ?_;intro b)|(refine sC ?_ ?_<;>intro h)|(refine au ?_ ?_<;>intro h<;>try contradiction)|(refine aa ?_;intro g c')| refine ae ?_ | refine ai ?_ | exact ax |(refine aj rfl ?_;intro D lL)| refine af ?_ ?_ | refine ah ?_ ?_ ?_ | fail));(all_goals refine av ?_)
 rw [show gr [vA (ay Dig.zero)]=vA (ay Dig.zero) from rfl]
 (repeat' ((try refine aw ?_);(conv=>arg 4;whnf);first | refine aO ?_ |(refine sN ?_;intro b)|(refine sC ?_ ?_<;>intro h)|(refine au ?_ ?_<;>intro h<;>try contradiction)|(refine aa ?_;intro g c')| refine ae ?_ | refine ai ?_ | exact ax |(refine aj rfl ?_;intro D lL)| refine af ?_ ?_ | refine ah ?_ ?_ ?_ | fail));(all_goals refine av ?_)
 rw [show gr [vA (ck ⟨Dig.zero,0⟩)]=vA (ck ⟨Dig.zero,0⟩) from rfl]
 (repeat' ((try refine aw ?_);(conv=>arg 4;whnf);first | refine az ?_ |(refine sN ?_;intro b)|(refine sC ?_ ?_<;>intro h)|(refine au ?_ ?_<;>intro h<;>try contradiction)|(refine aa ?_;intro g c')| refine ae ?_ | refine ai ?_ | exact ax |(refine aj rfl ?_;intro D lL)| refine af ?_ ?_ | refine ah ?_ ?_ ?_ | fail));(all_goals refine av ?_)
 all_goals (
  refine kz ay (l1.set i y) b1 l1.length l1.length ?_
  refine kz ay l2 b2 l1.length l1.length ?_
  exact aD (b1,b2) True.intro (by rw [h3];rfl) (am _) bu)
theorem Jt {ix:Int} (h1:0<l1.length) (h2:l1.length≤4096) (h3:l2.length=l1.length):Zp Tryz.prog 120 [vA (cf ⟨(a1,n1,c1),(a2,n2,c2)⟩),vA (aN ⟨3,ix,(d1,dn,dc)⟩)] [] [Sl ay a1 n1 c1 l1,Sl ay a2 n2 c2 l2] (Nat×Nat) (fun _=>True) (fun x=> .tuple #[vA (cf ⟨(some ⟨x.1,0,none⟩,l1.length,l1.length),(some ⟨x.2,0,none⟩,l1.length,l1.length)⟩),vA (ck ⟨Dig.zero,0⟩),vI 0]) (fun _=> []) (fun x=> [Sl ay (some ⟨x.1,0,none⟩) l1.length l1.length l1,Sl ay (some ⟨x.2,0,none⟩) l1.length l1.length l1]):=by
 have hvl:=wW (a1:=a1) (a2:=a2) (n1:=n1) (n2:=n2) (c1:=c1) (c2:=c2) h1 h2 (by omega) (by omega:l2.length≤4096)
 have hck:=kM (n:=l1.length) h1 h2
 refine ak fun G=> ?_
 refine aS 0 ?_
 intro hn hcl hml _
 refine aS 1 ?_
 intro hn2 hcl2 hml2 _
 subst hn hn2
 (repeat' ((try refine aw ?_);(conv=>arg 4;whnf);first | refine aO ?_ |(refine sN ?_;intro b)|(refine sC ?_ ?_<;>intro h)|(refine au ?_ ?_<;>intro h<;>try contradiction)|(refine aa ?_;intro g c')|((first | refine aA hck ?_ | refine aA hvl ?_);intro x hx;refine aH ?_)| refine ae ?_ | refine ai ?_ | exact ax |(refine aj rfl ?_;intro D lL)| refine af ?_ ?_ | refine ah ?_ ?_ ?_ | fail));(all_goals refine av ?_)
 obtain ⟨b1,r1,b2,r2⟩:=x
 dsimp only
 (first | refine bF rfl rfl ?_ |(refine bh ?_;(conv=>arg 4;whnf);refine bc rfl ?_))
 (repeat' ((try refine aw ?_);(conv=>arg 4;whnf);first | refine aO ?_ |(refine sN ?_;intro b)|(refine sC ?_ ?_<;>intro h)|(refine au ?_ ?_<;>intro h<;>try contradiction)|(refine aa ?_;intro g c')| refine ae ?_ | refine ai ?_ | exact ax |(refine aj rfl ?_;intro D lL)| refine af ?_ ?_ | refine ah ?_ ?_ ?_ | fail));(all_goals refine av ?_)
 refine dH [b2] rfl ?_
 have hU:Ub (l2.flatMap ay++r2) 0 ((l1.take (min l1.length l2.length)).flatMap ay) (l1.flatMap ay++r2) True:=⟨fun _=>by
  rw [List.take_of_length_le (by omega)]
  exact ⟨[],l2.flatMap ay,r2,by simp,rfl,by rw [b8 (K:=ay) (m:=32),b8 (K:=ay) (m:=32),h3],by simp⟩⟩
 (repeat' ((try refine aw ?_);(conv=>arg 4;whnf);first | refine aO ?_ |(refine sN ?_;intro b)|(refine sC ?_ ?_<;>intro h)|(refine au ?_ ?_<;>intro h<;>try contradiction)|(refine aa ?_;intro g c')|(refine aA z8 ?_;intro x hx;refine aH ?_)| refine ai ?_ | exact ax |(refine aj rfl ?_;intro D lL)| refine af ?_ ?_ | refine ah ?_ ?_ ?_ | fail));(all_goals refine av ?_)
 (conv=>arg 4;arg 5;ext C;whnf)
 refine cR ?_ z9
 (repeat' ((try refine aw ?_);(conv=>arg 4;whnf);first | refine aO ?_ |(refine sN ?_;intro b)|(refine sC ?_ ?_<;>intro h)|(refine au ?_ ?_<;>intro h<;>try contradiction)|(refine aa ?_;intro g c')| refine ae ?_ | refine ai ?_ | exact ax |(refine aj rfl ?_;intro D lL)| refine af ?_ ?_ | refine ah ?_ ?_ ?_ | fail));(all_goals refine av ?_)
 refine dH [b2] rfl ?_
 (repeat' ((try refine aw ?_);(conv=>arg 4;whnf);first | refine aO ?_ |(refine sN ?_;intro b)|(refine sC ?_ ?_<;>intro h)|(refine au ?_ ?_<;>intro h<;>try contradiction)|(refine aa ?_;intro g c')| refine ae ?_ | refine ai ?_ | exact ax |(refine aj rfl ?_;intro D lL)| refine af ?_ ?_ | refine ah ?_ ?_ ?_ | fail));(all_goals refine av ?_)
 rw [show gr [vA (ay Dig.zero)]=vA (ay Dig.zero) from rfl]
 (repeat' ((try refine aw ?_);(conv=>arg 4;whnf);first | refine aO ?_ |(refine sN ?_;intro b)|(refine sC ?_ ?_<;>intro h)|(refine au ?_ ?_<;>intro h<;>try contradiction)|(refine aa ?_;intro g c')| refine ae ?_ | refine ai ?_ | exact ax |(refine aj rfl ?_;intro D lL)| refine af ?_ ?_ | refine ah ?_ ?_ ?_ | fail));(all_goals refine av ?_)
 rw [show gr [vA (ck ⟨Dig.zero,0⟩)]=vA (ck ⟨Dig.zero,0⟩) from rfl]
 (repeat' ((try refine aw ?_);(conv=>arg 4;whnf);first | refine az ?_ |(refine sN ?_;intro b)|(refine sC ?_ ?_<;>intro h)|(refine au ?_ ?_<;>intro h<;>try contradiction)|(refine aa ?_;intro g c')| refine ae ?_ | refine ai ?_ | exact ax |(refine aj rfl ?_;intro D lL)| refine af ?_ ?_ | refine ah ?_ ?_ ?_ | fail));(all_goals refine av ?_)
 all_goals (
  refine kz ay l1 b1 l1.length l1.length ?_
  refine kz ay l1 b2 l1.length l1.length ?_
  exact aD (b1,b2) True.intro (by rw [h3];rfl) (am _) bu)
def Bdo (n kd:Nat) (ix:Int) (dn:Nat):Prop:=(kd=1∧ix=(n:Int))∨(kd=2∧ix= -1∧dn=32)∨(kd=2∧dn=31∧∃j,j<n∧ix=(j:Int))∨(kd=2∧dn=33∧∃j,j<n∧ix=(j:Int))∨kd=0∨kd=4
theorem HW {kd:Nat} {ix:Int} (h1:0<l1.length) (h2:l1.length≤4096) (h3:l2.length=l1.length) (hb:Bdo l1.length kd ix dn):Zp Tryz.prog 120 [vA (cf ⟨(a1,n1,c1),(a2,n2,c2)⟩),vA (aN ⟨kd,ix,(d1,dn,dc)⟩)] [] [Sl ay a1 n1 c1 l1,Sl ay a2 n2 c2 l2] (Nat×Nat) (fun _=>True) (fun x=> .tuple #[vA (cf ⟨(some ⟨x.1,0,none⟩,l1.length,l1.length),(some ⟨x.2,0,none⟩,l1.length,l1.length)⟩),vA (ck ⟨Dig.zero,1⟩),vI 0]) (fun _=> []) (fun x=> [Sl ay (some ⟨x.1,0,none⟩) l1.length l1.length l1,Sl ay (some ⟨x.2,0,none⟩) l1.length l1.length l2]):=by
 have hvl:=wW (a1:=a1) (a2:=a2) (n1:=n1) (n2:=n2) (c1:=c1) (c2:=c2) h1 h2 (by omega) (by omega:l2.length≤4096)
 have hck:=kM (n:=l1.length) h1 h2
 refine ak fun G=> ?_
 refine aS 0 ?_
 intro hn hcl hml _
 refine aS 1 ?_
 intro hn2 hcl2 hml2 _
 subst hn hn2
 (repeat' ((try refine aw ?_);(conv=>arg 4;whnf);first | refine aO ?_ |(refine sN ?_;intro b)|(refine sC ?_ ?_<;>intro h)|(refine au ?_ ?_<;>intro h<;>try contradiction)|(refine aa ?_;intro g c')|((first | refine aA hck ?_ | refine aA hvl ?_);intro x hx;refine aH ?_)| refine ae ?_ | refine ai ?_ | exact ax |(refine aj rfl ?_;intro D lL)| refine af ?_ ?_ | refine ah ?_ ?_ ?_ | fail));(all_goals refine av ?_)
 obtain ⟨b1,r1,b2,r2⟩:=x
 dsimp only
 rcases hb with ⟨rfl,rfl⟩|⟨rfl,rfl,rfl⟩|⟨rfl,rfl,_⟩|⟨rfl,rfl,_⟩| rfl | rfl
 all_goals (
  (first | refine bF rfl rfl ?_ |(refine bh ?_;(conv=>arg 4;whnf);refine bc rfl ?_))
  (repeat' ((try refine aw ?_);(conv=>arg 4;whnf);first | refine aO ?_ |(refine sN ?_;intro b)|(refine sC ?_ ?_<;>intro h)|(refine au ?_ ?_<;>intro h<;>try contradiction)|(refine aa ?_;intro g c')| refine ae ?_ | refine ai ?_ | exact ax |(refine aj rfl ?_;intro D lL)| refine af ?_ ?_ | refine ah ?_ ?_ ?_ | fail));(all_goals refine av ?_)
  rw [show gr [vA (ck ⟨Dig.zero,1⟩)]=vA (ck ⟨Dig.zero,1⟩) from rfl]
  (repeat' ((try refine aw ?_);(conv=>arg 4;whnf);first | refine az ?_ |(refine sN ?_;intro b)|(refine sC ?_ ?_<;>intro h)|(refine au ?_ ?_<;>intro h<;>try contradiction)|(refine aa ?_;intro g c')| refine ae ?_ | refine ai ?_ | exact ax |(refine aj rfl ?_;intro D lL)| refine af ?_ ?_ | refine ah ?_ ?_ ?_ | fail));(all_goals refine av ?_)
  all_goals (
   refine kz ay l1 b1 l1.length l1.length ?_
   refine kz ay l2 b2 l1.length l1.length ?_
   exact aD (b1,b2) True.intro (by rw [h3];rfl) (am _) bu))
end
end Go.Proofs.YtbobhnldhpjdlaaGreatDoor
