/- Lemmas and walks: what each function does, by its own code. No condition beyond those of each statement. -/
import Derived.Test.YtbobhnldhpjdlaaGreatDoorP26
set_option linter.all false
set_option linter.unusedVariables false
namespace Go.Proofs.YtbobhnldhpjdlaaGreatDoor
open Go Go.RowKit Go.Cs Go.Cz
set_option maxRecDepth 100000
set_option maxHeartbeats 2000000
theorem Fg {n:Nat} (h1:1≤n) (h2:n≤4096):Zp Tryz.prog 229 [vI n] [] [] (Sv×Sv) (fun _=>True) (fun x=> .tuple #[vA (cU ⟨n,x.1,x.2⟩),vI 0]) (fun _=> []) (fun x=> [Sl cI x.1.1 x.1.2.1 x.1.2.2 (fM n (hgt n+1)),Sl cI x.2.1 x.2.2.1 x.2.2.2 (ed n (hgt n+1))]):=by
 refine an fun G=> ?_
 have h5:=bu n
 (repeat' ((try refine au ?_);(conv=>arg 4;whnf);first | refine ax ?_ |(refine sN ?_;intro b)|(refine sC ?_ ?_<;>intro h)|(refine ar ?_ ?_<;>intro h<;>try contradiction)|(refine aa ?_;intro g c')|(refine ay (rD h1 h2) ?_;intro x hx;refine aN ?_)| refine ae ?_ | refine ai ?_ | exact aw |(refine ak rfl ?_;intro D lL)| refine ah ?_ ?_ | refine aj ?_ ?_ ?_ | fail));(all_goals refine av ?_)
 refine eA [b] (X:=Nat×(Option Addr×Nat)×(Option Addr×Nat)) (fun x=> [(7,vI (num n x.1)),(24,vI x.1)]) (fun x=>x.1≤hgt n+1)
  (fun x=> [iB b (cU ⟨n,(x.2.1.1,x.1,x.2.1.2),(x.2.2.1,x.1,x.2.2.2)⟩) 293,iN cI 1 x.2.1.1 x.1 x.2.1.2 3 (fM n x.1),iN cI 1 x.2.2.1 x.1 x.2.2.2 3 (ed n x.1)]) (fun x=>hgt n+1-x.1) (0,(none,0),(none,0)) (Nat.zero_le _) rfl (by ((repeat' (first | with_reducible exact am _ | exact af _ | refine aB ?_ ?_ | refine aD inferInstance ?_ | refine aI ?_ | refine wm rfl ?_))<;>(try with_reducible rfl))) ?_
 rintro ⟨v,⟨a1,c1⟩,a2,c2⟩ hv
 (conv=>arg 2;simp only [List.cons_append,List.nil_append])
 dsimp only at hv⊢
 have hs:=dk h2 (l:=v) (by omega)
 have hcn:=dx n v
 by_cases h:v<hgt n+1
 ·(repeat' ((try refine au ?_);(conv=>arg 4;whnf);first | refine ax ?_ |(refine sN ?_;intro b)|(refine sC ?_ ?_<;>intro h)|(refine ar ?_ ?_<;>intro h<;>try contradiction)|(refine aa ?_;intro g c')|(refine ay (AW h1 h2 (Nat.le_of_lt_succ h)) ?_;intro x hx;refine aN ?_)| refine ae ?_ | refine ai ?_ | exact aw |(refine ak rfl ?_;intro D lL)| refine ah ?_ ?_ | refine aj ?_ ?_ ?_ | fail));(all_goals refine av ?_)
  rename_i g1 d1
  refine bj (v+1,(some ⟨g1,0,none⟩,d1),(some ⟨g,0,none⟩,c')) rfl h ?_ (by dsimp only;omega)
  dsimp only
  rw [om,ow]
  ((repeat' (first | with_reducible exact am _ | exact af _ | refine aB ?_ ?_ | refine aD inferInstance ?_ | refine aI ?_))<;>(try with_reducible rfl))
 ·obtain rfl:v=hgt n+1:=by omega
  (repeat' ((try refine au ?_);(conv=>arg 4;whnf);first | refine ax ?_ |(refine sN ?_;intro b)|(refine sC ?_ ?_<;>intro h)|(refine ar ?_ ?_<;>intro h<;>try contradiction)|(refine aa ?_;intro g c')| refine ae ?_ | refine ai ?_ | exact aw |(refine ak rfl ?_;intro D lL)| refine ah ?_ ?_ | refine aj ?_ ?_ ?_ | fail));(all_goals refine av ?_)
  refine ic (m:=1) (e:=3) cI a1 (hgt n+1) c1 ?_
  refine ic (m:=1) (e:=3) cI a2 (hgt n+1) c2 ?_
  exact aG ((a1,hgt n+1,c1),(a2,hgt n+1,c2)) True.intro rfl (af _) cR
theorem Fz {n:Nat} {s1 s2:Sv} (h1:1≤n) (h2:n≤4096):Zp Tryz.prog 230 [vA (cU ⟨n,s1,s2⟩)] [] [Sl cI s2.1 s2.2.1 s2.2.2 (ed n (hgt n+1))] Unit (fun _=>True) (fun x=>vI (tot n)) (fun _=> []) (fun x=> []):=by
 obtain ⟨a1,n1,c1⟩:=s1
 obtain ⟨a2,n2,c2⟩:=s2
 refine an fun G=> ?_
 have h5:=bu n
 refine bc 0 ?_
 intro hn hc hm ha
 rw [c6] at hn
 dsimp only at hn hc hm ha
 obtain ⟨b,o,rfl⟩:=ha (by omega) (by decide)
 have hs:=dk h2 (l:=hgt n) (by omega)
 have hg:(ed n (hgt n+1)).getD (hgt n+1-1) default=num n (hgt n):=ff (by omega)
 have hl:=c6 n (hgt n+1)
 subst hn
 rw [fY h1 h2,←hg]
 have hg2:(ed n (hgt n+1)).getD (hgt n+1-1) default≤24576:=by omega
 (repeat' ((try refine au ?_);(conv=>arg 4;whnf);first | refine ax ?_ |(refine sN ?_;intro b)|(refine sC ?_ ?_<;>intro h)|(refine ar ?_ ?_<;>intro h<;>try contradiction)|(refine aa ?_;intro g c')| refine ae ?_ | refine ai ?_ | exact aw |(refine ak rfl ?_;intro D lL)| refine ah ?_ ?_ | refine aj ?_ ?_ ?_ | fail));(all_goals refine av ?_)
theorem tf {n l j:Nat} {s1 s2:Sv} (h2:n≤4096) (hl:l≤hgt n) (hj:j≤4096):Zp Tryz.prog 152 [vA (cU ⟨n,s1,s2⟩),vI l,vI j] [] [Sl cI s2.1 s2.2.1 s2.2.2 (ed n (hgt n+1))] Unit (fun _=>True) (fun x=>vI (num n l+j)) (fun _=> []) (fun x=> []):=by
 obtain ⟨a1,n1,c1⟩:=s1
 obtain ⟨a2,n2,c2⟩:=s2
 refine an fun G=> ?_
 have h5:=bu n
 refine bc 0 ?_
 intro hn hc hm ha
 rw [c6] at hn
 dsimp only at hn hc hm ha
 obtain ⟨b,o,rfl⟩:=ha (by omega) (by decide)
 have hs:=dk h2 (l:=l) (by omega)
 have hg:(ed n (hgt n+1)).getD l default=num n l:=ff (by omega)
 have hl:=c6 n (hgt n+1)
 subst hn
 rw [←hg]
 have hg2:(ed n (hgt n+1)).getD l default≤24576:=by omega
 (repeat' ((try refine au ?_);(conv=>arg 4;whnf);first | refine ax ?_ |(refine sN ?_;intro b)|(refine sC ?_ ?_<;>intro h)|(refine ar ?_ ?_<;>intro h<;>try contradiction)|(refine aa ?_;intro g c')| refine ae ?_ | refine ai ?_ | exact aw |(refine ak rfl ?_;intro D lL)| refine ah ?_ ?_ | refine aj ?_ ?_ ?_ | fail));(all_goals refine av ?_)
end Go.Proofs.YtbobhnldhpjdlaaGreatDoor
namespace Go.Proofs.YtbobhnldhpjdlaaGreatDoor
open Go Go.RowKit Go.Cs Go.Cz
set_option maxRecDepth 100000
set_option maxHeartbeats 4000000
def JM (b2 b3 b4:Nat) (n tb to m c:Nat) (a1:Option Addr) (n1 c1:Nat) (a2:Option Addr) (n2 c2:Nat) (ts:List Nod):List Pt:= [Bk b2 [.slice (some ⟨tb,to,none⟩) m c],Bk b3 (cU ⟨n,(a1,n1,c1),(a2,n2,c2)⟩),Bk b4 [.func (.func 324) #[] #[vP b2 0,vP b3 0,vP b4 0]],Sl a7 (some ⟨tb,to,none⟩) m c ts,Sl cI a1 n1 c1 (fM n (hgt n+1))]
theorem Ja {b2 b3 b4:Nat} {n tb to m c:Nat} {a1:Option Addr} {n1 c1:Nat} {a2:Option Addr} {n2 c2:Nat} {ts:List Nod} (h1:1≤n) (h2:n≤4096) (ht:ts.length=tot n):∀(l j:Nat),l≤hgt n→j<cnt n l→
  Zp Tryz.prog 324 [vI l,vI j,vP b2 0,vP b3 0,vP b4 0] [] (JM b2 b3 b4 n tb to m c a1 n1 c1 a2 n2 c2 ts) Unit (fun _=>True) (fun _=> .bool (m0 n ts l j)) (fun _=> []) (fun _=> []):=by
 have h5:=bu n
 have htl:=fY h1 h2
 intro l
 induction l with
 | zero=>
  intro j hl hj
  refine an fun G=> ?_
  unfold JM
  refine bc 3 ?_
  intro hn hc hm ha
  have hjt:j<ts.length:=by have:=dL n (l:=1) (m:=hgt n+1) (by omega);rw [ht,tot];simp only [num] at this⊢;omega
  have hu:=po (ts.getD j default) 4
  have e0:m0 n ts 0 j=(usd (ts.getD j default) 4==0):=by
   show (usd (ts.getD (0+j) Nod.zero) 4==0)=_
   rw [Nat.zero_add];rfl
  by_cases hu0:usd (ts.getD j default) 4=0
  ·rw [e0,hu0]
   (repeat' ((try refine au ?_);(conv=>arg 4;whnf);first | refine ax ?_ |(refine sN ?_;intro b)|(refine sC ?_ ?_<;>intro h)|(refine ar ?_ ?_<;>intro h<;>try contradiction)|(refine aa ?_;intro g c')|(refine ay oM ?_;intro x hx;refine aN ?_)| refine ae ?_ | refine ai ?_ | exact aw |(refine ak rfl ?_;intro D lL)| refine ah ?_ ?_ | refine aj ?_ ?_ ?_ | fail));(all_goals refine av ?_)
  ·rw [e0,beq_eq_false_iff_ne.2 hu0]
   (repeat' ((try refine au ?_);(conv=>arg 4;whnf);first | refine ax ?_ |(refine sN ?_;intro b)|(refine sC ?_ ?_<;>intro h)|(refine ar ?_ ?_<;>intro h<;>try contradiction)|(refine aa ?_;intro g c')|(refine ay oM ?_;intro x hx;refine aN ?_)| refine ae ?_ | refine ai ?_ | exact aw |(refine ak rfl ?_;intro D lL)| refine ah ?_ ?_ | refine aj ?_ ?_ ?_ | fail));(all_goals refine av ?_)
 | succ l ih=>
  intro j hl hj
  refine an fun G=> ?_
  unfold JM
  refine bc 4 ?_
  intro hn hc hm ha
  rw [eg] at hn
  subst hn
  obtain ⟨b,o,rfl⟩:=ha (by omega) (by decide)
  have hp4:prt n (l+1) j≤4:=Nat.min_le_left _ _
  have hcn:=dx n (l+1)
  have hcn2:=dx n l
  have hpd:prt n (l+1) j=min 4 (cnt n l-4*j):=rfl
  have hcl:=eg n (hgt n+1)
  have hg:(fM n (hgt n+1)).getD (l+1-1) default=cnt n l:=iR (by omega)
  have hl1:(l+1:Nat)≠0:=by omega
  (repeat' ((try refine au ?_);(conv=>arg 4;whnf);first | refine ax ?_ |(refine sN ?_;intro b)|(refine sC ?_ ?_<;>intro h)|(refine ar ?_ ?_<;>intro h<;>try contradiction)|(refine aa ?_;intro g c')| refine ae ?_ | refine ai ?_ | exact aw |(refine ak rfl ?_;intro D lL)| refine ah ?_ ?_ | refine aj ?_ ?_ ?_ | fail));(all_goals refine av ?_)
  refine eA [] (X:=Nat) (fun w=> [(7, .bool false),(8,vI (4*j+w))]) (fun w=>w≤prt n (l+1) j∧∀k,k<w→m0 n ts l (4*j+k)=true) (fun w=> []) (fun w=>4-w) 0 ⟨Nat.zero_le _,fun k h=>absurd h (Nat.not_lt_zero _)⟩ rfl (am _) ?_
  rintro w ⟨hw,hall⟩
  (conv=>arg 2;simp only [List.cons_append,List.nil_append])
  by_cases h:w<prt n (l+1) j
  ·have hz:=ih (4*j+w) (by omega) (by omega)
   by_cases he:m0 n ts l (4*j+w)=true
   ·rw [he] at hz
    (repeat' ((try refine au ?_);(conv=>arg 4;whnf);first | refine ax ?_ |(refine sN ?_;intro b)|(refine sC ?_ ?_<;>intro h)|(refine ar ?_ ?_<;>intro h<;>try contradiction)|(refine aa ?_;intro g c')|(refine sK hz ?_;intro x hx;refine aN ?_)| refine ae ?_ | refine ai ?_ | exact aw |(refine ak rfl ?_;intro D lL)| refine ah ?_ ?_ | refine aj ?_ ?_ ?_ | fail));(all_goals refine av ?_)
    exact bj (w+1) rfl ⟨by omega,fun k hk=>by
     rcases Nat.lt_succ_iff_lt_or_eq.1 hk with g | rfl
     ·exact hall k g
     ·exact he⟩ eG (by omega)
   ·have he':m0 n ts l (4*j+w)=false:=by simpa using he
    rw [he'] at hz
    rw [Dz h he']
    (repeat' ((try refine au ?_);(conv=>arg 4;whnf);first | refine ax ?_ |(refine sN ?_;intro b)|(refine sC ?_ ?_<;>intro h)|(refine ar ?_ ?_<;>intro h<;>try contradiction)|(refine aa ?_;intro g c')|(refine sK hz ?_;intro x hx;refine aN ?_)| refine ae ?_ | refine ai ?_ | exact aw |(refine ak rfl ?_;intro D lL)| refine ah ?_ ?_ | refine aj ?_ ?_ ?_ | fail));(all_goals refine av ?_)
  ·obtain rfl:w=prt n (l+1) j:=by omega
   rw [rd.2 hall]
   (repeat' ((try refine au ?_);(conv=>arg 4;whnf);first | refine ax ?_ |(refine sN ?_;intro b)|(refine sC ?_ ?_<;>intro h)|(refine ar ?_ ?_<;>intro h<;>try contradiction)|(refine aa ?_;intro g c')| refine ae ?_ | refine ai ?_ | exact aw |(refine ak rfl ?_;intro D lL)| refine ah ?_ ?_ | refine aj ?_ ?_ ?_ | fail));(all_goals refine av ?_)
end Go.Proofs.YtbobhnldhpjdlaaGreatDoor
