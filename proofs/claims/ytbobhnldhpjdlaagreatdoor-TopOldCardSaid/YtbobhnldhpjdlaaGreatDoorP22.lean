/- Lemmas and walks: what each function does, by its own code. No condition beyond those of each statement. -/
import Derived.Test.YtbobhnldhpjdlaaGreatDoorP9
import Derived.Test.YtbobhnldhpjdlaaGreatDoorP18
set_option linter.all false
set_option linter.unusedVariables false
namespace Go.Proofs.YtbobhnldhpjdlaaGreatDoor
open Go Go.RowKit Go.Cs Go.Cz
set_option maxRecDepth 100000
set_option maxHeartbeats 2000000
theorem Ey {a:Option Addr} {n c:Nat} {l:List UInt8} (hb:l.length≤65536):Zp Tryz.prog 111 [.slice a n c] [] [Sl cB a n c l] Sv (fun x=>Svp x l.length) (fun x=> .slice x.1 x.2.1 x.2.2) (fun _=> []) (fun x=> [Sl cB x.1 x.2.1 x.2.2 l]):=by
 refine ak fun G=> ?_
 refine aS 0 ?_
 intro hn hc hm ha
 cases a with
 | none=>
  refine f5 (p:=n=0∧c=0) (fun w _ h=>(h _ (.head _)).2.imp_right (fun h=>h.1)) fun h0=> ?_
  obtain ⟨rfl,rfl⟩:=h0
  (repeat' ((try refine aw ?_);(conv=>arg 4;whnf);first | refine az ?_ |(refine sN ?_;intro b)|(refine sC ?_ ?_<;>intro h)|(refine au ?_ ?_<;>intro h<;>try contradiction)|(refine aa ?_;intro g c')| refine ae ?_ | refine ai ?_ | exact ax |(refine aj rfl ?_;intro D lL)| refine af ?_ ?_ | refine ah ?_ ?_ ?_ | fail));(all_goals refine av ?_)
  exact aD ((none,0,0):Sv) ⟨hn,Nat.le_refl _,by decide⟩ rfl (am _) (fun _ h=>h)
 | some ad=>
  by_cases h:0<n
  ·obtain ⟨b,o,hbo⟩:=ha h (by decide)
   cases hbo
   (repeat' ((try refine aw ?_);(conv=>arg 4;whnf);first | refine az ?_ |(refine sN ?_;intro b)|(refine sC ?_ ?_<;>intro h)|(refine au ?_ ?_<;>intro h<;>try contradiction)|(refine aa ?_;intro g c')| refine ae ?_ | refine ai ?_ | exact ax |(refine aj rfl ?_;intro D lL)| refine af ?_ ?_ | refine ah ?_ ?_ ?_ | fail));(all_goals refine av ?_)
   refine eE (m:=1) (e:=5) cB (some ⟨g,0,none⟩) (0+n) c' ?_
   refine aS 0 ?_
   intro hn2 hc2 hm2 _
   exact aD ((some ⟨g,0,none⟩,0+n,c'):Sv) ⟨by dsimp only;omega,hc2,hm2⟩ rfl (am _) (fun _ h=>by simp at h;subst h;simp)
  ·obtain rfl:n=0:=by omega
   have hl:l= []:=List.eq_nil_of_length_eq_zero hn.symm
   subst hl
   (repeat' ((try refine aw ?_);(conv=>arg 4;whnf);first | refine az ?_ |(refine sN ?_;intro b)|(refine sC ?_ ?_<;>intro h)|(refine au ?_ ?_<;>intro h<;>try contradiction)|(refine aa ?_;intro g c')| refine ae ?_ | refine ai ?_ | exact ax |(refine aj rfl ?_;intro D lL)| refine af ?_ ?_ | refine ah ?_ ?_ ?_ | fail));(all_goals refine av ?_)
   refine eK b 0 0 (K:=cB) (l:= []) ?_
   exact aD ((some ⟨b,0,none⟩,0,0):Sv) ⟨rfl,Nat.le_refl _,Nat.zero_le _⟩ rfl (am _) (fun _ h=>by simp at h;subst h;simp)
theorem Av {l:List VN} (hb:l.length≤1099511627776):Zp Tryz.prog 80 [.pointer (vptr l)] [] [Vm l] Unit (fun _=>True) (fun _=>vI l.length) (fun _=> []) (fun _=> []):=by
 refine ak fun G=> ?_
 cases l with
 | nil=>
  simp only [vptr]
  (repeat' ((try refine aw ?_);(conv=>arg 4;whnf);first | refine az ?_ |(refine sN ?_;intro b)|(refine sC ?_ ?_<;>intro h)|(refine au ?_ ?_<;>intro h<;>try contradiction)|(refine aa ?_;intro g c')| refine ae ?_ | refine ai ?_ | exact ax |(refine aj rfl ?_;intro D lL)| refine af ?_ ?_ | refine ah ?_ ?_ ?_ | fail));(all_goals refine av ?_)
 | cons v l=>
  simp only [vptr]
  refine aR (Bk v.blk (bU (vcel v l))) (fun w _ h=>(h _ (.head _)).1) ?_
  (repeat' ((try refine aw ?_);(conv=>arg 4;whnf);first | refine az ?_ |(refine sN ?_;intro b)|(refine sC ?_ ?_<;>intro h)|(refine au ?_ ?_<;>intro h<;>try contradiction)|(refine aa ?_;intro g c')| refine ae ?_ | refine ai ?_ | exact ax |(refine aj rfl ?_;intro D lL)| refine af ?_ ?_ | refine ah ?_ ?_ ?_ | fail));(all_goals refine av ?_)
theorem JA {l:List VN} {k:Nat} (hb:l.length≤1099511627776) (hk:k≤l.length):Zp Tryz.prog 81 [.pointer (vptr l),vI k] [] [Vm l] Unit (fun _=>True) (fun _=> .pointer (vptr (l.drop k))) (fun _=> []) (fun _=> []):=by
 refine ak fun G=> ?_
 (repeat' ((try refine aw ?_);(conv=>arg 4;whnf);first | refine az ?_ |(refine sN ?_;intro b)|(refine sC ?_ ?_<;>intro h)|(refine au ?_ ?_<;>intro h<;>try contradiction)|(refine aa ?_;intro g c')| refine ae ?_ | refine ai ?_ | exact ax |(refine aj rfl ?_;intro D lL)| refine af ?_ ?_ | refine ah ?_ ?_ ?_ | fail));(all_goals refine av ?_)
 refine cN (X:=Nat) (fun i=> [(0, .pointer (vptr (l.drop i))),(1,vI (k-i))]) (fun i=>i≤k) (fun i=> []) (fun i=>k-i) 0 (Nat.zero_le _) rfl (ar _) ?_
 intro i hi
 by_cases h:i<k
 ·obtain ⟨v,r,hr⟩:∃v r,l.drop i=v::r:=⟨l[i],l.drop (i+1),List.drop_eq_getElem_cons (by omega)⟩
  have hr2:l.drop (i+1)=r:=by rw [←List.drop_drop,hr];rfl
  have hp:vptr (l.drop i)=some ⟨v.blk,0,none⟩:=by rw [hr];rfl
  refine aR (Bk v.blk (bU (vcel v r))) (fun w _ h=>by have h2:=Vm.drop i (h _ (.head _));rw [hr] at h2;exact h2.1) ?_
  rw [hp]
  (repeat' ((try refine aw ?_);(conv=>arg 4;whnf);first | refine az ?_ |(refine sN ?_;intro b)|(refine sC ?_ ?_<;>intro h)|(refine au ?_ ?_<;>intro h<;>try contradiction)|(refine aa ?_;intro g c')| refine ae ?_ | refine ai ?_ | exact ax |(refine aj rfl ?_;intro D lL)| refine af ?_ ?_ | refine ah ?_ ?_ ?_ | fail));(all_goals refine av ?_)
  refine a5 (i+1) ?_ ?_ (ar _) ?_
  ·rw [hr2,Nat.sub_add_eq];rfl
  ·omega
  ·omega
 ·have hi':i=k:=by omega
  subst hi'
  (repeat' ((try refine aw ?_);(conv=>arg 4;whnf);first | refine az ?_ |(refine sN ?_;intro b)|(refine sC ?_ ?_<;>intro h)|(refine au ?_ ?_<;>intro h<;>try contradiction)|(refine aa ?_;intro g c')| refine ae ?_ | refine ai ?_ | exact ax |(refine aj rfl ?_;intro D lL)| refine af ?_ ?_ | refine ah ?_ ?_ ?_ | fail));(all_goals refine av ?_)
theorem oe {d:SDsk} {I:DI} {s:Nat} (hI:I.Ok) (hs:s<I.size):Zp Tryz.prog 79 [vA (aJ d),vI s] [] [Dm d I] Unit (fun _=>True) (fun _=> .tuple #[.pointer (vptr (I.vs.getD s [])),vI 0]) (fun _=> []) (fun _=> []):=by
 refine ak fun G=> ?_
 have h1:=hI.s2
 have hcl:=hI.cl
 have hk:s/64<I.ch.length:=by omega
 have hc:=DI.ch_get hI hs
 have hg:=DI.cs_get hI hs
 have hl:=DI.cs_len hI hk
 refine f5 (p:=d.size=I.size) (fun w _ h=>(h _ (.head _)).1) fun hd=> ?_
 refine aR (Bk (I.ch.getD (s/64) 0) ((I.cs (s/64)).flatMap cP)) (fun w _ h=>(h (Dm d I) (by simp)).2.2.1 _ hk) ?_
 refine aR (Sl cP d.chunks.1 d.chunks.2.1 d.chunks.2.2 (I.ch.map ja)) (fun w _ h=>(h (Dm d I) (by simp)).2.1) ?_
 refine aS 0 ?_
 intro hn hcc hm ha
 rw [List.length_map] at hn
 obtain ⟨b,o,hbo⟩:=ha (by omega) (by decide)
 rw [hbo]
 (repeat' ((try refine aw ?_);(conv=>arg 4;whnf);first | refine az ?_ |(refine sN ?_;intro b)|(refine sC ?_ ?_<;>intro h)|(refine au ?_ ?_<;>intro h<;>try contradiction)|(refine aa ?_;intro g c')| refine ae ?_ | refine ai ?_ | exact ax |(refine aj rfl ?_;intro D lL)| refine af ?_ ?_ | refine ah ?_ ?_ ?_ | fail));(all_goals refine av ?_)
 refine aD () True.intro ?_ (am _)
 rw [←hg];rfl
theorem Bt {l:List VN} {c:List UInt8} (hl:sw l=some c) (hb:c.length≤65536):Zp Tryz.prog 82 [.pointer (vptr l)] [] [Vm l] Sv (fun x=>Svp x c.length) (fun x=> .tuple #[.slice x.1 x.2.1 x.2.2,vI 0]) (fun _=> []) (fun x=> [Sl cB x.1 x.2.1 x.2.2 c]):=by
 refine ak fun G=> ?_
 cases l with
 | nil=>cases hl
 | cons v l=>
  have hv:v.th=true∧v.b=c:=by
   simp only [sw] at hl
   split at hl
   ·rename_i h;simp only [Option.some.injEq] at hl;exact ⟨h,hl⟩
   ·cases hl
  obtain ⟨hv1,rfl⟩:=hv
  simp only [vptr]
  refine aR (Bk v.blk (bU (vcel v l))) (fun w _ h=>(h _ (.head _)).1) ?_
  refine aR (Sl cB v.sb.1 v.sb.2.1 v.sb.2.2 v.b) (fun w _ h=>(h (Vm (v::l)) (by simp)).2.1) ?_
  obtain ⟨blk,sb,th,b⟩:=v
  dsimp only at hv1 hb⊢
  subst hv1
  (repeat' ((try refine aw ?_);(conv=>arg 4;whnf);first | refine az ?_ |(refine sN ?_;intro b)|(refine sC ?_ ?_<;>intro h)|(refine au ?_ ?_<;>intro h<;>try contradiction)|(refine aa ?_;intro g c')|(refine cw (Ey hb) ?_;intro x hx;refine bV ?_)| refine ae ?_ | refine ai ?_ | exact ax |(refine aj rfl ?_;intro D lL)| refine af ?_ ?_ | refine ah ?_ ?_ ?_ | fail));(all_goals refine av ?_)
  refine je 0 ?_
  exact aD ((x.1,x.2.1,x.2.1):Sv) (by refine ⟨?_, ?_, ?_⟩<;>dsimp only<;>omega) rfl (am _) bu
theorem F1 {l:List VN} (hl:sw l=none):Zp Tryz.prog 82 [.pointer (vptr l)] [] [Vm l] Unit (fun _=>True) (fun x=> .tuple #[.slice none 0 0,vI 11]) (fun _=> []) (fun x=> []):=by
 refine ak fun G=> ?_
 cases l with
 | nil=>
  simp only [vptr]
  (repeat' ((try refine aw ?_);(conv=>arg 4;whnf);first | refine az ?_ |(refine sN ?_;intro b)|(refine sC ?_ ?_<;>intro h)|(refine au ?_ ?_<;>intro h<;>try contradiction)|(refine aa ?_;intro g c')| refine ae ?_ | refine ai ?_ | exact ax |(refine aj rfl ?_;intro D lL)| refine af ?_ ?_ | refine ah ?_ ?_ ?_ | fail));(all_goals refine av ?_)
 | cons v l=>
  have hv:v.th=false:=by
   simp only [sw] at hl
   split at hl
   ·cases hl
   ·rename_i h;simpa using h
  simp only [vptr]
  refine aR (Bk v.blk (bU (vcel v l))) (fun w _ h=>(h _ (.head _)).1) ?_
  obtain ⟨blk,sb,th,b⟩:=v
  dsimp only at hv⊢
  subst hv
  (repeat' ((try refine aw ?_);(conv=>arg 4;whnf);first | refine az ?_ |(refine sN ?_;intro b)|(refine sC ?_ ?_<;>intro h)|(refine au ?_ ?_<;>intro h<;>try contradiction)|(refine aa ?_;intro g c')| refine ae ?_ | refine ai ?_ | exact ax |(refine aj rfl ?_;intro D lL)| refine af ?_ ?_ | refine ah ?_ ?_ ?_ | fail));(all_goals refine av ?_)
end Go.Proofs.YtbobhnldhpjdlaaGreatDoor
namespace Go.Proofs.YtbobhnldhpjdlaaGreatDoor
open Go Go.RowKit Go.Cs Go.Cz
set_option maxRecDepth 100000
set_option maxHeartbeats 1000000
theorem FX {q:Option Addr} {l:List VN} (hq:q=vptr l) (hb:l.length≤1099511627776):Zp Tryz.prog 80 [.pointer q] [] [Vm l] Unit (fun _=>True) (fun _=>vI l.length) (fun _=> []) (fun _=> []):=by
 subst hq;exact Av hb
theorem zw {d:SDsk} {I:DI} {s:Nat} {th:Bool} {a:Option Addr} {n c:Nat} {l:List UInt8} (hI:I.Ok) (hs:s<I.size) (hch:d.changes≤1099511627776) (hvl:(I.vs.getD s []).length≤1099511627776):Zp Tryz.prog 110 [vA (aJ d),vI s, .bool th, .slice a n c] [] [Dm d I,Sl cB a n c l] (SDsk×Nat×Nat) (fun x=>x.1.size=d.size∧x.1.changes=d.changes+1) (fun x=>vA (aJ x.1)) (fun _=> []) (fun x=> [Dm x.1 (I.put s x.2.1 ⟨x.2.2,(a,n,c),th,l⟩)]):=by
 obtain ⟨sz,chg,ca,cn,cc⟩:=d
 refine ak fun G=> ?_
 have h1:=hI.s2
 have hcl:=hI.cl
 have hk:s/64<I.ch.length:=by omega
 have hc:=DI.ch_get hI hs
 have hg:=DI.cs_get hI hs
 have hl:=DI.cs_len hI hk
 refine f5 (p:=sz=I.size) (fun w _ h=>(h _ (.head _)).1) fun hd=> ?_
 refine aR (Vm (I.vs.getD s [])) (fun w _ h=>(h (Dm ⟨sz,chg,ca,cn,cc⟩ I) (by simp)).2.2.2 _) ?_
 refine aR (Bk (I.ch.getD (s/64) 0) ((I.cs (s/64)).flatMap cP)) (fun w _ h=>(h (Dm ⟨sz,chg,ca,cn,cc⟩ I) (by simp)).2.2.1 _ hk) ?_
 refine aR (Sl cP ca cn cc (I.ch.map ja)) (fun w _ h=>(h (Dm ⟨sz,chg,ca,cn,cc⟩ I) (by simp)).2.1) ?_
 refine aS 0 ?_
 intro hn hcc hm ha
 rw [List.length_map] at hn
 obtain ⟨b,o,hbo⟩:=ha (by omega) (by decide)
 subst hbo
 dsimp only at hch
 (repeat' ((try refine aw ?_);(conv=>arg 4;whnf);first | refine az ?_ |(refine sN ?_;intro b)|(refine sC ?_ ?_<;>intro h)|(refine au ?_ ?_<;>intro h<;>try contradiction)|(refine aa ?_;intro g c')|(refine aA (FX hg hvl) ?_;intro x hx;refine aH ?_)| refine ae ?_ | refine ai ?_ | exact ax |(refine aj rfl ?_;intro D lL)| refine af ?_ ?_ | refine ah ?_ ?_ ?_ | fail));(all_goals refine av ?_)
 rename_i ba bx bd cb vb
 refine G8 (Dm ⟨sz,chg+1,(some ⟨b,0,none⟩,cn,cn)⟩ (I.put s cb ⟨vb,(a,n,c),th,l⟩)) ?_ ?_
 ·intro w h1 h2
  refine Dm.put hI hs (h2 (Dm ⟨sz,chg,(some ⟨ba,o,none⟩,cn,cc)⟩ I) (by simp)) rfl ?_ (GA (e:=366) h1 (by simp [ja])) (by rw [←hg];exact GA (e:=226) h1 (by simp)) (h2 _ (by simp))
  have h3:=GA (e:=351) (b:=b) h1 (.tail _ (.head _))
  rw [Nat.min_self,List.take_of_length_le (by rw [List.length_map];omega)] at h3
  exact rk h3 (by simp;omega) (Nat.le_refl _) (by dsimp only;omega)
 ·exact aD ((⟨sz,chg+1,(some ⟨b,0,none⟩,cn,cn)⟩,cb,vb):SDsk×Nat×Nat) ⟨rfl,rfl⟩ rfl (am _) bu
theorem uJ {d:SDsk} {I:DI} {s:Nat} {a:Option Addr} {n c:Nat} {l:List UInt8} (hI:I.Ok) (hs:s<I.size) (hch:d.changes≤1099511627776) (hvl:(I.vs.getD s []).length≤1099511627776) (hll:l.length≤256):Zp Tryz.prog 24 [vA (aJ d),vI s, .slice a n c] [] [Dm d I,Sl cB a n c l] (SDsk×Nat×Nat×Sv) (fun x=>x.1.size=d.size∧x.1.changes=d.changes+1) (fun x=> .tuple #[vA (aJ x.1),vI 0]) (fun _=> []) (fun x=> [Dm x.1 (I.put s x.2.1 ⟨x.2.2.1,x.2.2.2,true,l⟩)]):=by
 refine ak fun G=> ?_
 have hb:l.length≤65536:=by omega
 refine aS 1 ?_
 intro hn hc hm ha
 (repeat' ((try refine aw ?_);(conv=>arg 4;whnf);first | refine az ?_ |(refine sN ?_;intro b)|(refine sC ?_ ?_<;>intro h)|(refine au ?_ ?_<;>intro h<;>try contradiction)|(refine aa ?_;intro g c')|(refine aA (oe hI hs) ?_;intro x hx;refine aH ?_)|((first | refine cw (Ey hb) ?_ | refine cw (zw (l:=l) hI hs hch hvl) ?_);intro x hx;refine bV ?_)| refine ae ?_ | refine ai ?_ | exact ax |(refine aj rfl ?_;intro D lL)| refine af ?_ ?_ | refine ah ?_ ?_ ?_ | fail));(all_goals refine av ?_)
 rename_i y _
 exact aD ((x.1,x.2.1,x.2.2,y):SDsk×Nat×Nat×Sv) hx rfl (am _) bu
theorem Mz {d:SDsk} {I:DI} {s:Nat} (hI:I.Ok) (hs:s<I.size) (hch:d.changes≤1099511627776) (hvl:(I.vs.getD s []).length≤1099511627776):Zp Tryz.prog 25 [vA (aJ d),vI s] [] [Dm d I] (SDsk×Nat×Nat) (fun x=>x.1.size=d.size∧x.1.changes=d.changes+1) (fun x=> .tuple #[vA (aJ x.1),vI 0]) (fun _=> []) (fun x=> [Dm x.1 (I.put s x.2.1 ⟨x.2.2,(none,0,0),false, []⟩)]):=by
 refine ak fun G=> ?_
 (repeat' ((try refine aw ?_);(conv=>arg 4;whnf);first | refine az ?_ |(refine sN ?_;intro b)|(refine sC ?_ ?_<;>intro h)|(refine au ?_ ?_<;>intro h<;>try contradiction)|(refine aa ?_;intro g c')|(refine aA (oe hI hs) ?_;intro x hx;refine aH ?_)|(refine cw (zw (l:= []) hI hs hch hvl) ?_;intro x hx;refine bV ?_)| refine ae ?_ | refine ai ?_ | exact ax |(refine aj rfl ?_;intro D lL)| refine af ?_ ?_ | refine ah ?_ ?_ ?_ | fail));(all_goals refine av ?_)
 exact aD x hx rfl (am _) bu
theorem Ma {d:SDsk} {I:DI} {s:Nat} (hI:I.Ok) (hs:s<I.size) (hvl:(I.vs.getD s []).length≤1099511627776):Zp Tryz.prog 26 [vA (aJ d),vI s] [] [Dm d I] Unit (fun _=>True) (fun _=> .tuple #[vI (I.vs.getD s []).length,vI 0]) (fun _=> []) (fun x=> []):=by
 refine ak fun G=> ?_
 refine aR (Vm (I.vs.getD s [])) (fun w _ h=>(h (Dm d I) (by simp)).2.2.2 _) ?_
 (repeat' ((try refine aw ?_);(conv=>arg 4;whnf);first | refine az ?_ |(refine sN ?_;intro b)|(refine sC ?_ ?_<;>intro h)|(refine au ?_ ?_<;>intro h<;>try contradiction)|(refine aa ?_;intro g c')|((first | refine aA (oe hI hs) ?_ | refine aA (Av hvl) ?_);intro x hx;refine aH ?_)| refine ae ?_ | refine ai ?_ | exact ax |(refine aj rfl ?_;intro D lL)| refine af ?_ ?_ | refine ah ?_ ?_ ?_ | fail));(all_goals refine av ?_)
theorem oW {d:SDsk} {I:DI} {s:Nat} {l:List UInt8} (hI:I.Ok) (hs:s<I.size) (hl:I.pv s=some l) (hb:l.length≤65536):Zp Tryz.prog 16 [vA (aJ d),vI s] [] [Dm d I] Sv (fun x=>Svp x l.length) (fun x=> .tuple #[.slice x.1 x.2.1 x.2.2,vI 0]) (fun _=> []) (fun x=> [Sl cB x.1 x.2.1 x.2.2 l]):=by
 refine ak fun G=> ?_
 refine aR (Vm (I.vs.getD s [])) (fun w _ h=>(h (Dm d I) (by simp)).2.2.2 _) ?_
 (repeat' ((try refine aw ?_);(conv=>arg 4;whnf);first | refine az ?_ |(refine sN ?_;intro b)|(refine sC ?_ ?_<;>intro h)|(refine au ?_ ?_<;>intro h<;>try contradiction)|(refine aa ?_;intro g c')|(refine aA (oe hI hs) ?_;intro x hx;refine aH ?_)|(refine cw (Bt hl hb) ?_;intro x hx;refine bV ?_)| refine ae ?_ | refine ai ?_ | exact ax |(refine aj rfl ?_;intro D lL)| refine af ?_ ?_ | refine ah ?_ ?_ ?_ | fail));(all_goals refine av ?_)
 exact aD x hx rfl (am _) bu
theorem LM {d:SDsk} {I:DI} {s:Nat} (hI:I.Ok) (hs:s<I.size) (hl:I.pv s=none):Zp Tryz.prog 16 [vA (aJ d),vI s] [] [Dm d I] Unit (fun _=>True) (fun x=> .tuple #[.slice none 0 0,vI 11]) (fun _=> []) (fun x=> []):=by
 refine ak fun G=> ?_
 refine aR (Vm (I.vs.getD s [])) (fun w _ h=>(h (Dm d I) (by simp)).2.2.2 _) ?_
 (repeat' ((try refine aw ?_);(conv=>arg 4;whnf);first | refine az ?_ |(refine sN ?_;intro b)|(refine sC ?_ ?_<;>intro h)|(refine au ?_ ?_<;>intro h<;>try contradiction)|(refine aa ?_;intro g c')|((first | refine aA (oe hI hs) ?_ | refine aA (F1 hl) ?_);intro x hx;refine aH ?_)| refine ae ?_ | refine ai ?_ | exact ax |(refine aj rfl ?_;intro D lL)| refine af ?_ ?_ | refine ah ?_ ?_ ?_ | fail));(all_goals refine av ?_)
theorem LY {d:SDsk} {I:DI} {s k:Nat} {l:List UInt8} (hI:I.Ok) (hs:s<I.size) (hvl:(I.vs.getD s []).length≤1099511627776) (hk:k≤(I.vs.getD s []).length) (hl:sw ((I.vs.getD s []).drop ((I.vs.getD s []).length-k))=some l) (hb:l.length≤65536):Zp Tryz.prog 15 [vA (aJ d),vI s,vI k] [] [Dm d I] Sv (fun x=>Svp x l.length) (fun x=> .tuple #[.slice x.1 x.2.1 x.2.2,vI 0]) (fun _=> []) (fun x=> [Sl cB x.1 x.2.1 x.2.2 l]):=by
 refine ak fun G=> ?_
 refine aR (Vm (I.vs.getD s [])) (fun w _ h=>(h (Dm d I) (by simp)).2.2.2 _) ?_
 refine aR (Vm ((I.vs.getD s []).drop ((I.vs.getD s []).length-k))) (fun w _ h=>Vm.drop _ (h (Vm (I.vs.getD s [])) (by simp))) ?_
 (repeat' ((try refine aw ?_);(conv=>arg 4;whnf);first | refine az ?_ |(refine sN ?_;intro b)|(refine sC ?_ ?_<;>intro h)|(refine au ?_ ?_<;>intro h<;>try contradiction)|(refine aa ?_;intro g c')|((first | refine aA (oe hI hs) ?_ | refine aA (Av hvl) ?_ | refine aA (JA (l:=I.vs.getD s []) hvl (by omega)) ?_);intro x hx;refine aH ?_)|(refine cw (Bt hl hb) ?_;intro x hx;refine bV ?_)| refine ae ?_ | refine ai ?_ | exact ax |(refine aj rfl ?_;intro D lL)| refine af ?_ ?_ | refine ah ?_ ?_ ?_ | fail));(all_goals refine av ?_)
 exact aD x hx rfl (am _) bu
theorem HM {d:SDsk}:Zp Tryz.prog 41 [vA (aJ d)] [] [] Unit (fun _=>True) (fun _=>vI d.size) (fun _=> []) (fun x=> []):=by
 refine ak fun G=> ?_
 (repeat' ((try refine aw ?_);(conv=>arg 4;whnf);first | refine az ?_ |(refine sN ?_;intro b)|(refine sC ?_ ?_<;>intro h)|(refine au ?_ ?_<;>intro h<;>try contradiction)|(refine aa ?_;intro g c')| refine ae ?_ | refine ai ?_ | exact ax |(refine aj rfl ?_;intro D lL)| refine af ?_ ?_ | refine ah ?_ ?_ ?_ | fail));(all_goals refine av ?_)
end Go.Proofs.YtbobhnldhpjdlaaGreatDoor
