/- Lemmas and walks: what each function does, by its own code. No condition beyond those of each statement. -/
import Derived.Test.YtbobhnldhpjdlaaGreatDoorP10
import Derived.Test.YtbobhnldhpjdlaaGreatDoorP13
set_option linter.all false
set_option linter.unusedVariables false
namespace Go.Proofs.YtbobhnldhpjdlaaGreatDoor
open Go Go.RowKit Go.Cs Go.Cz
set_option maxRecDepth 100000
set_option maxHeartbeats 2000000
theorem EO {a:Option Addr} {n c:Nat} {l:List UInt8} (hb:l.length≤65536):Zp Tryz.prog 111 [.slice a n c] [] [Sl cB a n c l] Sv (fun x=>Svp x l.length) (fun x=> .slice x.1 x.2.1 x.2.2) (fun _=> []) (fun x=> [Sl cB x.1 x.2.1 x.2.2 l]):=by
 refine an fun G=> ?_
 refine bc 0 ?_
 intro hn hc hm ha
 cases a with
 | none=>
  refine gM (p:=n=0∧c=0) (fun w _ h=>(h _ (.head _)).2.imp_right (fun h=>h.1)) fun h0=> ?_
  obtain ⟨rfl,rfl⟩:=h0
  (repeat' ((try refine au ?_);(conv=>arg 4;whnf);first | refine ax ?_ |(refine sN ?_;intro b)|(refine sC ?_ ?_<;>intro h)|(refine ar ?_ ?_<;>intro h<;>try contradiction)|(refine aa ?_;intro g c')| refine ae ?_ | refine ai ?_ | exact aw |(refine ak rfl ?_;intro D lL)| refine ah ?_ ?_ | refine aj ?_ ?_ ?_ | fail));(all_goals refine av ?_)
  exact aG ((none,0,0):Sv) ⟨hn,Nat.le_refl _,by decide⟩ rfl (af _) (fun _ h=>h)
 | some ad=>
  by_cases h:0<n
  ·obtain ⟨b,o,hbo⟩:=ha h (by decide)
   cases hbo
   (repeat' ((try refine au ?_);(conv=>arg 4;whnf);first | refine ax ?_ |(refine sN ?_;intro b)|(refine sC ?_ ?_<;>intro h)|(refine ar ?_ ?_<;>intro h<;>try contradiction)|(refine aa ?_;intro g c')| refine ae ?_ | refine ai ?_ | exact aw |(refine ak rfl ?_;intro D lL)| refine ah ?_ ?_ | refine aj ?_ ?_ ?_ | fail));(all_goals refine av ?_)
   refine ic (m:=1) (e:=5) cB (some ⟨g,0,none⟩) (0+n) c' ?_
   refine bc 0 ?_
   intro hn2 hc2 hm2 _
   exact aG ((some ⟨g,0,none⟩,0+n,c'):Sv) ⟨by dsimp only;omega,hc2,hm2⟩ rfl (af _) (fun _ h=>by simp at h;subst h;simp)
  ·obtain rfl:n=0:=by omega
   have hl:l= []:=List.eq_nil_of_length_eq_zero hn.symm
   subst hl
   (repeat' ((try refine au ?_);(conv=>arg 4;whnf);first | refine ax ?_ |(refine sN ?_;intro b)|(refine sC ?_ ?_<;>intro h)|(refine ar ?_ ?_<;>intro h<;>try contradiction)|(refine aa ?_;intro g c')| refine ae ?_ | refine ai ?_ | exact aw |(refine ak rfl ?_;intro D lL)| refine ah ?_ ?_ | refine aj ?_ ?_ ?_ | fail));(all_goals refine av ?_)
   refine gh b 0 0 (K:=cB) (l:= []) ?_
   exact aG ((some ⟨b,0,none⟩,0,0):Sv) ⟨rfl,Nat.le_refl _,Nat.zero_le _⟩ rfl (af _) (fun _ h=>by simp at h;subst h;simp)
theorem zR {l:List VN} (hb:l.length≤1099511627776):Zp Tryz.prog 80 [.pointer (vptr l)] [] [Vm l] Unit (fun _=>True) (fun _=>vI l.length) (fun _=> []) (fun _=> []):=by
 refine an fun G=> ?_
 cases l with
 | nil=>
  simp only [vptr]
  (repeat' ((try refine au ?_);(conv=>arg 4;whnf);first | refine ax ?_ |(refine sN ?_;intro b)|(refine sC ?_ ?_<;>intro h)|(refine ar ?_ ?_<;>intro h<;>try contradiction)|(refine aa ?_;intro g c')| refine ae ?_ | refine ai ?_ | exact aw |(refine ak rfl ?_;intro D lL)| refine ah ?_ ?_ | refine aj ?_ ?_ ?_ | fail));(all_goals refine av ?_)
 | cons v l=>
  simp only [vptr]
  refine bq (Bk v.blk (cH (vcel v l))) (fun w _ h=>(h _ (.head _)).1) ?_
  (repeat' ((try refine au ?_);(conv=>arg 4;whnf);first | refine ax ?_ |(refine sN ?_;intro b)|(refine sC ?_ ?_<;>intro h)|(refine ar ?_ ?_<;>intro h<;>try contradiction)|(refine aa ?_;intro g c')| refine ae ?_ | refine ai ?_ | exact aw |(refine ak rfl ?_;intro D lL)| refine ah ?_ ?_ | refine aj ?_ ?_ ?_ | fail));(all_goals refine av ?_)
theorem HW {l:List VN} {k:Nat} (hb:l.length≤1099511627776) (hk:k≤l.length):Zp Tryz.prog 81 [.pointer (vptr l),vI k] [] [Vm l] Unit (fun _=>True) (fun _=> .pointer (vptr (l.drop k))) (fun _=> []) (fun _=> []):=by
 refine an fun G=> ?_
 (repeat' ((try refine au ?_);(conv=>arg 4;whnf);first | refine ax ?_ |(refine sN ?_;intro b)|(refine sC ?_ ?_<;>intro h)|(refine ar ?_ ?_<;>intro h<;>try contradiction)|(refine aa ?_;intro g c')| refine ae ?_ | refine ai ?_ | exact aw |(refine ak rfl ?_;intro D lL)| refine ah ?_ ?_ | refine aj ?_ ?_ ?_ | fail));(all_goals refine av ?_)
 refine dC (X:=Nat) (fun i=> [(0, .pointer (vptr (l.drop i))),(1,vI (k-i))]) (fun i=>i≤k) (fun i=> []) (fun i=>k-i) 0 (Nat.zero_le _) rfl (am _) ?_
 intro i hi
 by_cases h:i<k
 ·obtain ⟨v,r,hr⟩:∃v r,l.drop i=v::r:=⟨l[i],l.drop (i+1),List.drop_eq_getElem_cons (by omega)⟩
  have hr2:l.drop (i+1)=r:=by rw [←List.drop_drop,hr];rfl
  have hp:vptr (l.drop i)=some ⟨v.blk,0,none⟩:=by rw [hr];rfl
  refine bq (Bk v.blk (cH (vcel v r))) (fun w _ h=>by have h2:=Vm.drop i (h _ (.head _));rw [hr] at h2;exact h2.1) ?_
  rw [hp]
  (repeat' ((try refine au ?_);(conv=>arg 4;whnf);first | refine ax ?_ |(refine sN ?_;intro b)|(refine sC ?_ ?_<;>intro h)|(refine ar ?_ ?_<;>intro h<;>try contradiction)|(refine aa ?_;intro g c')| refine ae ?_ | refine ai ?_ | exact aw |(refine ak rfl ?_;intro D lL)| refine ah ?_ ?_ | refine aj ?_ ?_ ?_ | fail));(all_goals refine av ?_)
  refine bj (i+1) ?_ ?_ (am _) ?_
  ·rw [hr2,Nat.sub_add_eq];rfl
  ·omega
  ·omega
 ·have hi':i=k:=by omega
  subst hi'
  (repeat' ((try refine au ?_);(conv=>arg 4;whnf);first | refine ax ?_ |(refine sN ?_;intro b)|(refine sC ?_ ?_<;>intro h)|(refine ar ?_ ?_<;>intro h<;>try contradiction)|(refine aa ?_;intro g c')| refine ae ?_ | refine ai ?_ | exact aw |(refine ak rfl ?_;intro D lL)| refine ah ?_ ?_ | refine aj ?_ ?_ ?_ | fail));(all_goals refine av ?_)
theorem nR {d:SDsk} {I:DI} {s:Nat} (hI:I.Ok) (hs:s<I.size):Zp Tryz.prog 79 [vA (aJ d),vI s] [] [Dm d I] Unit (fun _=>True) (fun _=> .tuple #[.pointer (vptr (I.vs.getD s [])),vI 0]) (fun _=> []) (fun _=> []):=by
 refine an fun G=> ?_
 have h1:=hI.s2
 have hcl:=hI.cl
 have hk:s/64<I.ch.length:=by omega
 have hc:=DI.ch_get hI hs
 have hg:=DI.cs_get hI hs
 have hl:=DI.cs_len hI hk
 refine gM (p:=d.size=I.size) (fun w _ h=>(h _ (.head _)).1) fun hd=> ?_
 refine bq (Bk (I.ch.getD (s/64) 0) ((I.cs (s/64)).flatMap cP)) (fun w _ h=>(h (Dm d I) (by simp)).2.2.1 _ hk) ?_
 refine bq (Sl cP d.chunks.1 d.chunks.2.1 d.chunks.2.2 (I.ch.map jl)) (fun w _ h=>(h (Dm d I) (by simp)).2.1) ?_
 refine bc 0 ?_
 intro hn hcc hm ha
 rw [List.length_map] at hn
 obtain ⟨b,o,hbo⟩:=ha (by omega) (by decide)
 rw [hbo]
 (repeat' ((try refine au ?_);(conv=>arg 4;whnf);first | refine ax ?_ |(refine sN ?_;intro b)|(refine sC ?_ ?_<;>intro h)|(refine ar ?_ ?_<;>intro h<;>try contradiction)|(refine aa ?_;intro g c')| refine ae ?_ | refine ai ?_ | exact aw |(refine ak rfl ?_;intro D lL)| refine ah ?_ ?_ | refine aj ?_ ?_ ?_ | fail));(all_goals refine av ?_)
 refine aG () True.intro ?_ (af _)
 rw [←hg];rfl
theorem Bw {l:List VN} {c:List UInt8} (hl:s7 l=some c) (hb:c.length≤65536):Zp Tryz.prog 82 [.pointer (vptr l)] [] [Vm l] Sv (fun x=>Svp x c.length) (fun x=> .tuple #[.slice x.1 x.2.1 x.2.2,vI 0]) (fun _=> []) (fun x=> [Sl cB x.1 x.2.1 x.2.2 c]):=by
 refine an fun G=> ?_
 cases l with
 | nil=>cases hl
 | cons v l=>
  have hv:v.th=true∧v.b=c:=by
   simp only [s7] at hl
   split at hl
   ·rename_i h;simp only [Option.some.injEq] at hl;exact ⟨h,hl⟩
   ·cases hl
  obtain ⟨hv1,rfl⟩:=hv
  simp only [vptr]
  refine bq (Bk v.blk (cH (vcel v l))) (fun w _ h=>(h _ (.head _)).1) ?_
  refine bq (Sl cB v.sb.1 v.sb.2.1 v.sb.2.2 v.b) (fun w _ h=>(h (Vm (v::l)) (by simp)).2.1) ?_
  obtain ⟨blk,sb,th,b⟩:=v
  dsimp only at hv1 hb⊢
  subst hv1
  (repeat' ((try refine au ?_);(conv=>arg 4;whnf);first | refine ax ?_ |(refine sN ?_;intro b)|(refine sC ?_ ?_<;>intro h)|(refine ar ?_ ?_<;>intro h<;>try contradiction)|(refine aa ?_;intro g c')|(refine dD (EO hb) ?_;intro x hx;refine c9 ?_)| refine ae ?_ | refine ai ?_ | exact aw |(refine ak rfl ?_;intro D lL)| refine ah ?_ ?_ | refine aj ?_ ?_ ?_ | fail));(all_goals refine av ?_)
  refine kg 0 ?_
  exact aG ((x.1,x.2.1,x.2.1):Sv) (by refine ⟨?_, ?_, ?_⟩<;>dsimp only<;>omega) rfl (af _) cR
theorem Gt {l:List VN} (hl:s7 l=none):Zp Tryz.prog 82 [.pointer (vptr l)] [] [Vm l] Unit (fun _=>True) (fun x=> .tuple #[.slice none 0 0,vI 11]) (fun _=> []) (fun x=> []):=by
 refine an fun G=> ?_
 cases l with
 | nil=>
  simp only [vptr]
  (repeat' ((try refine au ?_);(conv=>arg 4;whnf);first | refine ax ?_ |(refine sN ?_;intro b)|(refine sC ?_ ?_<;>intro h)|(refine ar ?_ ?_<;>intro h<;>try contradiction)|(refine aa ?_;intro g c')| refine ae ?_ | refine ai ?_ | exact aw |(refine ak rfl ?_;intro D lL)| refine ah ?_ ?_ | refine aj ?_ ?_ ?_ | fail));(all_goals refine av ?_)
 | cons v l=>
  have hv:v.th=false:=by
   simp only [s7] at hl
   split at hl
   ·cases hl
   ·rename_i h;simpa using h
  simp only [vptr]
  refine bq (Bk v.blk (cH (vcel v l))) (fun w _ h=>(h _ (.head _)).1) ?_
  obtain ⟨blk,sb,th,b⟩:=v
  dsimp only at hv⊢
  subst hv
  (repeat' ((try refine au ?_);(conv=>arg 4;whnf);first | refine ax ?_ |(refine sN ?_;intro b)|(refine sC ?_ ?_<;>intro h)|(refine ar ?_ ?_<;>intro h<;>try contradiction)|(refine aa ?_;intro g c')| refine ae ?_ | refine ai ?_ | exact aw |(refine ak rfl ?_;intro D lL)| refine ah ?_ ?_ | refine aj ?_ ?_ ?_ | fail));(all_goals refine av ?_)
end Go.Proofs.YtbobhnldhpjdlaaGreatDoor
namespace Go.Proofs.YtbobhnldhpjdlaaGreatDoor
open Go Go.RowKit Go.Cs Go.Cz
set_option maxRecDepth 100000
set_option maxHeartbeats 1000000
theorem Ff {q:Option Addr} {l:List VN} (hq:q=vptr l) (hb:l.length≤1099511627776):Zp Tryz.prog 80 [.pointer q] [] [Vm l] Unit (fun _=>True) (fun _=>vI l.length) (fun _=> []) (fun _=> []):=by
 subst hq;exact zR hb
theorem AX {d:SDsk} {I:DI} {s:Nat} {th:Bool} {a:Option Addr} {n c:Nat} {l:List UInt8} (hI:I.Ok) (hs:s<I.size) (hch:d.changes≤1099511627776) (hvl:(I.vs.getD s []).length≤1099511627776):Zp Tryz.prog 110 [vA (aJ d),vI s, .bool th, .slice a n c] [] [Dm d I,Sl cB a n c l] (SDsk×Nat×Nat) (fun x=>x.1.size=d.size∧x.1.changes=d.changes+1) (fun x=>vA (aJ x.1)) (fun _=> []) (fun x=> [Dm x.1 (I.put s x.2.1 ⟨x.2.2,(a,n,c),th,l⟩)]):=by
 obtain ⟨sz,chg,ca,cn,cc⟩:=d
 refine an fun G=> ?_
 have h1:=hI.s2
 have hcl:=hI.cl
 have hk:s/64<I.ch.length:=by omega
 have hc:=DI.ch_get hI hs
 have hg:=DI.cs_get hI hs
 have hl:=DI.cs_len hI hk
 refine gM (p:=sz=I.size) (fun w _ h=>(h _ (.head _)).1) fun hd=> ?_
 refine bq (Vm (I.vs.getD s [])) (fun w _ h=>(h (Dm ⟨sz,chg,ca,cn,cc⟩ I) (by simp)).2.2.2 _) ?_
 refine bq (Bk (I.ch.getD (s/64) 0) ((I.cs (s/64)).flatMap cP)) (fun w _ h=>(h (Dm ⟨sz,chg,ca,cn,cc⟩ I) (by simp)).2.2.1 _ hk) ?_
 refine bq (Sl cP ca cn cc (I.ch.map jl)) (fun w _ h=>(h (Dm ⟨sz,chg,ca,cn,cc⟩ I) (by simp)).2.1) ?_
 refine bc 0 ?_
 intro hn hcc hm ha
 rw [List.length_map] at hn
 obtain ⟨b,o,hbo⟩:=ha (by omega) (by decide)
 subst hbo
 dsimp only at hch
 (repeat' ((try refine au ?_);(conv=>arg 4;whnf);first | refine ax ?_ |(refine sN ?_;intro b)|(refine sC ?_ ?_<;>intro h)|(refine ar ?_ ?_<;>intro h<;>try contradiction)|(refine aa ?_;intro g c')|(refine ay (Ff hg hvl) ?_;intro x hx;refine aN ?_)| refine ae ?_ | refine ai ?_ | exact aw |(refine ak rfl ?_;intro D lL)| refine ah ?_ ?_ | refine aj ?_ ?_ ?_ | fail));(all_goals refine av ?_)
 rename_i ba bx bd cb vb
 refine Ge (Dm ⟨sz,chg+1,(some ⟨b,0,none⟩,cn,cn)⟩ (I.put s cb ⟨vb,(a,n,c),th,l⟩)) ?_ ?_
 ·intro w h1 h2
  refine Dm.put hI hs (h2 (Dm ⟨sz,chg,(some ⟨ba,o,none⟩,cn,cc)⟩ I) (by simp)) rfl ?_ (Gj (e:=366) h1 (by simp [jl])) (by rw [←hg];exact Gj (e:=226) h1 (by simp)) (h2 _ (by simp))
  have h3:=Gj (e:=351) (b:=b) h1 (.tail _ (.head _))
  rw [Nat.min_self,List.take_of_length_le (by rw [List.length_map];omega)] at h3
  exact r4 h3 (by simp;omega) (Nat.le_refl _) (by dsimp only;omega)
 ·exact aG ((⟨sz,chg+1,(some ⟨b,0,none⟩,cn,cn)⟩,cb,vb):SDsk×Nat×Nat) ⟨rfl,rfl⟩ rfl (af _) cR
theorem wh {d:SDsk} {I:DI} {s:Nat} {a:Option Addr} {n c:Nat} {l:List UInt8} (hI:I.Ok) (hs:s<I.size) (hch:d.changes≤1099511627776) (hvl:(I.vs.getD s []).length≤1099511627776) (hll:l.length≤256):Zp Tryz.prog 24 [vA (aJ d),vI s, .slice a n c] [] [Dm d I,Sl cB a n c l] (SDsk×Nat×Nat×Sv) (fun x=>x.1.size=d.size∧x.1.changes=d.changes+1) (fun x=> .tuple #[vA (aJ x.1),vI 0]) (fun _=> []) (fun x=> [Dm x.1 (I.put s x.2.1 ⟨x.2.2.1,x.2.2.2,true,l⟩)]):=by
 refine an fun G=> ?_
 have hb:l.length≤65536:=by omega
 refine bc 1 ?_
 intro hn hc hm ha
 (repeat' ((try refine au ?_);(conv=>arg 4;whnf);first | refine ax ?_ |(refine sN ?_;intro b)|(refine sC ?_ ?_<;>intro h)|(refine ar ?_ ?_<;>intro h<;>try contradiction)|(refine aa ?_;intro g c')|(refine ay (nR hI hs) ?_;intro x hx;refine aN ?_)|((first | refine dD (EO hb) ?_ | refine dD (AX (l:=l) hI hs hch hvl) ?_);intro x hx;refine c9 ?_)| refine ae ?_ | refine ai ?_ | exact aw |(refine ak rfl ?_;intro D lL)| refine ah ?_ ?_ | refine aj ?_ ?_ ?_ | fail));(all_goals refine av ?_)
 rename_i y _
 exact aG ((x.1,x.2.1,x.2.2,y):SDsk×Nat×Nat×Sv) hx rfl (af _) cR
theorem LJ {d:SDsk} {I:DI} {s:Nat} (hI:I.Ok) (hs:s<I.size) (hch:d.changes≤1099511627776) (hvl:(I.vs.getD s []).length≤1099511627776):Zp Tryz.prog 25 [vA (aJ d),vI s] [] [Dm d I] (SDsk×Nat×Nat) (fun x=>x.1.size=d.size∧x.1.changes=d.changes+1) (fun x=> .tuple #[vA (aJ x.1),vI 0]) (fun _=> []) (fun x=> [Dm x.1 (I.put s x.2.1 ⟨x.2.2,(none,0,0),false, []⟩)]):=by
 refine an fun G=> ?_
 (repeat' ((try refine au ?_);(conv=>arg 4;whnf);first | refine ax ?_ |(refine sN ?_;intro b)|(refine sC ?_ ?_<;>intro h)|(refine ar ?_ ?_<;>intro h<;>try contradiction)|(refine aa ?_;intro g c')|(refine ay (nR hI hs) ?_;intro x hx;refine aN ?_)|(refine dD (AX (l:= []) hI hs hch hvl) ?_;intro x hx;refine c9 ?_)| refine ae ?_ | refine ai ?_ | exact aw |(refine ak rfl ?_;intro D lL)| refine ah ?_ ?_ | refine aj ?_ ?_ ?_ | fail));(all_goals refine av ?_)
 exact aG x hx rfl (af _) cR
theorem LF {d:SDsk} {I:DI} {s:Nat} (hI:I.Ok) (hs:s<I.size) (hvl:(I.vs.getD s []).length≤1099511627776):Zp Tryz.prog 26 [vA (aJ d),vI s] [] [Dm d I] Unit (fun _=>True) (fun _=> .tuple #[vI (I.vs.getD s []).length,vI 0]) (fun _=> []) (fun x=> []):=by
 refine an fun G=> ?_
 refine bq (Vm (I.vs.getD s [])) (fun w _ h=>(h (Dm d I) (by simp)).2.2.2 _) ?_
 (repeat' ((try refine au ?_);(conv=>arg 4;whnf);first | refine ax ?_ |(refine sN ?_;intro b)|(refine sC ?_ ?_<;>intro h)|(refine ar ?_ ?_<;>intro h<;>try contradiction)|(refine aa ?_;intro g c')|((first | refine ay (nR hI hs) ?_ | refine ay (zR hvl) ?_);intro x hx;refine aN ?_)| refine ae ?_ | refine ai ?_ | exact aw |(refine ak rfl ?_;intro D lL)| refine ah ?_ ?_ | refine aj ?_ ?_ ?_ | fail));(all_goals refine av ?_)
theorem kB {d:SDsk} {I:DI} {s:Nat} {l:List UInt8} (hI:I.Ok) (hs:s<I.size) (hl:I.pv s=some l) (hb:l.length≤65536):Zp Tryz.prog 16 [vA (aJ d),vI s] [] [Dm d I] Sv (fun x=>Svp x l.length) (fun x=> .tuple #[.slice x.1 x.2.1 x.2.2,vI 0]) (fun _=> []) (fun x=> [Sl cB x.1 x.2.1 x.2.2 l]):=by
 refine an fun G=> ?_
 refine bq (Vm (I.vs.getD s [])) (fun w _ h=>(h (Dm d I) (by simp)).2.2.2 _) ?_
 (repeat' ((try refine au ?_);(conv=>arg 4;whnf);first | refine ax ?_ |(refine sN ?_;intro b)|(refine sC ?_ ?_<;>intro h)|(refine ar ?_ ?_<;>intro h<;>try contradiction)|(refine aa ?_;intro g c')|(refine ay (nR hI hs) ?_;intro x hx;refine aN ?_)|(refine dD (Bw hl hb) ?_;intro x hx;refine c9 ?_)| refine ae ?_ | refine ai ?_ | exact aw |(refine ak rfl ?_;intro D lL)| refine ah ?_ ?_ | refine aj ?_ ?_ ?_ | fail));(all_goals refine av ?_)
 exact aG x hx rfl (af _) cR
theorem KT {d:SDsk} {I:DI} {s:Nat} (hI:I.Ok) (hs:s<I.size) (hl:I.pv s=none):Zp Tryz.prog 16 [vA (aJ d),vI s] [] [Dm d I] Unit (fun _=>True) (fun x=> .tuple #[.slice none 0 0,vI 11]) (fun _=> []) (fun x=> []):=by
 refine an fun G=> ?_
 refine bq (Vm (I.vs.getD s [])) (fun w _ h=>(h (Dm d I) (by simp)).2.2.2 _) ?_
 (repeat' ((try refine au ?_);(conv=>arg 4;whnf);first | refine ax ?_ |(refine sN ?_;intro b)|(refine sC ?_ ?_<;>intro h)|(refine ar ?_ ?_<;>intro h<;>try contradiction)|(refine aa ?_;intro g c')|((first | refine ay (nR hI hs) ?_ | refine ay (Gt hl) ?_);intro x hx;refine aN ?_)| refine ae ?_ | refine ai ?_ | exact aw |(refine ak rfl ?_;intro D lL)| refine ah ?_ ?_ | refine aj ?_ ?_ ?_ | fail));(all_goals refine av ?_)
theorem FN {d:SDsk} {I:DI} {s k:Nat} {l:List UInt8} (hI:I.Ok) (hs:s<I.size) (hvl:(I.vs.getD s []).length≤1099511627776) (hk:k≤(I.vs.getD s []).length) (hl:s7 ((I.vs.getD s []).drop ((I.vs.getD s []).length-k))=some l) (hb:l.length≤65536):Zp Tryz.prog 15 [vA (aJ d),vI s,vI k] [] [Dm d I] Sv (fun x=>Svp x l.length) (fun x=> .tuple #[.slice x.1 x.2.1 x.2.2,vI 0]) (fun _=> []) (fun x=> [Sl cB x.1 x.2.1 x.2.2 l]):=by
 refine an fun G=> ?_
 refine bq (Vm (I.vs.getD s [])) (fun w _ h=>(h (Dm d I) (by simp)).2.2.2 _) ?_
 refine bq (Vm ((I.vs.getD s []).drop ((I.vs.getD s []).length-k))) (fun w _ h=>Vm.drop _ (h (Vm (I.vs.getD s [])) (by simp))) ?_
 (repeat' ((try refine au ?_);(conv=>arg 4;whnf);first | refine ax ?_ |(refine sN ?_;intro b)|(refine sC ?_ ?_<;>intro h)|(refine ar ?_ ?_<;>intro h<;>try contradiction)|(refine aa ?_;intro g c')|((first | refine ay (nR hI hs) ?_ | refine ay (zR hvl) ?_ | refine ay (HW (l:=I.vs.getD s []) hvl (by omega)) ?_);intro x hx;refine aN ?_)|(refine dD (Bw hl hb) ?_;intro x hx;refine c9 ?_)| refine ae ?_ | refine ai ?_ | exact aw |(refine ak rfl ?_;intro D lL)| refine ah ?_ ?_ | refine aj ?_ ?_ ?_ | fail));(all_goals refine av ?_)
 exact aG x hx rfl (af _) cR
theorem I3 {d:SDsk}:Zp Tryz.prog 41 [vA (aJ d)] [] [] Unit (fun _=>True) (fun _=>vI d.size) (fun _=> []) (fun x=> []):=by
 refine an fun G=> ?_
 (repeat' ((try refine au ?_);(conv=>arg 4;whnf);first | refine ax ?_ |(refine sN ?_;intro b)|(refine sC ?_ ?_<;>intro h)|(refine ar ?_ ?_<;>intro h<;>try contradiction)|(refine aa ?_;intro g c')| refine ae ?_ | refine ai ?_ | exact aw |(refine ak rfl ?_;intro D lL)| refine ah ?_ ?_ | refine aj ?_ ?_ ?_ | fail));(all_goals refine av ?_)
end Go.Proofs.YtbobhnldhpjdlaaGreatDoor
