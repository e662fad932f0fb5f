/- Lemmas and walks: what each function does, by its own code. No condition beyond those of each statement. -/
import Derived.Test.YtbobhnldhpjdlaaGreatDoorP45
import Derived.Test.YtbobhnldhpjdlaaGreatDoorP47
set_option linter.all false
set_option linter.unusedVariables false
namespace Go.Proofs.YtbobhnldhpjdlaaGreatDoor
open Go Go.RowKit Go.Cs Go.Cz
set_option maxRecDepth 100000
set_option maxHeartbeats 4000000
instance:Mi Tryz.prog 193:=⟨fun v w=>by kernel_rfl⟩
abbrev Ku (a:Addr):Value:= .iface 548 (.pointer (some a))
abbrev qE (a:Addr):Value×Value:=(Ku a,HJ)
theorem Hl:Zp Tryz.prog 71 [vI 0] [] [] Unit (fun _=>True) (fun _=> .nilIface) (fun _=> []) (fun _=> []):=by
 refine an fun G=> ?_
 (repeat' ((try refine au ?_);(conv=>arg 4;whnf);first | refine ax ?_ |(refine sN ?_;intro b)|(refine sC ?_ ?_<;>intro h)|(refine ar ?_ ?_<;>intro h<;>try contradiction)|(refine aa ?_;intro g c')| refine ae ?_ | refine ai ?_ | exact aw |(refine ak rfl ?_;intro D lL)| refine ah ?_ ?_ | refine aj ?_ ?_ ?_ | fail));(all_goals refine av ?_)
theorem LA {e:Nat} (he:e≠0):Zp Tryz.prog 71 [vI e] [] [] Unit (fun _=>True) (fun _=> .iface 193 (vA [vI e, .nilIface])) (fun _=> []) (fun _=> []):=by
 refine an fun G=> ?_
 (repeat' ((try refine au ?_);(conv=>arg 4;whnf);first | refine ax ?_ |(refine sN ?_;intro b)|(refine sC ?_ ?_<;>intro h)|(refine ar ?_ ?_<;>intro h<;>try contradiction)|(refine aa ?_;intro g c')| refine ae ?_ | refine ai ?_ | exact aw |(refine ak rfl ?_;intro D lL)| refine ah ?_ ?_ | refine aj ?_ ?_ ?_ | fail));(all_goals refine av ?_)
 refine nK nV ?_
 (repeat' ((try refine au ?_);(conv=>arg 4;whnf);first | refine ax ?_ |(refine sN ?_;intro b)|(refine sC ?_ ?_<;>intro h)|(refine ar ?_ ?_<;>intro h<;>try contradiction)|(refine aa ?_;intro g c')| refine ae ?_ | refine ai ?_ | exact aw |(refine ak rfl ?_;intro D lL)| refine ah ?_ ?_ | refine aj ?_ ?_ ?_ | fail));(all_goals refine av ?_)
theorem Fw {v u:SSto} {e:Nat} {a:Addr} (hp:v.poisoned=false):Zp Tryz.prog 76 [vA (aA v),vA (aA u), .iface 193 (vA [vI e,Ku a])] [] [Gs (qE a)] Unit (fun _=>True) (fun _=> .tuple #[vA (aA {v with poisoned:=true}),vI e]) (fun _=> []) (fun _=> []):=by
 obtain ⟨v1,v2,v3,v4,v5,v6,v7,v8⟩:=v
 dsimp only at hp
 subst hp
 refine an fun G=> ?_
 (repeat' ((try refine au ?_);(conv=>arg 4;whnf);first | refine ax ?_ |(refine sN ?_;intro b)|(refine sC ?_ ?_<;>intro h)|(refine ar ?_ ?_<;>intro h<;>try contradiction)|(refine aa ?_;intro g c')| refine ae ?_ | refine ai ?_ | exact aw |(refine ak rfl ?_;intro D lL)| refine ah ?_ ?_ | refine aj ?_ ?_ ?_ | fail));(all_goals refine av ?_)
 refine nK nV ?_
 (repeat' ((try refine au ?_);(conv=>arg 4;whnf);first | refine ax ?_ |(refine sN ?_;intro b)|(refine sC ?_ ?_<;>intro h)|(refine ar ?_ ?_<;>intro h<;>try contradiction)|(refine aa ?_;intro g c')|(refine dJ (HI rfl rfl) ?_;intro x hx;refine c9 ?_)|(refine ay (Hm rfl) ?_;intro x hx;refine aN ?_)| refine ae ?_ | refine ai ?_ | exact aw |(refine ak rfl ?_;intro D lL)| refine ah ?_ ?_ | refine aj ?_ ?_ ?_ | fail));(all_goals refine av ?_)
theorem K1 {v u:SSto} {e:Nat} {a:Addr} (hp:v.poisoned=false):Zp Tryz.prog 76 [vA (aA v),vA (aA u), .iface 193 (vA [vI e, .nilIface])] [] [Gs (qE a)] Unit (fun _=>True) (fun _=> .tuple #[vA (aA v),vI e]) (fun _=> []) (fun _=> []):=by
 obtain ⟨v1,v2,v3,v4,v5,v6,v7,v8⟩:=v
 dsimp only at hp
 subst hp
 refine an fun G=> ?_
 (repeat' ((try refine au ?_);(conv=>arg 4;whnf);first | refine ax ?_ |(refine sN ?_;intro b)|(refine sC ?_ ?_<;>intro h)|(refine ar ?_ ?_<;>intro h<;>try contradiction)|(refine aa ?_;intro g c')| refine ae ?_ | refine ai ?_ | exact aw |(refine ak rfl ?_;intro D lL)| refine ah ?_ ?_ | refine aj ?_ ?_ ?_ | fail));(all_goals refine av ?_)
 refine nK nV ?_
 (repeat' ((try refine au ?_);(conv=>arg 4;whnf);first | refine ax ?_ |(refine sN ?_;intro b)|(refine sC ?_ ?_<;>intro h)|(refine ar ?_ ?_<;>intro h<;>try contradiction)|(refine aa ?_;intro g c')|(refine dJ (HI rfl rfl) ?_;intro x hx;refine c9 ?_)|(refine ay (HG rfl) ?_;intro x hx;refine aN ?_)| refine ae ?_ | refine ai ?_ | exact aw |(refine ak rfl ?_;intro D lL)| refine ah ?_ ?_ | refine aj ?_ ?_ ?_ | fail));(all_goals refine av ?_)
theorem vD {v:SSto}:Zp Tryz.prog 21 [vA (aA v)] [] [] Unit (fun _=>True) (fun _=> .bool v.poisoned) (fun _=> []) (fun _=> []):=by
 refine an fun G=> ?_
 (repeat' ((try refine au ?_);(conv=>arg 4;whnf);first | refine ax ?_ |(refine sN ?_;intro b)|(refine sC ?_ ?_<;>intro h)|(refine ar ?_ ?_<;>intro h<;>try contradiction)|(refine aa ?_;intro g c')| refine ae ?_ | refine ai ?_ | exact aw |(refine ak rfl ?_;intro D lL)| refine ah ?_ ?_ | refine aj ?_ ?_ ?_ | fail));(all_goals refine av ?_)
theorem Jr {v:SSto} {d:SDsk} (hn:0<v.n):Zp Tryz.prog 83 [vA (aA v),vA (aJ d),vI 0] [] [] Unit (fun _=>True) (fun _=> .tuple #[vA (aA {v with disk:=d}),vI 0]) (fun _=> []) (fun _=> []):=by
 refine an fun G=> ?_
 (repeat' ((try refine au ?_);(conv=>arg 4;whnf);first | refine ax ?_ |(refine sN ?_;intro b)|(refine sC ?_ ?_<;>intro h)|(refine ar ?_ ?_<;>intro h<;>try contradiction)|(refine aa ?_;intro g c')|((first | refine ay Hl ?_ | refine ay d6 ?_);intro x hx;refine aN ?_)| refine ae ?_ | refine ai ?_ | exact aw |(refine ak rfl ?_;intro D lL)| refine ah ?_ ?_ | refine aj ?_ ?_ ?_ | fail));(all_goals refine av ?_)
theorem Jk {v:SSto} {I:DI} {s:Nat} {a:Option Addr} {n c:Nat} {l:List UInt8} (hn:0<v.n) (hI:I.Ok) (hs:s<I.size) (hch:v.disk.changes≤1099511627776) (hvl:(I.vs.getD s []).length≤1099511627776) (hll:l.length≤256):Zp Tryz.prog 17 [vA (aA v),vI s, .slice a n c] [] [Dm v.disk I,Sl cB a n c l] (SDsk×Nat×Nat×Sv) (fun x=>x.1.size=v.disk.size∧x.1.changes=v.disk.changes+1) (fun x=> .tuple #[vA (aA {v with disk:=x.1}),vI 0]) (fun _=> []) (fun x=> [Dm x.1 (I.put s x.2.1 ⟨x.2.2.1,x.2.2.2,true,l⟩)]):=by
 have hwr:=wh (a:=a) (n:=n) (c:=c) hI hs hch hvl hll
 refine an fun G=> ?_
 (repeat' ((try refine au ?_);(conv=>arg 4;whnf);first | refine ax ?_ |(refine sN ?_;intro b)|(refine sC ?_ ?_<;>intro h)|(refine ar ?_ ?_<;>intro h<;>try contradiction)|(refine aa ?_;intro g c')|(refine dD hwr ?_;intro x hx;refine c9 ?_)| refine ai ?_ | exact aw |(refine ak rfl ?_;intro D lL)| refine ah ?_ ?_ | refine aj ?_ ?_ ?_ | fail));(all_goals refine av ?_)
 revert x;intro xd hxd
 (repeat' ((try refine au ?_);(conv=>arg 4;whnf);first | refine ax ?_ |(refine sN ?_;intro b)|(refine sC ?_ ?_<;>intro h)|(refine ar ?_ ?_<;>intro h<;>try contradiction)|(refine aa ?_;intro g c')|(refine ay (Jr hn) ?_;intro x hx;refine aN ?_)| refine ai ?_ | exact aw |(refine ak rfl ?_;intro D lL)| refine ah ?_ ?_ | refine aj ?_ ?_ ?_ | fail));(all_goals refine av ?_)
 all_goals exact aG xd hxd rfl (af _) cR
end Go.Proofs.YtbobhnldhpjdlaaGreatDoor
namespace Go.Proofs.YtbobhnldhpjdlaaGreatDoor
open Go Go.RowKit Go.Cs Go.Cz
set_option maxRecDepth 100000
set_option maxHeartbeats 4000000
section
variable {p:PS} {M:ML} {T:Nat} {q:Value×Value}
theorem FH (hP:POk p T) {y:Dig} {bi vb ib ob:Nat} (hb:bi<p.n) (hI:M.I.Ok) (hsz:M.I.size=bas p.n (hgt p.n+1)) (hdz:M.d.size=bas p.n (hgt p.n+1)) (hst:(p.L.getD bi Rec.zero).st≠0) (hpv:M.I.pv (2*bi+((p.L.getD bi Rec.zero).st-1))=some y.l) (ht:fA p.k bi (p.L.getD bi Rec.zero).non y=(p.L.getD bi Rec.zero).tag):Zp Tryz.prog 85 [vP vb 0,vP ib 0,vP ob 0] [iB ob (aE Dig.zero) 52] [Bk vb (aA (lA p M)),Bk ib [vI bi],Dm M.d M.I,Sl br (some ⟨M.tb,0,none⟩) (tot p.n) (tot p.n) (treW p.L p.c p.s),Gs q] Unit (fun _=>True) (fun z=> .nilIface) (fun z=> [iB ob (aE (cG p.k (p.L.getD bi Rec.zero).non y)) 52]) (fun z=> []):=by
  have h1:=hP.n1
  have h2:=hP.n2
  have hll:=hP.work.ll
  have hur:=t6 (tb:=M.tb) (to:=0) (m:=tot p.n) (c:=tot p.n) (q:=q) hP.tok hb
  have e:((treW p.L p.c p.s).getD (bi/4) default).nd.rs.l.getD (bi%4) default=p.L.getD bi Rec.zero:=sE hP.work.ok hll hb
  rw [e] at hur
  have hld:=D7 (d:=M.d) (I:=M.I) (q:=q) h1 h2 hb hI hdz hsz (hP.work.ok.m.rc bi (by rw [hll];exact hb)) hst hpv ht
  refine an fun G=> ?_
  (repeat' ((try refine au ?_);(conv=>arg 4;whnf);first | refine cp ?_ |(refine sN ?_;intro b)|(refine sC ?_ ?_<;>intro h)|(refine ar ?_ ?_<;>intro h<;>try contradiction)|(refine aa ?_;intro g c')|((first | refine ay hur ?_ | refine ay hld ?_);intro x hx;refine aN ?_)| refine ae ?_ | refine ai ?_ | exact aw |(refine ak rfl ?_;intro D lL)| refine ah ?_ ?_ | refine aj ?_ ?_ ?_ | fail));(all_goals refine av ?_)
  exact aG () True.intro rfl eG cR
theorem E8 (hP:POk p T) {y:Dig} {a:Addr} {bi vb ib ob:Nat} (hb:bi<p.n) (hI:M.I.Ok) (hsz:M.I.size=bas p.n (hgt p.n+1)) (hdz:M.d.size=bas p.n (hgt p.n+1)) (hst:(p.L.getD bi Rec.zero).st≠0) (hpv:M.I.pv (2*bi+((p.L.getD bi Rec.zero).st-1))=some y.l) (ht:¬fA p.k bi (p.L.getD bi Rec.zero).non y=(p.L.getD bi Rec.zero).tag):Zp Tryz.prog 85 [vP vb 0,vP ib 0,vP ob 0] [iB ob (aE Dig.zero) 52] [Bk vb (aA (lA p M)),Bk ib [vI bi],Dm M.d M.I,Sl br (some ⟨M.tb,0,none⟩) (tot p.n) (tot p.n) (treW p.L p.c p.s),Gs (qE a)] Unit (fun _=>True) (fun z=> .iface 193 (vA [vI 9,Ku a])) (fun z=> [iB ob (aE Dig.zero) 52]) (fun z=> []):=by
  have h1:=hP.n1
  have h2:=hP.n2
  have hll:=hP.work.ll
  have hur:=t6 (tb:=M.tb) (to:=0) (m:=tot p.n) (c:=tot p.n) (q:=qE a) hP.tok hb
  have e:((treW p.L p.c p.s).getD (bi/4) default).nd.rs.l.getD (bi%4) default=p.L.getD bi Rec.zero:=sE hP.work.ok hll hb
  rw [e] at hur
  have hld:=I6 (d:=M.d) (I:=M.I) (q:=qE a) h1 h2 hb hI hdz hsz (hP.work.ok.m.rc bi (by rw [hll];exact hb)) hst hpv ht
  refine an fun G=> ?_
  (repeat' ((try refine au ?_);(conv=>arg 4;whnf);first | refine cp ?_ |(refine sN ?_;intro b)|(refine sC ?_ ?_<;>intro h)|(refine ar ?_ ?_<;>intro h<;>try contradiction)|(refine aa ?_;intro g c')|((first | refine ay hur ?_ | refine ay hld ?_);intro x hx;refine aN ?_)| refine ae ?_ | refine ai ?_ | exact aw |(refine ak rfl ?_;intro D lL)| refine ah ?_ ?_ | refine aj ?_ ?_ ?_ | fail));(all_goals refine av ?_)
  refine nK nV ?_
  (repeat' ((try refine au ?_);(conv=>arg 4;whnf);first | refine ax ?_ |(refine sN ?_;intro b)|(refine sC ?_ ?_<;>intro h)|(refine ar ?_ ?_<;>intro h<;>try contradiction)|(refine aa ?_;intro g c')| refine ae ?_ | refine ai ?_ | exact aw |(refine ak rfl ?_;intro D lL)| refine ah ?_ ?_ | refine aj ?_ ?_ ?_ | fail));(all_goals refine av ?_)
  exact aG () True.intro rfl eG cR
theorem Gm (hP:POk p T) {bi vb ib ob fb:Nat} {o:Dig} (hr2:Zp Tryz.prog 85 [vP vb 0,vP ib 0,vP ob 0] [iB ob (aE Dig.zero) 52] [Bk vb (aA (lA p M)),Bk ib [vI bi],Dm M.d M.I,Sl br (some ⟨M.tb,0,none⟩) (tot p.n) (tot p.n) (treW p.L p.c p.s),Gs q] Unit (fun _=>True) (fun z=> .nilIface) (fun z=> [iB ob (aE o) 52]) (fun z=> [])) (hb:bi<p.n):Zp Tryz.prog 66 [.slice (some ⟨fb,0,none⟩) 3 3] [iB ob (aE Dig.zero) 52] [Bk fb [.func (.func 67) #[vA (aA (lA p M))] #[], .func (.func 84) #[] #[vP vb 0,vP ib 0], .func (.func 85) #[] #[vP vb 0,vP ib 0,vP ob 0]],Bk vb (aA (lA p M)),Bk ib [vI bi],Dm M.d M.I,Sl br (some ⟨M.tb,0,none⟩) (tot p.n) (tot p.n) (treW p.L p.c p.s),Gs q] Unit (fun _=>True) (fun z=> .nilIface) (fun z=> [iB ob (aE o) 52]) (fun z=> []):=by
  have h1:=hP.n1
  refine an fun G=> ?_
  (repeat' ((try refine au ?_);(conv=>arg 4;whnf);first | refine cp ?_ |(refine sN ?_;intro b)|(refine sC ?_ ?_<;>intro h)|(refine ar ?_ ?_<;>intro h<;>try contradiction)|(refine aa ?_;intro g c')| refine ae ?_ | refine ai ?_ | exact aw |(refine ak rfl ?_;intro D lL)| refine ah ?_ ?_ | refine aj ?_ ?_ ?_ | fail));(all_goals refine av ?_)
  refine ji 4 (cM ?_)
  (repeat' ((try refine au ?_);(conv=>arg 4;whnf);first | refine cp ?_ |(refine sN ?_;intro b)|(refine sC ?_ ?_<;>intro h)|(refine ar ?_ ?_<;>intro h<;>try contradiction)|(refine aa ?_;intro g c')|(refine dJ hr2 ?_;intro x hx;refine c9 ?_)| refine ae ?_ | refine ai ?_ | exact aw |(refine ak rfl ?_;intro D lL)| refine ah ?_ ?_ | refine aj ?_ ?_ ?_ | fail));(all_goals refine av ?_)
  refine cM ?_
  (repeat' ((try refine au ?_);(conv=>arg 4;whnf);first | refine cp ?_ |(refine sN ?_;intro b)|(refine sC ?_ ?_<;>intro h)|(refine ar ?_ ?_<;>intro h<;>try contradiction)|(refine aa ?_;intro g c')|(refine dJ hr2 ?_;intro x hx;refine c9 ?_)| refine ae ?_ | refine ai ?_ | exact aw |(refine ak rfl ?_;intro D lL)| refine ah ?_ ?_ | refine aj ?_ ?_ ?_ | fail));(all_goals refine av ?_)
  refine cM ?_
  (repeat' ((try refine au ?_);(conv=>arg 4;whnf);first | refine cp ?_ |(refine sN ?_;intro b)|(refine sC ?_ ?_<;>intro h)|(refine ar ?_ ?_<;>intro h<;>try contradiction)|(refine aa ?_;intro g c')|(refine dJ hr2 ?_;intro x hx;refine c9 ?_)| refine ae ?_ | refine ai ?_ | exact aw |(refine ak rfl ?_;intro D lL)| refine ah ?_ ?_ | refine aj ?_ ?_ ?_ | fail));(all_goals refine av ?_)
  refine cM ?_
  (repeat' ((try refine au ?_);(conv=>arg 4;whnf);first | refine cp ?_ |(refine sN ?_;intro b)|(refine sC ?_ ?_<;>intro h)|(refine ar ?_ ?_<;>intro h<;>try contradiction)|(refine aa ?_;intro g c')|(refine dJ hr2 ?_;intro x hx;refine c9 ?_)| refine ae ?_ | refine ai ?_ | exact aw |(refine ak rfl ?_;intro D lL)| refine ah ?_ ?_ | refine aj ?_ ?_ ?_ | fail));(all_goals refine av ?_)
  exact aG () True.intro rfl eG cR
theorem Fh (hP:POk p T) {bi vb ib ob fb T9:Nat} {o:Dig} {v:Value} (hr2:Zp Tryz.prog 85 [vP vb 0,vP ib 0,vP ob 0] [iB ob (aE Dig.zero) 52] [Bk vb (aA (lA p M)),Bk ib [vI bi],Dm M.d M.I,Sl br (some ⟨M.tb,0,none⟩) (tot p.n) (tot p.n) (treW p.L p.c p.s),Gs q] Unit (fun _=>True) (fun z=> .iface T9 v) (fun z=> [iB ob (aE o) 52]) (fun z=> [])) (hb:bi<p.n):Zp Tryz.prog 66 [.slice (some ⟨fb,0,none⟩) 3 3] [iB ob (aE Dig.zero) 52] [Bk fb [.func (.func 67) #[vA (aA (lA p M))] #[], .func (.func 84) #[] #[vP vb 0,vP ib 0], .func (.func 85) #[] #[vP vb 0,vP ib 0,vP ob 0]],Bk vb (aA (lA p M)),Bk ib [vI bi],Dm M.d M.I,Sl br (some ⟨M.tb,0,none⟩) (tot p.n) (tot p.n) (treW p.L p.c p.s),Gs q] Unit (fun _=>True) (fun z=> .iface T9 v) (fun z=> [iB ob (aE o) 52]) (fun z=> []):=by
  have h1:=hP.n1
  refine an fun G=> ?_
  (repeat' ((try refine au ?_);(conv=>arg 4;whnf);first | refine cp ?_ |(refine sN ?_;intro b)|(refine sC ?_ ?_<;>intro h)|(refine ar ?_ ?_<;>intro h<;>try contradiction)|(refine aa ?_;intro g c')| refine ae ?_ | refine ai ?_ | exact aw |(refine ak rfl ?_;intro D lL)| refine ah ?_ ?_ | refine aj ?_ ?_ ?_ | fail));(all_goals refine av ?_)
  refine ji 4 (cM ?_)
  (repeat' ((try refine au ?_);(conv=>arg 4;whnf);first | refine cp ?_ |(refine sN ?_;intro b)|(refine sC ?_ ?_<;>intro h)|(refine ar ?_ ?_<;>intro h<;>try contradiction)|(refine aa ?_;intro g c')|(refine dJ hr2 ?_;intro x hx;refine c9 ?_)| refine ae ?_ | refine ai ?_ | exact aw |(refine ak rfl ?_;intro D lL)| refine ah ?_ ?_ | refine aj ?_ ?_ ?_ | fail));(all_goals refine av ?_)
  refine cM ?_
  (repeat' ((try refine au ?_);(conv=>arg 4;whnf);first | refine cp ?_ |(refine sN ?_;intro b)|(refine sC ?_ ?_<;>intro h)|(refine ar ?_ ?_<;>intro h<;>try contradiction)|(refine aa ?_;intro g c')|(refine dJ hr2 ?_;intro x hx;refine c9 ?_)| refine ae ?_ | refine ai ?_ | exact aw |(refine ak rfl ?_;intro D lL)| refine ah ?_ ?_ | refine aj ?_ ?_ ?_ | fail));(all_goals refine av ?_)
  refine cM ?_
  (repeat' ((try refine au ?_);(conv=>arg 4;whnf);first | refine cp ?_ |(refine sN ?_;intro b)|(refine sC ?_ ?_<;>intro h)|(refine ar ?_ ?_<;>intro h<;>try contradiction)|(refine aa ?_;intro g c')|(refine dJ hr2 ?_;intro x hx;refine c9 ?_)| refine ae ?_ | refine ai ?_ | exact aw |(refine ak rfl ?_;intro D lL)| refine ah ?_ ?_ | refine aj ?_ ?_ ?_ | fail));(all_goals refine av ?_)
  exact aG () True.intro rfl eG cR
theorem Ep {bi e:Nat} {o:Dig} {v:Value} {u:SSto} (hrf:∀vb ib ob fb:Nat,Zp Tryz.prog 66 [.slice (some ⟨fb,0,none⟩) 3 3] [iB ob (aE Dig.zero) 52] [Bk fb [.func (.func 67) #[vA (aA (lA p M))] #[], .func (.func 84) #[] #[vP vb 0,vP ib 0], .func (.func 85) #[] #[vP vb 0,vP ib 0,vP ob 0]],Bk vb (aA (lA p M)),Bk ib [vI bi],Dm M.d M.I,Sl br (some ⟨M.tb,0,none⟩) (tot p.n) (tot p.n) (treW p.L p.c p.s),Gs q] Unit (fun _=>True) (fun z=>v) (fun z=> [iB ob (aE o) 52]) (fun z=> []))
    (hen:Zp Tryz.prog 76 [vA (aA (lA p M)),vA (aA (lA p M)),v] [] [Gs q] Unit (fun _=>True) (fun _=> .tuple #[vA (aA u),vI e]) (fun _=> []) (fun _=> [])):Zp Tryz.prog 18 [vA (aA (dM p M)),vI bi] [] [Dm M.d M.I,Sl br (some ⟨M.tb,0,none⟩) (tot p.n) (tot p.n) (treW p.L p.c p.s),Gs q] Unit (fun _=>True) (fun z=> .tuple #[vA (aA u),vA (aE o),vI e]) (fun z=> []) (fun z=> []):=by
  rw [show dM p M=lA p M from rfl]
  refine an fun G=> ?_
  (repeat' ((try refine au ?_);(conv=>arg 4;whnf);first | refine cp ?_ |(refine sN ?_;intro b)|(refine sC ?_ ?_<;>intro h)|(refine ar ?_ ?_<;>intro h<;>try contradiction)|(refine aa ?_;intro g c')| refine ae ?_ | refine ai ?_ | exact aw |(refine ak rfl ?_;intro D lL)| refine ah ?_ ?_ | refine aj ?_ ?_ ?_ | fail));(all_goals refine av ?_)
  rename_i vb ib rs rb
  revert b;intro ob
  refine c7 vb ?_
  refine c7 ib ?_
  refine fS (X:=Nat) (fun x=> [(4,vP rs 0),(5,vP rb 0),(7,vP ob 0),(8,vP x 0),(9,vI e)]) (fun _=>True) (fun x=> [iB x (aA u) 48,iB ob (aE o) 52,iB rs (aA SSto.zero) 48,iB rb (aE Dig.zero) 52]) (fun _=> []) ?_ ?_
  · intro K4
    refine fy [ob] rfl ?_
    (repeat' ((try refine au ?_);(conv=>arg 4;whnf);first | refine cp ?_ |(refine sN ?_;intro b)|(refine sC ?_ ?_<;>intro h)|(refine ar ?_ ?_<;>intro h<;>try contradiction)|(refine aa ?_;intro g c')|(refine ay hen ?_;intro x hx;refine aN ?_)| refine ai ?_ | exact aw |(refine ak rfl ?_;intro D lL)| refine ah ?_ ?_ | refine aj ?_ ?_ ?_ | fail));(all_goals refine av ?_)
    all_goals (
      revert b;intro b2
      first
      |(
         refine c7 b2 ?_
         refine dJ (hrf vb ib ob b2) ?_
         intro x hx
         (conv=>arg 2;simp only [List.nil_append,List.cons_append])
         (conv=>arg 3;simp only [List.nil_append,List.cons_append])
         (repeat' ((try refine au ?_);(conv=>arg 4;whnf);first | refine cp ?_ |(refine sN ?_;intro b)|(refine sC ?_ ?_<;>intro h)|(refine ar ?_ ?_<;>intro h<;>try contradiction)|(refine aa ?_;intro g c')|(refine ay hen ?_;intro x hx;refine aN ?_)| refine ai ?_ | exact aw |(refine ak rfl ?_;intro D lL)| refine ah ?_ ?_ | refine aj ?_ ?_ ?_ | fail));(all_goals refine av ?_)
         all_goals first | exact fh b True.intro eG cR | exact fh b2 True.intro eG cR)
      |(
         refine c7 b ?_
         refine dJ (hrf vb ib ob b) ?_
         intro x hx
         (conv=>arg 2;simp only [List.nil_append,List.cons_append])
         (conv=>arg 3;simp only [List.nil_append,List.cons_append])
         (repeat' ((try refine au ?_);(conv=>arg 4;whnf);first | refine cp ?_ |(refine sN ?_;intro b)|(refine sC ?_ ?_<;>intro h)|(refine ar ?_ ?_<;>intro h<;>try contradiction)|(refine aa ?_;intro g c')|(refine ay hen ?_;intro x hx;refine aN ?_)| refine ai ?_ | exact aw |(refine ak rfl ?_;intro D lL)| refine ah ?_ ?_ | refine aj ?_ ?_ ?_ | fail));(all_goals refine av ?_)
         all_goals first | exact fh b2 True.intro eG cR | exact fh b True.intro eG cR))
  intro zb _
  (conv=>arg 2;simp only [List.cons_append,List.nil_append])
  (conv=>arg 3;simp only [List.cons_append,List.nil_append])
  (repeat' ((try refine au ?_);(conv=>arg 4;whnf);first | refine ax ?_ |(refine sN ?_;intro b)|(refine sC ?_ ?_<;>intro h)|(refine ar ?_ ?_<;>intro h<;>try contradiction)|(refine aa ?_;intro g c')| refine ae ?_ | refine ai ?_ | exact aw |(refine ak rfl ?_;intro D lL)| refine ah ?_ ?_ | refine aj ?_ ?_ ?_ | fail));(all_goals refine av ?_)
theorem DP (hP:POk p T) {y:Dig} {bi:Nat} (hb:bi<p.n) (hI:M.I.Ok) (hsz:M.I.size=bas p.n (hgt p.n+1)) (hdz:M.d.size=bas p.n (hgt p.n+1)) (hst:(p.L.getD bi Rec.zero).st≠0) (hpv:M.I.pv (2*bi+((p.L.getD bi Rec.zero).st-1))=some y.l) (ht:fA p.k bi (p.L.getD bi Rec.zero).non y=(p.L.getD bi Rec.zero).tag):Zp Tryz.prog 18 [vA (aA (dM p M)),vI bi] [] [Dm M.d M.I,Sl br (some ⟨M.tb,0,none⟩) (tot p.n) (tot p.n) (treW p.L p.c p.s),Gs q] Unit (fun _=>True) (fun z=> .tuple #[vA (aA (lA p M)),vA (aE (cG p.k (p.L.getD bi Rec.zero).non y)),vI 0]) (fun z=> []) (fun z=> []):=
  Ep (fun vb ib ob fb=>Gm hP (FH hP hb hI hsz hdz hst hpv ht) hb) (Ey d6 (fun g hg=>by cases hg))
theorem Eg {a:Addr} (hP:POk p T) {y:Dig} {bi:Nat} (hb:bi<p.n) (hI:M.I.Ok) (hsz:M.I.size=bas p.n (hgt p.n+1)) (hdz:M.d.size=bas p.n (hgt p.n+1)) (hst:(p.L.getD bi Rec.zero).st≠0) (hpv:M.I.pv (2*bi+((p.L.getD bi Rec.zero).st-1))=some y.l) (ht:¬fA p.k bi (p.L.getD bi Rec.zero).non y=(p.L.getD bi Rec.zero).tag):Zp Tryz.prog 18 [vA (aA (dM p M)),vI bi] [] [Dm M.d M.I,Sl br (some ⟨M.tb,0,none⟩) (tot p.n) (tot p.n) (treW p.L p.c p.s),Gs (qE a)] Unit (fun _=>True) (fun z=> .tuple #[vA (aA {lA p M with poisoned:=true}),vA (aE Dig.zero),vI 9]) (fun z=> []) (fun z=> []):=
  Ep (fun vb ib ob fb=>Fh hP (E8 hP hb hI hsz hdz hst hpv ht) hb) (Fw rfl)
theorem zq (hP:POk p T) (hD:DM p M T) {y:Dig} {s:Nat} {a:Option Addr} {n c:Nat} (hs:s<bas p.n (hgt p.n+1)):Zp Tryz.prog 17 [vA (aA (dM p M)),vI s, .slice a n c] [] [Dm M.d M.I,Sl cB a n c y.l] (SDsk×DI) (fun x=>x.2.Ok∧x.2.size=bas p.n (hgt p.n+1)∧x.1.size=bas p.n (hgt p.n+1)∧x.2.con=p.con.put s (some y.l)) (fun x=> .tuple #[vA (aA (dM p {M with d:=x.1,I:=x.2})),vI 0]) (fun _=> []) (fun x=> [Dm x.1 x.2]):=by
  have hT:=hP.hT
  have hc:=hD.ok.chg
  have hv:=hD.ok.vl s
  rw [←hD.ok.cn,DI.con_len] at hv
  have hsI:s<M.I.size:=by rw [hD.ok.size];exact hs
  have hed:=Jk (v:=dM p M) (I:=M.I) (s:=s) (a:=a) (n:=n) (c:=c) (l:=y.l) hP.n1 hD.ok.ok hsI (by show M.d.changes≤_;omega) (by omega) (by rw [y.h];decide)
  refine ⟨hed.en,fun w B hp=>(hed.go w B hp).mono fun e w' h=> ?_⟩
  obtain ⟨v,h1,x,h2,h3,h4⟩:=h
  refine ⟨v,h1,(x.1,M.I.put s x.2.1 ⟨x.2.2.1,x.2.2.2,true,y.l⟩),⟨DI.put_ok hD.ok.ok,hD.ok.size,h2.1.trans hD.sz, ?_⟩,h3,h4⟩
  rw [DI.con_put hD.ok.ok hsI,hD.ok.cn];rfl
end
end Go.Proofs.YtbobhnldhpjdlaaGreatDoor
