/- Lemmas and walks: what each function does, by its own code. No condition beyond those of each statement. -/
import Derived.Test.YtbobhnldhpjdlaaGreatDoorP43
import Derived.Test.YtbobhnldhpjdlaaGreatDoorP46
set_option linter.all false
set_option linter.unusedVariables false
namespace Go.Proofs.YtbobhnldhpjdlaaGreatDoor
open Go Go.RowKit Go.Cs Go.Cz
set_option maxRecDepth 100000
set_option maxHeartbeats 4000000
instance:Mi Tryz.prog 193:=⟨fun v w=>by kernel_rfl⟩
abbrev Ki (a:Addr):Value:= .iface 548 (.pointer (some a))
abbrev qE (a:Addr):Value×Value:=(Ki a,I5)
theorem Ia:Zp Tryz.prog 71 [vI 0] [] [] Unit (fun _=>True) (fun _=> .nilIface) (fun _=> []) (fun _=> []):=by
 refine ak fun G=> ?_
 (repeat' ((try refine aw ?_);(conv=>arg 4;whnf);first | refine az ?_ |(refine sN ?_;intro b)|(refine sC ?_ ?_<;>intro h)|(refine au ?_ ?_<;>intro h<;>try contradiction)|(refine aa ?_;intro g c')| refine ae ?_ | refine ai ?_ | exact ax |(refine aj rfl ?_;intro D lL)| refine af ?_ ?_ | refine ah ?_ ?_ ?_ | fail));(all_goals refine av ?_)
theorem lC {e:Nat} (he:e≠0):Zp Tryz.prog 71 [vI e] [] [] Unit (fun _=>True) (fun _=> .iface 193 (vA [vI e, .nilIface])) (fun _=> []) (fun _=> []):=by
 refine ak fun G=> ?_
 (repeat' ((try refine aw ?_);(conv=>arg 4;whnf);first | refine az ?_ |(refine sN ?_;intro b)|(refine sC ?_ ?_<;>intro h)|(refine au ?_ ?_<;>intro h<;>try contradiction)|(refine aa ?_;intro g c')| refine ae ?_ | refine ai ?_ | exact ax |(refine aj rfl ?_;intro D lL)| refine af ?_ ?_ | refine ah ?_ ?_ ?_ | fail));(all_goals refine av ?_)
 refine nF nK ?_
 (repeat' ((try refine aw ?_);(conv=>arg 4;whnf);first | refine az ?_ |(refine sN ?_;intro b)|(refine sC ?_ ?_<;>intro h)|(refine au ?_ ?_<;>intro h<;>try contradiction)|(refine aa ?_;intro g c')| refine ae ?_ | refine ai ?_ | exact ax |(refine aj rfl ?_;intro D lL)| refine af ?_ ?_ | refine ah ?_ ?_ ?_ | fail));(all_goals refine av ?_)
theorem LB {v u:SSto} {e:Nat} {a:Addr} (hp:v.poisoned=false):Zp Tryz.prog 76 [vA (aB v),vA (aB u), .iface 193 (vA [vI e,Ki a])] [] [Gs (qE a)] Unit (fun _=>True) (fun _=> .tuple #[vA (aB {v with poisoned:=true}),vI e]) (fun _=> []) (fun _=> []):=by
 obtain ⟨v1,v2,v3,v4,v5,v6,v7,v8⟩:=v
 dsimp only at hp
 subst hp
 refine ak fun G=> ?_
 (repeat' ((try refine aw ?_);(conv=>arg 4;whnf);first | refine az ?_ |(refine sN ?_;intro b)|(refine sC ?_ ?_<;>intro h)|(refine au ?_ ?_<;>intro h<;>try contradiction)|(refine aa ?_;intro g c')| refine ae ?_ | refine ai ?_ | exact ax |(refine aj rfl ?_;intro D lL)| refine af ?_ ?_ | refine ah ?_ ?_ ?_ | fail));(all_goals refine av ?_)
 refine nF nK ?_
 (repeat' ((try refine aw ?_);(conv=>arg 4;whnf);first | refine az ?_ |(refine sN ?_;intro b)|(refine sC ?_ ?_<;>intro h)|(refine au ?_ ?_<;>intro h<;>try contradiction)|(refine aa ?_;intro g c')|(refine da (Is rfl rfl) ?_;intro x hx;refine bV ?_)|(refine aA (IR rfl) ?_;intro x hx;refine aH ?_)| refine ae ?_ | refine ai ?_ | exact ax |(refine aj rfl ?_;intro D lL)| refine af ?_ ?_ | refine ah ?_ ?_ ?_ | fail));(all_goals refine av ?_)
theorem t4 {v u:SSto} {e:Nat} {a:Addr} (hp:v.poisoned=false):Zp Tryz.prog 76 [vA (aB v),vA (aB u), .iface 193 (vA [vI e, .nilIface])] [] [Gs (qE a)] Unit (fun _=>True) (fun _=> .tuple #[vA (aB v),vI e]) (fun _=> []) (fun _=> []):=by
 obtain ⟨v1,v2,v3,v4,v5,v6,v7,v8⟩:=v
 dsimp only at hp
 subst hp
 refine ak fun G=> ?_
 (repeat' ((try refine aw ?_);(conv=>arg 4;whnf);first | refine az ?_ |(refine sN ?_;intro b)|(refine sC ?_ ?_<;>intro h)|(refine au ?_ ?_<;>intro h<;>try contradiction)|(refine aa ?_;intro g c')| refine ae ?_ | refine ai ?_ | exact ax |(refine aj rfl ?_;intro D lL)| refine af ?_ ?_ | refine ah ?_ ?_ ?_ | fail));(all_goals refine av ?_)
 refine nF nK ?_
 (repeat' ((try refine aw ?_);(conv=>arg 4;whnf);first | refine az ?_ |(refine sN ?_;intro b)|(refine sC ?_ ?_<;>intro h)|(refine au ?_ ?_<;>intro h<;>try contradiction)|(refine aa ?_;intro g c')|(refine da (Is rfl rfl) ?_;intro x hx;refine bV ?_)|(refine aA (Iv rfl) ?_;intro x hx;refine aH ?_)| refine ae ?_ | refine ai ?_ | exact ax |(refine aj rfl ?_;intro D lL)| refine af ?_ ?_ | refine ah ?_ ?_ ?_ | fail));(all_goals refine av ?_)
theorem Mr {v:SSto}:Zp Tryz.prog 21 [vA (aB v)] [] [] Unit (fun _=>True) (fun _=> .bool v.poisoned) (fun _=> []) (fun _=> []):=by
 refine ak fun G=> ?_
 (repeat' ((try refine aw ?_);(conv=>arg 4;whnf);first | refine az ?_ |(refine sN ?_;intro b)|(refine sC ?_ ?_<;>intro h)|(refine au ?_ ?_<;>intro h<;>try contradiction)|(refine aa ?_;intro g c')| refine ae ?_ | refine ai ?_ | exact ax |(refine aj rfl ?_;intro D lL)| refine af ?_ ?_ | refine ah ?_ ?_ ?_ | fail));(all_goals refine av ?_)
theorem JP {v:SSto} {d:SDsk} (hn:0<v.n):Zp Tryz.prog 83 [vA (aB v),vA (aJ d),vI 0] [] [] Unit (fun _=>True) (fun _=> .tuple #[vA (aB {v with disk:=d}),vI 0]) (fun _=> []) (fun _=> []):=by
 refine ak fun G=> ?_
 (repeat' ((try refine aw ?_);(conv=>arg 4;whnf);first | refine az ?_ |(refine sN ?_;intro b)|(refine sC ?_ ?_<;>intro h)|(refine au ?_ ?_<;>intro h<;>try contradiction)|(refine aa ?_;intro g c')|((first | refine aA Ia ?_ | refine aA cY ?_);intro x hx;refine aH ?_)| refine ae ?_ | refine ai ?_ | exact ax |(refine aj rfl ?_;intro D lL)| refine af ?_ ?_ | refine ah ?_ ?_ ?_ | fail));(all_goals refine av ?_)
theorem Mg {v:SSto} {I:DI} {s:Nat} {a:Option Addr} {n c:Nat} {l:List UInt8} (hn:0<v.n) (hI:I.Ok) (hs:s<I.size) (hch:v.disk.changes≤1099511627776) (hvl:(I.vs.getD s []).length≤1099511627776) (hll:l.length≤256):Zp Tryz.prog 17 [vA (aB v),vI s, .slice a n c] [] [Dm v.disk I,Sl cB a n c l] (SDsk×Nat×Nat×Sv) (fun x=>x.1.size=v.disk.size∧x.1.changes=v.disk.changes+1) (fun x=> .tuple #[vA (aB {v with disk:=x.1}),vI 0]) (fun _=> []) (fun x=> [Dm x.1 (I.put s x.2.1 ⟨x.2.2.1,x.2.2.2,true,l⟩)]):=by
 have hwr:=uJ (a:=a) (n:=n) (c:=c) hI hs hch hvl hll
 refine ak fun G=> ?_
 (repeat' ((try refine aw ?_);(conv=>arg 4;whnf);first | refine az ?_ |(refine sN ?_;intro b)|(refine sC ?_ ?_<;>intro h)|(refine au ?_ ?_<;>intro h<;>try contradiction)|(refine aa ?_;intro g c')|(refine cw hwr ?_;intro x hx;refine bV ?_)| refine ai ?_ | exact ax |(refine aj rfl ?_;intro D lL)| refine af ?_ ?_ | refine ah ?_ ?_ ?_ | fail));(all_goals refine av ?_)
 revert x;intro xd hxd
 (repeat' ((try refine aw ?_);(conv=>arg 4;whnf);first | refine az ?_ |(refine sN ?_;intro b)|(refine sC ?_ ?_<;>intro h)|(refine au ?_ ?_<;>intro h<;>try contradiction)|(refine aa ?_;intro g c')|(refine aA (JP hn) ?_;intro x hx;refine aH ?_)| refine ai ?_ | exact ax |(refine aj rfl ?_;intro D lL)| refine af ?_ ?_ | refine ah ?_ ?_ ?_ | fail));(all_goals refine av ?_)
 all_goals exact aD xd hxd rfl (am _) bu
end Go.Proofs.YtbobhnldhpjdlaaGreatDoor
namespace Go.Proofs.YtbobhnldhpjdlaaGreatDoor
open Go Go.RowKit Go.Cs Go.Cz
set_option maxRecDepth 100000
set_option maxHeartbeats 4000000
section
variable {p:PS} {M:ML} {T:Nat} {q:Value×Value}
theorem LH (hP:POk p T) {y:Dig} {bi vb ib ob:Nat} (hb:bi<p.n) (hI:M.I.Ok) (hsz:M.I.size=bas p.n (hgt p.n+1)) (hdz:M.d.size=bas p.n (hgt p.n+1)) (hst:(p.L.getD bi Rec.zero).st≠0) (hpv:M.I.pv (2*bi+((p.L.getD bi Rec.zero).st-1))=some y.l) (ht:il p.k bi (p.L.getD bi Rec.zero).non y=(p.L.getD bi Rec.zero).tag):Zp Tryz.prog 85 [vP vb 0,vP ib 0,vP ob 0] [iB ob (ay Dig.zero) 52] [Bk vb (aB (iT p M)),Bk ib [vI bi],Dm M.d M.I,Sl a7 (some ⟨M.tb,0,none⟩) (tot p.n) (tot p.n) (treW p.L p.c p.s),Gs q] Unit (fun _=>True) (fun z=> .nilIface) (fun z=> [iB ob (ay (cJ p.k (p.L.getD bi Rec.zero).non y)) 52]) (fun z=> []):=by
  have h1:=hP.n1
  have h2:=hP.n2
  have hll:=hP.work.ll
  have hur:=tf (tb:=M.tb) (to:=0) (m:=tot p.n) (c:=tot p.n) (q:=q) hP.tok hb
  have e:((treW p.L p.c p.s).getD (bi/4) default).nd.rs.l.getD (bi%4) default=p.L.getD bi Rec.zero:=tK hP.work.ok hll hb
  rw [e] at hur
  have hld:=Ee (d:=M.d) (I:=M.I) (q:=q) h1 h2 hb hI hdz hsz (hP.work.ok.m.rc bi (by rw [hll];exact hb)) hst hpv ht
  refine ak fun G=> ?_
  (repeat' ((try refine aw ?_);(conv=>arg 4;whnf);first | refine aO ?_ |(refine sN ?_;intro b)|(refine sC ?_ ?_<;>intro h)|(refine au ?_ ?_<;>intro h<;>try contradiction)|(refine aa ?_;intro g c')|((first | refine aA hur ?_ | refine aA hld ?_);intro x hx;refine aH ?_)| refine ae ?_ | refine ai ?_ | exact ax |(refine aj rfl ?_;intro D lL)| refine af ?_ ?_ | refine ah ?_ ?_ ?_ | fail));(all_goals refine av ?_)
  exact aD () True.intro rfl cD bu
theorem L1 (hP:POk p T) {y:Dig} {a:Addr} {bi vb ib ob:Nat} (hb:bi<p.n) (hI:M.I.Ok) (hsz:M.I.size=bas p.n (hgt p.n+1)) (hdz:M.d.size=bas p.n (hgt p.n+1)) (hst:(p.L.getD bi Rec.zero).st≠0) (hpv:M.I.pv (2*bi+((p.L.getD bi Rec.zero).st-1))=some y.l) (ht:¬il p.k bi (p.L.getD bi Rec.zero).non y=(p.L.getD bi Rec.zero).tag):Zp Tryz.prog 85 [vP vb 0,vP ib 0,vP ob 0] [iB ob (ay Dig.zero) 52] [Bk vb (aB (iT p M)),Bk ib [vI bi],Dm M.d M.I,Sl a7 (some ⟨M.tb,0,none⟩) (tot p.n) (tot p.n) (treW p.L p.c p.s),Gs (qE a)] Unit (fun _=>True) (fun z=> .iface 193 (vA [vI 9,Ki a])) (fun z=> [iB ob (ay Dig.zero) 52]) (fun z=> []):=by
  have h1:=hP.n1
  have h2:=hP.n2
  have hll:=hP.work.ll
  have hur:=tf (tb:=M.tb) (to:=0) (m:=tot p.n) (c:=tot p.n) (q:=qE a) hP.tok hb
  have e:((treW p.L p.c p.s).getD (bi/4) default).nd.rs.l.getD (bi%4) default=p.L.getD bi Rec.zero:=tK hP.work.ok hll hb
  rw [e] at hur
  have hld:=HF (d:=M.d) (I:=M.I) (q:=qE a) h1 h2 hb hI hdz hsz (hP.work.ok.m.rc bi (by rw [hll];exact hb)) hst hpv ht
  refine ak fun G=> ?_
  (repeat' ((try refine aw ?_);(conv=>arg 4;whnf);first | refine aO ?_ |(refine sN ?_;intro b)|(refine sC ?_ ?_<;>intro h)|(refine au ?_ ?_<;>intro h<;>try contradiction)|(refine aa ?_;intro g c')|((first | refine aA hur ?_ | refine aA hld ?_);intro x hx;refine aH ?_)| refine ae ?_ | refine ai ?_ | exact ax |(refine aj rfl ?_;intro D lL)| refine af ?_ ?_ | refine ah ?_ ?_ ?_ | fail));(all_goals refine av ?_)
  refine nF nK ?_
  (repeat' ((try refine aw ?_);(conv=>arg 4;whnf);first | refine az ?_ |(refine sN ?_;intro b)|(refine sC ?_ ?_<;>intro h)|(refine au ?_ ?_<;>intro h<;>try contradiction)|(refine aa ?_;intro g c')| refine ae ?_ | refine ai ?_ | exact ax |(refine aj rfl ?_;intro D lL)| refine af ?_ ?_ | refine ah ?_ ?_ ?_ | fail));(all_goals refine av ?_)
  exact aD () True.intro rfl cD bu
theorem LA (hP:POk p T) {bi vb ib ob fb:Nat} {o:Dig} (hr2:Zp Tryz.prog 85 [vP vb 0,vP ib 0,vP ob 0] [iB ob (ay Dig.zero) 52] [Bk vb (aB (iT p M)),Bk ib [vI bi],Dm M.d M.I,Sl a7 (some ⟨M.tb,0,none⟩) (tot p.n) (tot p.n) (treW p.L p.c p.s),Gs q] Unit (fun _=>True) (fun z=> .nilIface) (fun z=> [iB ob (ay o) 52]) (fun z=> [])) (hb:bi<p.n):Zp Tryz.prog 66 [.slice (some ⟨fb,0,none⟩) 3 3] [iB ob (ay Dig.zero) 52] [Bk fb [.func (.func 67) #[vA (aB (iT p M))] #[], .func (.func 84) #[] #[vP vb 0,vP ib 0], .func (.func 85) #[] #[vP vb 0,vP ib 0,vP ob 0]],Bk vb (aB (iT p M)),Bk ib [vI bi],Dm M.d M.I,Sl a7 (some ⟨M.tb,0,none⟩) (tot p.n) (tot p.n) (treW p.L p.c p.s),Gs q] Unit (fun _=>True) (fun z=> .nilIface) (fun z=> [iB ob (ay o) 52]) (fun z=> []):=by
  have h1:=hP.n1
  refine ak fun G=> ?_
  (repeat' ((try refine aw ?_);(conv=>arg 4;whnf);first | refine aO ?_ |(refine sN ?_;intro b)|(refine sC ?_ ?_<;>intro h)|(refine au ?_ ?_<;>intro h<;>try contradiction)|(refine aa ?_;intro g c')| refine ae ?_ | refine ai ?_ | exact ax |(refine aj rfl ?_;intro D lL)| refine af ?_ ?_ | refine ah ?_ ?_ ?_ | fail));(all_goals refine av ?_)
  refine gJ 4 (bN ?_)
  (repeat' ((try refine aw ?_);(conv=>arg 4;whnf);first | refine aO ?_ |(refine sN ?_;intro b)|(refine sC ?_ ?_<;>intro h)|(refine au ?_ ?_<;>intro h<;>try contradiction)|(refine aa ?_;intro g c')|(refine da hr2 ?_;intro x hx;refine bV ?_)| refine ae ?_ | refine ai ?_ | exact ax |(refine aj rfl ?_;intro D lL)| refine af ?_ ?_ | refine ah ?_ ?_ ?_ | fail));(all_goals refine av ?_)
  refine bN ?_
  (repeat' ((try refine aw ?_);(conv=>arg 4;whnf);first | refine aO ?_ |(refine sN ?_;intro b)|(refine sC ?_ ?_<;>intro h)|(refine au ?_ ?_<;>intro h<;>try contradiction)|(refine aa ?_;intro g c')|(refine da hr2 ?_;intro x hx;refine bV ?_)| refine ae ?_ | refine ai ?_ | exact ax |(refine aj rfl ?_;intro D lL)| refine af ?_ ?_ | refine ah ?_ ?_ ?_ | fail));(all_goals refine av ?_)
  refine bN ?_
  (repeat' ((try refine aw ?_);(conv=>arg 4;whnf);first | refine aO ?_ |(refine sN ?_;intro b)|(refine sC ?_ ?_<;>intro h)|(refine au ?_ ?_<;>intro h<;>try contradiction)|(refine aa ?_;intro g c')|(refine da hr2 ?_;intro x hx;refine bV ?_)| refine ae ?_ | refine ai ?_ | exact ax |(refine aj rfl ?_;intro D lL)| refine af ?_ ?_ | refine ah ?_ ?_ ?_ | fail));(all_goals refine av ?_)
  refine bN ?_
  (repeat' ((try refine aw ?_);(conv=>arg 4;whnf);first | refine aO ?_ |(refine sN ?_;intro b)|(refine sC ?_ ?_<;>intro h)|(refine au ?_ ?_<;>intro h<;>try contradiction)|(refine aa ?_;intro g c')|(refine da hr2 ?_;intro x hx;refine bV ?_)| refine ae ?_ | refine ai ?_ | exact ax |(refine aj rfl ?_;intro D lL)| refine af ?_ ?_ | refine ah ?_ ?_ ?_ | fail));(all_goals refine av ?_)
  exact aD () True.intro rfl cD bu
theorem LU (hP:POk p T) {bi vb ib ob fb T9:Nat} {o:Dig} {v:Value} (hr2:Zp Tryz.prog 85 [vP vb 0,vP ib 0,vP ob 0] [iB ob (ay Dig.zero) 52] [Bk vb (aB (iT p M)),Bk ib [vI bi],Dm M.d M.I,Sl a7 (some ⟨M.tb,0,none⟩) (tot p.n) (tot p.n) (treW p.L p.c p.s),Gs q] Unit (fun _=>True) (fun z=> .iface T9 v) (fun z=> [iB ob (ay o) 52]) (fun z=> [])) (hb:bi<p.n):Zp Tryz.prog 66 [.slice (some ⟨fb,0,none⟩) 3 3] [iB ob (ay Dig.zero) 52] [Bk fb [.func (.func 67) #[vA (aB (iT p M))] #[], .func (.func 84) #[] #[vP vb 0,vP ib 0], .func (.func 85) #[] #[vP vb 0,vP ib 0,vP ob 0]],Bk vb (aB (iT p M)),Bk ib [vI bi],Dm M.d M.I,Sl a7 (some ⟨M.tb,0,none⟩) (tot p.n) (tot p.n) (treW p.L p.c p.s),Gs q] Unit (fun _=>True) (fun z=> .iface T9 v) (fun z=> [iB ob (ay o) 52]) (fun z=> []):=by
  have h1:=hP.n1
  refine ak fun G=> ?_
  (repeat' ((try refine aw ?_);(conv=>arg 4;whnf);first | refine aO ?_ |(refine sN ?_;intro b)|(refine sC ?_ ?_<;>intro h)|(refine au ?_ ?_<;>intro h<;>try contradiction)|(refine aa ?_;intro g c')| refine ae ?_ | refine ai ?_ | exact ax |(refine aj rfl ?_;intro D lL)| refine af ?_ ?_ | refine ah ?_ ?_ ?_ | fail));(all_goals refine av ?_)
  refine gJ 4 (bN ?_)
  (repeat' ((try refine aw ?_);(conv=>arg 4;whnf);first | refine aO ?_ |(refine sN ?_;intro b)|(refine sC ?_ ?_<;>intro h)|(refine au ?_ ?_<;>intro h<;>try contradiction)|(refine aa ?_;intro g c')|(refine da hr2 ?_;intro x hx;refine bV ?_)| refine ae ?_ | refine ai ?_ | exact ax |(refine aj rfl ?_;intro D lL)| refine af ?_ ?_ | refine ah ?_ ?_ ?_ | fail));(all_goals refine av ?_)
  refine bN ?_
  (repeat' ((try refine aw ?_);(conv=>arg 4;whnf);first | refine aO ?_ |(refine sN ?_;intro b)|(refine sC ?_ ?_<;>intro h)|(refine au ?_ ?_<;>intro h<;>try contradiction)|(refine aa ?_;intro g c')|(refine da hr2 ?_;intro x hx;refine bV ?_)| refine ae ?_ | refine ai ?_ | exact ax |(refine aj rfl ?_;intro D lL)| refine af ?_ ?_ | refine ah ?_ ?_ ?_ | fail));(all_goals refine av ?_)
  refine bN ?_
  (repeat' ((try refine aw ?_);(conv=>arg 4;whnf);first | refine aO ?_ |(refine sN ?_;intro b)|(refine sC ?_ ?_<;>intro h)|(refine au ?_ ?_<;>intro h<;>try contradiction)|(refine aa ?_;intro g c')|(refine da hr2 ?_;intro x hx;refine bV ?_)| refine ae ?_ | refine ai ?_ | exact ax |(refine aj rfl ?_;intro D lL)| refine af ?_ ?_ | refine ah ?_ ?_ ?_ | fail));(all_goals refine av ?_)
  exact aD () True.intro rfl cD bu
theorem JS {bi e:Nat} {o:Dig} {v:Value} {u:SSto} (hrf:∀vb ib ob fb:Nat,Zp Tryz.prog 66 [.slice (some ⟨fb,0,none⟩) 3 3] [iB ob (ay Dig.zero) 52] [Bk fb [.func (.func 67) #[vA (aB (iT p M))] #[], .func (.func 84) #[] #[vP vb 0,vP ib 0], .func (.func 85) #[] #[vP vb 0,vP ib 0,vP ob 0]],Bk vb (aB (iT p M)),Bk ib [vI bi],Dm M.d M.I,Sl a7 (some ⟨M.tb,0,none⟩) (tot p.n) (tot p.n) (treW p.L p.c p.s),Gs q] Unit (fun _=>True) (fun z=>v) (fun z=> [iB ob (ay o) 52]) (fun z=> []))
    (hen:Zp Tryz.prog 76 [vA (aB (iT p M)),vA (aB (iT p M)),v] [] [Gs q] Unit (fun _=>True) (fun _=> .tuple #[vA (aB u),vI e]) (fun _=> []) (fun _=> [])):Zp Tryz.prog 18 [vA (aB (c8 p M)),vI bi] [] [Dm M.d M.I,Sl a7 (some ⟨M.tb,0,none⟩) (tot p.n) (tot p.n) (treW p.L p.c p.s),Gs q] Unit (fun _=>True) (fun z=> .tuple #[vA (aB u),vA (ay o),vI e]) (fun z=> []) (fun z=> []):=by
  rw [show c8 p M=iT p M from rfl]
  refine ak fun G=> ?_
  (repeat' ((try refine aw ?_);(conv=>arg 4;whnf);first | refine aO ?_ |(refine sN ?_;intro b)|(refine sC ?_ ?_<;>intro h)|(refine au ?_ ?_<;>intro h<;>try contradiction)|(refine aa ?_;intro g c')| refine ae ?_ | refine ai ?_ | exact ax |(refine aj rfl ?_;intro D lL)| refine af ?_ ?_ | refine ah ?_ ?_ ?_ | fail));(all_goals refine av ?_)
  rename_i vb ib rs rb
  revert b;intro ob
  refine bG vb ?_
  refine bG ib ?_
  refine eD (X:=Nat) (fun x=> [(4,vP rs 0),(5,vP rb 0),(7,vP ob 0),(8,vP x 0),(9,vI e)]) (fun _=>True) (fun x=> [iB x (aB u) 48,iB ob (ay o) 52,iB rs (aB SSto.zero) 48,iB rb (ay Dig.zero) 52]) (fun _=> []) ?_ ?_
  · intro K4
    refine dH [ob] rfl ?_
    (repeat' ((try refine aw ?_);(conv=>arg 4;whnf);first | refine aO ?_ |(refine sN ?_;intro b)|(refine sC ?_ ?_<;>intro h)|(refine au ?_ ?_<;>intro h<;>try contradiction)|(refine aa ?_;intro g c')|(refine aA hen ?_;intro x hx;refine aH ?_)| refine ai ?_ | exact ax |(refine aj rfl ?_;intro D lL)| refine af ?_ ?_ | refine ah ?_ ?_ ?_ | fail));(all_goals refine av ?_)
    all_goals (
      revert b;intro b2
      first
      |(
         refine bG b2 ?_
         refine da (hrf vb ib ob b2) ?_
         intro x hx
         (conv=>arg 2;simp only [List.nil_append,List.cons_append])
         (conv=>arg 3;simp only [List.nil_append,List.cons_append])
         (repeat' ((try refine aw ?_);(conv=>arg 4;whnf);first | refine aO ?_ |(refine sN ?_;intro b)|(refine sC ?_ ?_<;>intro h)|(refine au ?_ ?_<;>intro h<;>try contradiction)|(refine aa ?_;intro g c')|(refine aA hen ?_;intro x hx;refine aH ?_)| refine ai ?_ | exact ax |(refine aj rfl ?_;intro D lL)| refine af ?_ ?_ | refine ah ?_ ?_ ?_ | fail));(all_goals refine av ?_)
         all_goals first | exact d9 b True.intro cD bu | exact d9 b2 True.intro cD bu)
      |(
         refine bG b ?_
         refine da (hrf vb ib ob b) ?_
         intro x hx
         (conv=>arg 2;simp only [List.nil_append,List.cons_append])
         (conv=>arg 3;simp only [List.nil_append,List.cons_append])
         (repeat' ((try refine aw ?_);(conv=>arg 4;whnf);first | refine aO ?_ |(refine sN ?_;intro b)|(refine sC ?_ ?_<;>intro h)|(refine au ?_ ?_<;>intro h<;>try contradiction)|(refine aa ?_;intro g c')|(refine aA hen ?_;intro x hx;refine aH ?_)| refine ai ?_ | exact ax |(refine aj rfl ?_;intro D lL)| refine af ?_ ?_ | refine ah ?_ ?_ ?_ | fail));(all_goals refine av ?_)
         all_goals first | exact d9 b2 True.intro cD bu | exact d9 b True.intro cD bu))
  intro zb _
  (conv=>arg 2;simp only [List.cons_append,List.nil_append])
  (conv=>arg 3;simp only [List.cons_append,List.nil_append])
  (repeat' ((try refine aw ?_);(conv=>arg 4;whnf);first | refine az ?_ |(refine sN ?_;intro b)|(refine sC ?_ ?_<;>intro h)|(refine au ?_ ?_<;>intro h<;>try contradiction)|(refine aa ?_;intro g c')| refine ae ?_ | refine ai ?_ | exact ax |(refine aj rfl ?_;intro D lL)| refine af ?_ ?_ | refine ah ?_ ?_ ?_ | fail));(all_goals refine av ?_)
end
end Go.Proofs.YtbobhnldhpjdlaaGreatDoor
namespace Go.Proofs.YtbobhnldhpjdlaaGreatDoor
open Go Go.RowKit Go.Cs Go.Cz
set_option maxRecDepth 100000
set_option maxHeartbeats 4000000
section
variable {p:PS} {M:ML} {T:Nat} {q:Value×Value} {ad:Addr}
theorem FH (hP:POk p T) {vb ib ob fb:Nat}:Zp Tryz.prog 66 [.slice (some ⟨fb,0,none⟩) 3 3] [iB ob (ay Dig.zero) 52] [Bk fb [.func (.func 67) #[vA (aB (iT p M))] #[], .func (.func 84) #[] #[vP vb 0,vP ib 0], .func (.func 85) #[] #[vP vb 0,vP ib 0,vP ob 0]],Bk vb (aB (iT p M)),Bk ib [vI p.n],Dm M.d M.I,Sl a7 (some ⟨M.tb,0,none⟩) (tot p.n) (tot p.n) (treW p.L p.c p.s),Gs q] Unit (fun _=>True) (fun z=> .iface 193 (vA [vI 1, .nilIface])) (fun z=> [iB ob (ay Dig.zero) 52]) (fun z=> []):=by
 have h1:=hP.n1
 refine ak fun G=> ?_
 (repeat' ((try refine aw ?_);(conv=>arg 4;whnf);first | refine aO ?_ |(refine sN ?_;intro b)|(refine sC ?_ ?_<;>intro h)|(refine au ?_ ?_<;>intro h<;>try contradiction)|(refine aa ?_;intro g c')| refine ae ?_ | refine ai ?_ | exact ax |(refine aj rfl ?_;intro D lL)| refine af ?_ ?_ | refine ah ?_ ?_ ?_ | fail));(all_goals refine av ?_)
 refine gJ 4 (bN ?_)
 (repeat' ((try refine aw ?_);(conv=>arg 4;whnf);first | refine aO ?_ |(refine sN ?_;intro b)|(refine sC ?_ ?_<;>intro h)|(refine au ?_ ?_<;>intro h<;>try contradiction)|(refine aa ?_;intro g c')|(refine aA (lC (e:=1) (by decide)) ?_;intro x hx;refine aH ?_)| refine ae ?_ | refine ai ?_ | exact ax |(refine aj rfl ?_;intro D lL)| refine af ?_ ?_ | refine ah ?_ ?_ ?_ | fail));(all_goals refine av ?_)
 refine bN ?_
 (repeat' ((try refine aw ?_);(conv=>arg 4;whnf);first | refine aO ?_ |(refine sN ?_;intro b)|(refine sC ?_ ?_<;>intro h)|(refine au ?_ ?_<;>intro h<;>try contradiction)|(refine aa ?_;intro g c')|(refine aA (lC (e:=1) (by decide)) ?_;intro x hx;refine aH ?_)| refine ae ?_ | refine ai ?_ | exact ax |(refine aj rfl ?_;intro D lL)| refine af ?_ ?_ | refine ah ?_ ?_ ?_ | fail));(all_goals refine av ?_)
 exact aD () True.intro rfl cD bu
theorem Hz (hP:POk p T):Zp Tryz.prog 18 [vA (aB (c8 p M)),vI p.n] [] [Dm M.d M.I,Sl a7 (some ⟨M.tb,0,none⟩) (tot p.n) (tot p.n) (treW p.L p.c p.s),Gs (qE ad)] Unit (fun _=>True) (fun z=> .tuple #[vA (aB (iT p M)),vA (ay Dig.zero),vI 1]) (fun z=> []) (fun z=> []):=
 JS (fun vb ib ob fb=>FH hP) (t4 rfl)
theorem Jr (hP:POk p T) {a:Option Addr} {n c:Nat}:Zp Tryz.prog 12 [vA (aB (c8 p M)), .int .i64 (-1), .slice a n c] [] [Gs (qE ad)] Unit (fun _=>True) (fun z=> .tuple #[vA (aB (iT p M)),vI 1]) (fun _=> []) (fun z=> []):=by
 have h1:=hP.n1
 have hen:=t4 (v:=iT p M) (u:=iT p M) (e:=1) (a:=ad) rfl
 rw [show c8 p M=iT p M from rfl]
 refine ak fun G=> ?_
 (repeat' ((try refine aw ?_);(conv=>arg 4;whnf);first | refine aO ?_ |(refine sN ?_;intro b)|(refine sC ?_ ?_<;>intro h)|(refine au ?_ ?_<;>intro h<;>try contradiction)|(refine aa ?_;intro g c')|(refine aA cY ?_;intro x hx;refine aH ?_)| refine ae ?_ | refine ai ?_ | exact ax |(refine aj rfl ?_;intro D lL)| refine af ?_ ?_ | refine ah ?_ ?_ ?_ | fail));(all_goals refine av ?_)
 rename_i vb ib db rb nx
 revert b;intro fb
 refine bG vb ?_
 refine bG ib ?_
 refine bG db ?_
 refine bG fb ?_
 refine gJ 6 (bN ?_)
 (repeat' ((try refine aw ?_);(conv=>arg 4;whnf);first | refine aO ?_ |(refine sN ?_;intro b)|(refine sC ?_ ?_<;>intro h)|(refine au ?_ ?_<;>intro h<;>try contradiction)|(refine aa ?_;intro g c')|((first | refine aA (lC (e:=1) (by decide)) ?_ | refine aA hen ?_);intro x hx;refine aH ?_)| refine ae ?_ | refine ai ?_ | exact ax |(refine aj rfl ?_;intro D lL)| refine af ?_ ?_ | refine ah ?_ ?_ ?_ | fail));(all_goals refine av ?_)
 refine bN ?_
 (repeat' ((try refine aw ?_);(conv=>arg 4;whnf);first | refine aO ?_ |(refine sN ?_;intro b)|(refine sC ?_ ?_<;>intro h)|(refine au ?_ ?_<;>intro h<;>try contradiction)|(refine aa ?_;intro g c')|((first | refine aA (lC (e:=1) (by decide)) ?_ | refine aA hen ?_);intro x hx;refine aH ?_)| refine ae ?_ | refine ai ?_ | exact ax |(refine aj rfl ?_;intro D lL)| refine af ?_ ?_ | refine ah ?_ ?_ ?_ | fail));(all_goals refine av ?_)
theorem Eo (hP:POk p T) {a:Option Addr} {n c bi:Nat} (hb:bi<p.n) (hn:n=31∨n=33):Zp Tryz.prog 12 [vA (aB (c8 p M)),vI bi, .slice a n c] [] [Gs (qE ad)] Unit (fun _=>True) (fun z=> .tuple #[vA (aB (iT p M)),vI 1]) (fun _=> []) (fun z=> []):=by
 have h1:=hP.n1
 have hen:=t4 (v:=iT p M) (u:=iT p M) (e:=1) (a:=ad) rfl
 rw [show c8 p M=iT p M from rfl]
 refine ak fun G=> ?_
 (repeat' ((try refine aw ?_);(conv=>arg 4;whnf);first | refine aO ?_ |(refine sN ?_;intro b)|(refine sC ?_ ?_<;>intro h)|(refine au ?_ ?_<;>intro h<;>try contradiction)|(refine aa ?_;intro g c')|(refine aA cY ?_;intro x hx;refine aH ?_)| refine ae ?_ | refine ai ?_ | exact ax |(refine aj rfl ?_;intro D lL)| refine af ?_ ?_ | refine ah ?_ ?_ ?_ | fail));(all_goals refine av ?_)
 rename_i vb ib db rb nx
 revert b;intro fb
 refine bG vb ?_
 refine bG ib ?_
 refine bG db ?_
 refine bG fb ?_
 rcases hn with rfl | rfl
 all_goals (
  refine gJ 6 (bN ?_)
  (repeat' ((try refine aw ?_);(conv=>arg 4;whnf);first | refine aO ?_ |(refine sN ?_;intro b)|(refine sC ?_ ?_<;>intro h)|(refine au ?_ ?_<;>intro h<;>try contradiction)|(refine aa ?_;intro g c')|((first | refine aA (lC (e:=1) (by decide)) ?_ | refine aA hen ?_);intro x hx;refine aH ?_)| refine ae ?_ | refine ai ?_ | exact ax |(refine aj rfl ?_;intro D lL)| refine af ?_ ?_ | refine ah ?_ ?_ ?_ | fail));(all_goals refine av ?_)
  refine bN ?_
  (repeat' ((try refine aw ?_);(conv=>arg 4;whnf);first | refine aO ?_ |(refine sN ?_;intro b)|(refine sC ?_ ?_<;>intro h)|(refine au ?_ ?_<;>intro h<;>try contradiction)|(refine aa ?_;intro g c')|((first | refine aA (lC (e:=1) (by decide)) ?_ | refine aA hen ?_);intro x hx;refine aH ?_)| refine ae ?_ | refine ai ?_ | exact ax |(refine aj rfl ?_;intro D lL)| refine af ?_ ?_ | refine ah ?_ ?_ ?_ | fail));(all_goals refine av ?_)
  refine bN ?_
  (repeat' ((try refine aw ?_);(conv=>arg 4;whnf);first | refine aO ?_ |(refine sN ?_;intro b)|(refine sC ?_ ?_<;>intro h)|(refine au ?_ ?_<;>intro h<;>try contradiction)|(refine aa ?_;intro g c')|((first | refine aA (lC (e:=1) (by decide)) ?_ | refine aA hen ?_);intro x hx;refine aH ?_)| refine ae ?_ | refine ai ?_ | exact ax |(refine aj rfl ?_;intro D lL)| refine af ?_ ?_ | refine ah ?_ ?_ ?_ | fail));(all_goals refine av ?_))
end
end Go.Proofs.YtbobhnldhpjdlaaGreatDoor
