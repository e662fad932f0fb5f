/- Lemmas and walks: what each function does, by its own code. No condition beyond those of each statement. -/
import Derived.Test.YtbobhnldhpjdlaaGreatDoorQ1
import Derived.Test.YtbobhnldhpjdlaaGreatDoorP45
set_option linter.all false
set_option linter.unusedVariables false
namespace Go.Proofs.YtbobhnldhpjdlaaGreatDoor
open Go Go.RowKit Go.Cs Go.Cz
set_option maxRecDepth 100000
set_option maxHeartbeats 4000000
theorem L7 {P:Program} {O:List It} {F:List Pt} {T i o E m:Nat} {cs vs:List Value} {p:Prop} [h:Fo P T i o E] [hE:Sz P E m true] [hs:Sb cs o vs p] (hp:p) (hl:vs.length=m):Yv P O F (Ak.fd T (vA cs) i) (vA vs):=tv (hs.sb hp) hl
theorem L8 {P:Program} {O:List It} {F:List Pt} {T i o E:Nat} {cs:List Value} {v:Value} {p:Prop} [h:Fo P T i o E] [hE:Sz P E 1 false] [hs:Sb cs o [v] p] (hp:p):Yv P O F (Ak.fd T (vA cs) i) v:=JJ (hs.sb hp)
section
variable {p:PS} {M:ML} {T:Nat} {q:Value×Value}
theorem J2 (hP:POk p T):Zp Tryz.prog 53 [vA (aB (c8 p M))] [] [Sl bP M.ua p.us.length M.uc p.us] (Option Addr×Nat) (fun _=>True) (fun x=>vA (b0 ⟨(x.1,p.us.length,x.2)⟩)) (fun _=> []) (fun x=> [Sl bP x.1 p.us.length x.2 p.us]):=by
 have h2:=hP.usm
 have h3:=hP.hT
 obtain ⟨Md,MI,Mlb,Mlc,Mab,Mtb,Mua,Muc⟩:=M
 unfold c8
 dsimp only
 refine ak fun G=> ?_
 refine aS 0 ?_
 intro _ hcl hml hal
 rcases Nat.eq_zero_or_pos p.us.length with h0 | h0
 ·have hnil:p.us= []:=List.length_eq_zero_iff.1 h0
  refine aR (Sl bP none p.us.length 0 p.us) (fun w _ _=>⟨rfl,h0,rfl,by rw [hnil];rfl⟩) ?_
  cases Mua with
  | none=>
   (repeat' ((try refine aw ?_);(conv=>arg 4;whnf);first | refine aO ?_ |(refine sN ?_;intro b)|(refine sC ?_ ?_<;>intro h)|(refine au ?_ ?_<;>intro h<;>try contradiction)|(refine aa ?_;intro g c')| refine ae ?_ | refine ai ?_ | exact ax |(refine aj rfl ?_;intro D lL)| refine af ?_ ?_ | refine ah ?_ ?_ ?_ | fail));(all_goals refine av ?_)
   refine aD (none,0) True.intro (by rw [h0];rfl) (am _) bu
  | some ad=>
   refine aR (Sl bP none 0 0 []) (fun w _ _=>⟨rfl,rfl,rfl,rfl⟩) ?_
   rw [h0]
   (repeat' ((try refine aw ?_);(conv=>arg 4;whnf);first | refine aO ?_ |(refine sN ?_;intro b)|(refine sC ?_ ?_<;>intro h)|(refine au ?_ ?_<;>intro h<;>try contradiction)|(refine aa ?_;intro g c')| refine ae ?_ | refine ai ?_ | exact ax |(refine aj rfl ?_;intro D lL)| refine af ?_ ?_ | refine ah ?_ ?_ ?_ | fail));(all_goals refine av ?_)
   refine aR (Sl bP (some ⟨b,0,none⟩) 0 0 p.us) (fun w _ _=>⟨h0.symm,Nat.le_refl _,Nat.zero_le _, .inl (by rw [hnil];rfl)⟩) ?_
   exact aD (some ⟨b,0,none⟩,0) True.intro rfl (am _) bu
 ·obtain ⟨o1,o2,rfl⟩:=hal h0 (by decide)
  (repeat' ((try refine aw ?_);(conv=>arg 4;whnf);first | refine az ?_ |(refine sN ?_;intro b)|(refine sC ?_ ?_<;>intro h)|(refine au ?_ ?_<;>intro h<;>try contradiction)|(refine aa ?_;intro g c')| refine ae ?_ | refine ai ?_ | exact ax |(refine aj rfl ?_;intro D lL)| refine af ?_ ?_ | refine ah ?_ ?_ ?_ | fail));(all_goals refine av ?_)
  rw [Nat.zero_add,List.nil_append]
  refine eE (m:=20) (e:=163) bP (some ⟨g,0,none⟩) p.us.length c' ?_
  refine aS 0 ?_
  intro _ hcl2 hml2 _
  (repeat' ((try refine aw ?_);(conv=>arg 4;whnf);first | refine az ?_ |(refine sN ?_;intro b)|(refine sC ?_ ?_<;>intro h)|(refine au ?_ ?_<;>intro h<;>try contradiction)|(refine aa ?_;intro g c')| refine ae ?_ | refine ai ?_ | exact ax |(refine aj rfl ?_;intro D lL)| refine af ?_ ?_ | refine ah ?_ ?_ ?_ | fail));(all_goals refine av ?_)
  refine je 0 ?_
  exact aD (some ⟨g,0,none⟩,p.us.length) True.intro rfl (am _) bu
end
section
variable {ad:Addr}
theorem H5 {xb:UInt8} {oa:Option Addr} {m c:Nat} {zs:List (UInt8×UInt8×UInt8)}:Zp Tryz.prog 7 [vA (iC ⟨xb.toNat,(oa,m,c)⟩)] [] [Sl yF oa m c zs,Gs (qE ad)] Unit (fun _=>True) (fun _=> .bool true) (fun _=> []) (fun _=> []):=by
 have hm20:=Nat.mod_lt xb.toNat (show 0<20 by decide)
 have hpl:=Ir (ad:=ad) (xb:=xb) (oa:=oa) (m:=m) (c:=c) (zs:=zs)
 generalize hn:1+xb.toNat%20=n at hpl
 refine ak fun G=> ?_
 (repeat' ((try refine aw ?_);(conv=>arg 4;whnf);first | refine aO ?_ |(refine sN ?_;intro b)|(refine sC ?_ ?_<;>intro h)|(refine au ?_ ?_<;>intro h<;>try contradiction)|(refine aa ?_;intro g c')|(refine cw hpl ?_;intro x hx;refine bV ?_)| refine ai ?_ | exact ax |(refine aj rfl ?_;intro D lL)| refine af ?_ ?_ | refine ah ?_ ?_ ?_ | fail));(all_goals refine av ?_)
 revert x;rintro ⟨p,M,T,an,dn⟩ ⟨hPl,hT,hM⟩
 dsimp only at hPl hT hM⊢
 rename_i sb
 revert b;intro ab
 have hPn:=hPl.hn
 have hP:=hPl.ok
 have h1:=hP.n1
 have h2:=hP.n2
 have hlm:=hP.logm
 have hl0:=hP.log0
 have hum:=hP.usm
 have hlg:=EF (M:=M) hP
 have hso:=fun (a:Nat)=>EO (n:=p.n) (c:=p.log.length) (a:=a) (l:=p.log) (q:=qE ad) h1 h2 hl0 (by omega) hPl.lg.l0 hPl.lg.st
 have hcl:=wc (p:=p) (M:=M) h1 hl0 (by omega) hP.last
 have hle:=J2 (M:=M) hP
 have hck:=fun (a:Option Addr) (c:Nat)=>BJ (a:=a) (n:=p.us.length) (c:=c) (us:=p.us) (by omega) hP.use
 have hrp:=fun (a:Option Addr) (c:Nat)=>H8 (a:=a) (n:=p.us.length) (c:=c) (us:=p.us) (by omega) hP.use hPl.us.ne
 have hct:=fun (a:Option Addr) (c:Nat)=>Jp (a:=a) (n:=p.us.length) (c:=c) (us:=p.us) (k:=p.k.enc) (by omega) (fun i hi=>by obtain ⟨y,e,_⟩:=hPl.us.us i hi;rw [e])
 have hK:Zp Tryz.prog 13 [vA (ay (ii 2))] [] [Gs (qE ad)] Unit (fun _=>True) (fun _=>vA (bC p.k)) (fun _=> []) (fun _=> []):=by rw [hPl.hk];exact Bw
 (repeat' ((try refine aw ?_);(conv=>arg 4;whnf);first | refine aO ?_ |(refine sN ?_;intro b)|(refine sC ?_ ?_<;>intro h)|(refine au ?_ ?_<;>intro h<;>try contradiction)|(refine aa ?_;intro g c')|(refine cw hlg ?_;intro x hx;refine bV ?_)| refine ai ?_ | exact ax |(refine aj rfl ?_;intro D lL)| refine af ?_ ?_ | refine ah ?_ ?_ ?_ | fail));(all_goals refine av ?_)
 revert x;intro gb
 have hso1:=hso gb
 (repeat' ((try refine aw ?_);(conv=>arg 4;whnf);first | refine aO ?_ |(refine sN ?_;intro b)|(refine sC ?_ ?_<;>intro h)|(refine au ?_ ?_<;>intro h<;>try contradiction)|(refine aa ?_;intro g c')|((first | refine aA Jg ?_ | refine aA hso1 ?_);intro x hx;refine aH ?_)| refine ai ?_ | exact ax |(refine aj rfl ?_;intro D lL)| refine af ?_ ?_ | refine ah ?_ ?_ ?_ | fail));(all_goals refine av ?_)
 refine bG sb ?_
 refine qV [] (am _) ?_
 refine zp [Bk sb (aB (c8 p M)),Sl aL (some ⟨gb,0,none⟩) p.log.length p.log.length p.log,Sl aL (some ⟨M.lb,0,none⟩) p.log.length M.lc p.log,Sl bP M.ua p.us.length M.uc p.us,Gs (qE ad)] bu ?_
 refine dh [] (X:=Nat) (fun i=> [(9,vI i)]) (fun i=>i≤p.log.length) (fun _=> []) (fun i=>p.log.length-i) 0 (Nat.zero_le _) rfl cD ?_
 intro i hi
 (conv=>arg 2;simp only [List.cons_append,List.nil_append])
 by_cases hlt:i<p.log.length
 ·have hgc:=fun (a:Nat)=>GL (a:=some ⟨a,0,none⟩) (n:=48) (c:=48) (l:=iY (p.log.getD i default)) (l7 _)
  simp only [Cel.of_B] at hgc
  have hln:=l7 (p.log.getD i default)
  (repeat' ((try refine aw ?_);(conv=>arg 4;whnf);first | refine aO ?_ |(refine sN ?_;intro b)|(refine sC ?_ ?_<;>intro h)|(refine au ?_ ?_<;>intro h<;>try contradiction)|(refine aa ?_;intro g c')|((first | refine aA (Gn (y:=p.log.getD i default)) ?_ | refine aA (hgc _) ?_);intro x hx;refine aH ?_)| refine ai ?_ | exact ax |(refine aj rfl ?_;intro D lL)| refine af ?_ ?_ | refine ah ?_ ?_ ?_ | fail));(all_goals refine av ?_)
  (first | refine bF rfl rfl ?_ |(refine bh ?_;(conv=>arg 4;whnf);refine bc rfl ?_))
  (repeat' ((try refine aw ?_);(conv=>arg 4;whnf);first | refine aO ?_ |(refine sN ?_;intro b)|(refine sC ?_ ?_<;>intro h)|(refine au ?_ ?_<;>intro h<;>try contradiction)|(refine aa ?_;intro g c')| refine ai ?_ | exact ax |(refine aj rfl ?_;intro D lL)| refine af ?_ ?_ | refine ah ?_ ?_ ?_ | fail));(all_goals refine av ?_)
  (conv=>arg 4;arg 5;ext C;whnf)
  refine cR ?_ (qK rfl)
  (repeat' ((try refine aw ?_);(conv=>arg 4;whnf);first | refine aO ?_ |(refine sN ?_;intro b)|(refine sC ?_ ?_<;>intro h)|(refine au ?_ ?_<;>intro h<;>try contradiction)|(refine aa ?_;intro g c')| refine ai ?_ | exact ax |(refine aj rfl ?_;intro D lL)| refine af ?_ ?_ | refine ah ?_ ?_ ?_ | fail));(all_goals refine av ?_)
  exact jV (i+1) hlt cD (by omega) bu
 ·obtain rfl:i=p.log.length:=by omega
  (repeat' ((try refine aw ?_);(conv=>arg 4;whnf);first | refine aO ?_ |(refine sN ?_;intro b)|(refine sC ?_ ?_<;>intro h)|(refine au ?_ ?_<;>intro h<;>try contradiction)|(refine aa ?_;intro g c')|(refine cw hle ?_;intro x hx;refine bV ?_)| refine ai ?_ | exact ax |(refine aj rfl ?_;intro D lL)| refine af ?_ ?_ | refine ah ?_ ?_ ?_ | fail));(all_goals refine av ?_)
  revert b;intro lb
  obtain ⟨ua,uc⟩:=x
  dsimp only
  refine bG lb ?_
  have hck1:=hck ua uc
  have hrp1:=hrp ua uc
  have hct1:=hct ua uc
  (repeat' ((try refine aw ?_);(conv=>arg 4;whnf);first | refine aO ?_ |(refine sN ?_;intro b)|(refine sC ?_ ?_<;>intro h)|(refine au ?_ ?_<;>intro h<;>try contradiction)|(refine aa ?_;intro g c')|(refine aA hrp1 ?_;intro x hx;refine aH ?_)| refine ai ?_ | exact ax |(refine aj rfl ?_;intro D lL)| refine af ?_ ?_ | refine ah ?_ ?_ ?_ | fail));(all_goals refine av ?_)
  refine eD (X:=Unit) (fun x=> [(3,vP sb 0),(12,vP lb 0),(94, .bool false)]) (fun _=>True) (fun x=> []) (fun x=> []) ?_ ?_
  ·intro K4
   refine gM [] [Bk lb (b0 ⟨(ua,p.us.length,uc)⟩),Sl bP ua p.us.length uc p.us,Gs (qE ad)] (am _) bu rfl ?_
   (repeat' ((try refine aw ?_);(conv=>arg 4;whnf);first | refine yH ?_ |(refine sN ?_;intro b)|(refine sC ?_ ?_<;>intro h)|(refine au ?_ ?_<;>intro h<;>try contradiction)|(refine aa ?_;intro g c')|((first | refine aA hck1 ?_ | refine aA hK ?_ | refine aA hct1 ?_);intro x hx;refine aH ?_)| refine ai ?_ | exact ax |(refine aj rfl ?_;intro D lL)| refine af ?_ ?_ | refine ah ?_ ?_ ?_ | fail));(all_goals refine av ?_)
   (conv=>arg 4;arg 5;ext C;whnf)
   refine cR ?_ (L7 (m:=16) True.intro (CL.len p.k.enc))
   (repeat' ((try refine aw ?_);(conv=>arg 4;whnf);first | refine yH ?_ |(refine sN ?_;intro b)|(refine sC ?_ ?_<;>intro h)|(refine au ?_ ?_<;>intro h<;>try contradiction)|(refine aa ?_;intro g c')|((first | refine aA hck1 ?_ | refine aA hK ?_ | refine aA hct1 ?_);intro x hx;refine aH ?_)| refine ai ?_ | exact ax |(refine aj rfl ?_;intro D lL)| refine af ?_ ?_ | refine ah ?_ ?_ ?_ | fail));(all_goals refine av ?_)
   all_goals exact d9 () True.intro cD bu
  intro _ _
  (conv=>arg 3;simp only [List.cons_append,List.nil_append])
  refine aS 1 ?_
  intro _ huc hum2 hua
  (repeat' ((try refine aw ?_);(conv=>arg 4;whnf);first | refine aO ?_ |(refine sN ?_;intro b)|(refine sC ?_ ?_<;>intro h)|(refine au ?_ ?_<;>intro h<;>try contradiction)|(refine aa ?_;intro g c')| refine ai ?_ | exact ax |(refine aj rfl ?_;intro D lL)| refine af ?_ ?_ | refine ah ?_ ?_ ?_ | fail));(all_goals refine av ?_)
  refine dh [] (X:=Nat) (fun i=> [(16,vI i)]) (fun i=>i≤p.us.length) (fun _=> []) (fun i=>p.us.length-i) 0 (Nat.zero_le _) rfl cD ?_
  intro i hi
  (conv=>arg 2;simp only [List.cons_append,List.nil_append])
  by_cases hlt:i<p.us.length
  ·obtain ⟨u1,u2,rfl⟩:=hua (by omega) (by decide)
   have hnp:=oZ (y:=(p.us.getD i default).Range.Nonce)
   have hng:=fun (a:Nat)=>my (a:=some ⟨a,0,none⟩) (n:=12) (c:=12) (l:=eA (p.us.getD i default).Range.Nonce) (d4 _)
   simp only [Non.of_B] at hng
   have hln:=d4 (p.us.getD i default).Range.Nonce
   have hmk:(p.us.getD i default).Range.Nonce.ct<p.cell.mark:=by
    obtain ⟨y,hy1,hy2⟩:=hPl.us.us i hlt
    rw [hy1,hP.mkc]
    show y.ct<p.mark
    by_cases hs:y.sh<p.al.length
    ·exact Nat.lt_of_lt_of_le hy2 (hP.aok.cm y.sh hs)
    ·rw [List.getD_eq_getElem?_getD,List.getElem?_eq_none (by omega)] at hy2
     exact absurd hy2 (Nat.not_lt_zero _)
   (repeat' ((try refine aw ?_);(conv=>arg 4;whnf);first | refine aO ?_ |(refine sN ?_;intro b)|(refine sC ?_ ?_<;>intro h)|(refine au ?_ ?_<;>intro h<;>try contradiction)|(refine aa ?_;intro g c')|((first | refine aA hnp ?_ | refine aA (hng _) ?_);intro x hx;refine aH ?_)| refine ai ?_ | exact ax |(refine aj rfl ?_;intro D lL)| refine af ?_ ?_ | refine ah ?_ ?_ ?_ | fail));(all_goals refine av ?_)
   rename_i xb2
   revert b;intro nb
   refine bG nb ?_
   refine qV [] (am _) ?_
   refine gM [] [Bk nb (br (p.us.getD i default).Range.Nonce),Bk lb (b0 ⟨(some ⟨u1,u2,none⟩,p.us.length,uc)⟩),Sl bP (some ⟨u1,u2,none⟩) p.us.length uc p.us,Bk sb (aB (c8 p M)),Sl aL (some ⟨M.lb,0,none⟩) p.log.length M.lc p.log] (am _) bu rfl ?_
   (repeat' ((try refine aw ?_);(conv=>arg 4;whnf);first | refine yH ?_ |(refine sN ?_;intro b)|(refine sC ?_ ?_<;>intro h)|(refine au ?_ ?_<;>intro h<;>try contradiction)|(refine aa ?_;intro g c')|(refine aA hcl ?_;intro x hx;refine aH ?_)| refine ai ?_ | exact ax |(refine aj rfl ?_;intro D lL)| refine af ?_ ?_ | refine ah ?_ ?_ ?_ | fail));(all_goals refine av ?_)
   (conv=>arg 4;arg 5;ext C;whnf)
   refine cR ?_ (qK rfl)
   (repeat' ((try refine aw ?_);(conv=>arg 4;whnf);first | refine yH ?_ |(refine sN ?_;intro b)|(refine sC ?_ ?_<;>intro h)|(refine au ?_ ?_<;>intro h<;>try contradiction)|(refine aa ?_;intro g c')|(refine aA hcl ?_;intro x hx;refine aH ?_)| refine ai ?_ | exact ax |(refine aj rfl ?_;intro D lL)| refine af ?_ ?_ | refine ah ?_ ?_ ?_ | fail));(all_goals refine av ?_)
   (conv=>arg 4;arg 5;ext C;whnf)
   refine cR ?_ (L8 True.intro)
   (repeat' ((try refine aw ?_);(conv=>arg 4;whnf);first | refine yH ?_ |(refine sN ?_;intro b)|(refine sC ?_ ?_<;>intro h)|(refine au ?_ ?_<;>intro h<;>try contradiction)|(refine aa ?_;intro g c')|(refine aA hcl ?_;intro x hx;refine aH ?_)| refine ai ?_ | exact ax |(refine aj rfl ?_;intro D lL)| refine af ?_ ?_ | refine ah ?_ ?_ ?_ | fail));(all_goals refine av ?_)
   refine dh [] (X:=Nat) (fun k=> [(19,vI k)]) (fun k=>k≤i) (fun _=> []) (fun k=>i-k) 0 (Nat.zero_le _) rfl cD ?_
   intro k hk
   (conv=>arg 2;simp only [List.cons_append,List.nil_append])
   by_cases hkl:k<i
   ·have hov:=Iy (u:=(p.us.getD i default).Range) (v:=(p.us.getD k default).Range) (fun e=>hPl.us.ne k i hkl hlt e.symm)
    (repeat' ((try refine aw ?_);(conv=>arg 4;whnf);first | refine aO ?_ |(refine sN ?_;intro b)|(refine sC ?_ ?_<;>intro h)|(refine au ?_ ?_<;>intro h<;>try contradiction)|(refine aa ?_;intro g c')| refine ai ?_ | exact ax |(refine aj rfl ?_;intro D lL)| refine af ?_ ?_ | refine ah ?_ ?_ ?_ | fail));(all_goals refine av ?_)
    (first | refine bF rfl rfl ?_ |(refine bh ?_;(conv=>arg 4;whnf);refine bc rfl ?_))
    (repeat' ((try refine aw ?_);(conv=>arg 4;whnf);first | refine aO ?_ |(refine sN ?_;intro b)|(refine sC ?_ ?_<;>intro h)|(refine au ?_ ?_<;>intro h<;>try contradiction)|(refine aa ?_;intro g c')|(refine aA hov ?_;intro x hx;refine aH ?_)| refine ai ?_ | exact ax |(refine aj rfl ?_;intro D lL)| refine af ?_ ?_ | refine ah ?_ ?_ ?_ | fail));(all_goals refine av ?_)
    exact jV (k+1) hkl cD (by omega) bu
   ·obtain rfl:k=i:=by omega
    (repeat' ((try refine aw ?_);(conv=>arg 4;whnf);first | refine aO ?_ |(refine sN ?_;intro b)|(refine sC ?_ ?_<;>intro h)|(refine au ?_ ?_<;>intro h<;>try contradiction)|(refine aa ?_;intro g c')| refine ai ?_ | exact ax |(refine aj rfl ?_;intro D lL)| refine af ?_ ?_ | refine ah ?_ ?_ ?_ | fail));(all_goals refine av ?_)
    exact jV (k+1) hlt cD (by omega) bu
  ·obtain rfl:i=p.us.length:=by omega
   (repeat' ((try refine aw ?_);(conv=>arg 4;whnf);first | refine aO ?_ |(refine sN ?_;intro b)|(refine sC ?_ ?_<;>intro h)|(refine au ?_ ?_<;>intro h<;>try contradiction)|(refine aa ?_;intro g c')|(refine aA LK ?_;intro x hx;refine aH ?_)| refine ai ?_ | exact ax |(refine aj rfl ?_;intro D lL)| refine af ?_ ?_ | refine ah ?_ ?_ ?_ | fail));(all_goals refine av ?_)
end
end Go.Proofs.YtbobhnldhpjdlaaGreatDoor
namespace Go.Proofs.YtbobhnldhpjdlaaGreatDoor
open Go Go.RowKit Go.Cs Go.Cz
theorem Au {a:Option Addr} {m c:Nat} {zs:List (UInt8×UInt8×UInt8)} (k:Nat) (W:World) (hm:Ms yF 3 0 W.heap.size W a m c zs) (h1:k<256) (hg:∃ad,HD ad W):
  Calls Tryz.prog 7 #[.agg ([.int .u8 ((k:Nat):Int), .slice a m c]:List Value).toArray] W (Ret fun v W'=>v= .bool true∧Ext W W'):=GT (fun _ _=>H5) hm h1 hg
end Go.Proofs.YtbobhnldhpjdlaaGreatDoor
