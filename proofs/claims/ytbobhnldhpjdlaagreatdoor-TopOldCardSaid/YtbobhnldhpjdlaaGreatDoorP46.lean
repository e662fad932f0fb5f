/- Lemmas and walks: what each function does, by its own code. No condition beyond those of each statement. -/
import Derived.Test.YtbobhnldhpjdlaaGreatDoorP15
import Derived.Test.YtbobhnldhpjdlaaGreatDoorP21
import Derived.Test.YtbobhnldhpjdlaaGreatDoorP27
import Derived.Test.YtbobhnldhpjdlaaGreatDoorP35
import Derived.Test.YtbobhnldhpjdlaaGreatDoorP37
import Derived.Test.YtbobhnldhpjdlaaGreatDoorP38
import Derived.Test.YtbobhnldhpjdlaaGreatDoorP39
import Derived.Test.YtbobhnldhpjdlaaGreatDoorP40
import Derived.Test.YtbobhnldhpjdlaaGreatDoorP41
import Derived.Test.YtbobhnldhpjdlaaGreatDoorP45
set_option linter.all false
set_option linter.unusedVariables false
namespace Go.Proofs.YtbobhnldhpjdlaaGreatDoor
open Go Go.RowKit Go.Cs Go.Cz
set_option maxRecDepth 100000
set_option maxHeartbeats 4000000
structure PS where
 n:Nat
 lm:Nat
 rs:Nat
 k:Key
 con:Con
 L:List Rec
 c:List Bool
 s:List Nat
 now:List Dig
 Lc:List Rec
 dur:List Dig
 cell:Cel
 log:List Cel
 al:List UInt64
 mark:Nat
 us:List SUse
structure ML where
 d:SDsk
 I:DI
 lb:Nat
 lc:Nat
 ab:Nat
 tb:Nat
 ua:Option Addr
 uc:Nat
def c8 (p:PS) (x:ML):SSto:=⟨p.n,p.k,x.d,(some ⟨x.lb,0,none⟩,p.log.length,x.lc),⟨(some ⟨x.ab,0,none⟩,p.al.length,p.al.length),p.mark,p.lm,p.rs⟩,⟨p.n,(some ⟨x.tb,0,none⟩,tot p.n,tot p.n)⟩,⟨(x.ua,p.us.length,x.uc)⟩,false⟩
abbrev SFl (p:PS) (x:ML):List Pt:= [Dm x.d x.I,Sl aL (some ⟨x.lb,0,none⟩) p.log.length x.lc p.log,Sl cQ (some ⟨x.ab,0,none⟩) p.al.length p.al.length p.al,Sl a7 (some ⟨x.tb,0,none⟩) (tot p.n) (tot p.n) (treW p.L p.c p.s),Sl bP x.ua p.us.length x.uc p.us]
structure DM (p:PS) (x:ML) (T:Nat):Prop where
 ok:DOk x.d x.I (bas p.n (hgt p.n+1)) (1+24576*T) p.con
 sz:x.d.size=bas p.n (hgt p.n+1)
structure POk (p:PS) (T:Nat):Prop where
 work:Work p.n p.k p.con p.L p.c p.s p.now p.Lc p.dur p.cell
 aok:AOk ⟨(none,0,0),p.mark,p.lm,p.rs⟩ p.al
 shn:p.al.length≤p.n
 log0:0<p.log.length
 logm:p.log.length≤1+2*T
 usm:p.us.length≤T
 hT:T≤1000
 last:p.log.getD (p.log.length-1) default=p.cell
 mkc:p.cell.mark=p.mark
 use:∀i,i<p.us.length→(p.us.getD i default).Range.First≤(p.us.getD i default).Range.Last
 ep:p.cell.ep≤p.log.length
 sec:bas p.n (hgt p.n+1)≤10922
section
variable {p:PS} {M:ML} {T:Nat} {q:Value×Value}
theorem POk.n1 (hP:POk p T):1≤p.n:=hP.work.int.bl.1
theorem POk.n2 (hP:POk p T):p.n≤4096:=hP.work.int.bl.2
theorem POk.tok (hP:POk p T):UOk p.n (treW p.L p.c p.s):=UOk.treW hP.work.ok hP.work.ll
theorem POk.tln (hP:POk p T):(treW p.L p.c p.s).length=tot p.n:=hP.tok.ln
theorem wc (h1:1≤p.n) (hl:0<p.log.length) (hm:p.log.length≤65536) (hla:p.log.getD (p.log.length-1) default=p.cell):Zp Tryz.prog 36 [vA (aB (c8 p M))] [] [Sl aL (some ⟨M.lb,0,none⟩) p.log.length M.lc p.log] Unit (fun _=>True) (fun _=>vA (aL p.cell)) (fun _=> []) (fun _=> []):=by
 unfold c8
 refine ak fun G=> ?_
 rw [←hla]
 (repeat' ((try refine aw ?_);(conv=>arg 4;whnf);first | refine az ?_ |(refine sN ?_;intro b)|(refine sC ?_ ?_<;>intro h)|(refine au ?_ ?_<;>intro h<;>try contradiction)|(refine aa ?_;intro g c')| refine ae ?_ | refine ai ?_ | exact ax |(refine aj rfl ?_;intro D lL)| refine af ?_ ?_ | refine ah ?_ ?_ ?_ | fail));(all_goals refine av ?_)
theorem E3 (hl:0<p.log.length) (hm:p.log.length≤65536) {y:Cel}:Zp Tryz.prog 124 [vA (aB (c8 p M)),vA (aL y)] [] [Sl aL (some ⟨M.lb,0,none⟩) p.log.length M.lc p.log] (Nat×Nat) (fun _=>True) (fun z=>vA (aB (c8 {p with log:=p.log++ [y]} {M with lb:=z.1,lc:=z.2}))) (fun _=> []) (fun z=> [Sl aL (some ⟨z.1,0,none⟩) (p.log++ [y]).length z.2 (p.log++ [y])]):=by
 unfold c8
 refine ak fun G=> ?_
 refine aS 0 ?_
 intro _ hcl hml _
 (repeat' ((try refine aw ?_);(conv=>arg 4;whnf);first | refine aO ?_ |(refine sN ?_;intro b)|(refine sC ?_ ?_<;>intro h)|(refine au ?_ ?_<;>intro h<;>try contradiction)|(refine aa ?_;intro g c')| refine ae ?_ | refine ai ?_ | exact ax |(refine aj rfl ?_;intro D lL)| refine af ?_ ?_ | refine ah ?_ ?_ ?_ | fail));(all_goals refine av ?_)
 rename_i sb cb
 revert b;intro rb
 refine eD (X:=Nat×Nat) (fun z=> [(2,vP sb 0),(4,vP rb 0)]) (fun _=>True) (fun z=> [iB sb (aB (c8 {p with log:=p.log++ [y]} {M with lb:=z.1,lc:=z.2})) 48,iB rb (aB SSto.zero) 48,iN aL 34 (some ⟨z.1,0,none⟩) (p.log.length+1) z.2 80 (p.log++ [y])]) (fun _=> []) ?_ ?_
 ·intro K4
  (refine bh ?_;(conv=>arg 4;whnf);refine bc rfl ?_)
  (repeat' ((try refine aw ?_);(conv=>arg 4;whnf);first | refine aO ?_ |(refine sN ?_;intro b)|(refine sC ?_ ?_<;>intro h)|(refine au ?_ ?_<;>intro h<;>try contradiction)|(refine aa ?_;intro g c')| refine ae ?_ | refine ai ?_ | exact ax |(refine aj rfl ?_;intro D lL)| refine af ?_ ?_ | refine ah ?_ ?_ ?_ | fail));(all_goals refine av ?_)
  all_goals (refine Eg ?_;intro g c')
  (repeat' ((try refine aw ?_);(conv=>arg 4;whnf);first | refine aO ?_ |(refine sN ?_;intro b)|(refine sC ?_ ?_<;>intro h)|(refine au ?_ ?_<;>intro h<;>try contradiction)|(refine aa ?_;intro g c')| refine ae ?_ | refine ai ?_ | exact ax |(refine aj rfl ?_;intro D lL)| refine af ?_ ?_ | refine ah ?_ ?_ ?_ | fail));(all_goals refine av ?_)
  all_goals (
   refine d9 (g,c') True.intro ?_ bu
   unfold c8
   dsimp only
   rw [List.length_append]
   ((repeat' (first | with_reducible exact ar _ | exact am _ | refine aE ?_ ?_ | refine aG inferInstance ?_ | refine aX ?_))<;>(try with_reducible rfl))
   all_goals rfl)
 rintro ⟨g,c'⟩ _
 (conv=>arg 2;simp only [List.cons_append,List.nil_append])
 (conv=>arg 3;simp only [List.cons_append,List.nil_append])
 dsimp only
 refine eE (m:=34) (e:=80) aL (some ⟨g,0,none⟩) (p.log.length+1) c' ?_
 rw [show p.log.length+1=(p.log++ [y]).length by simp]
 (repeat' ((try refine aw ?_);(conv=>arg 4;whnf);first | refine aO ?_ |(refine sN ?_;intro b)|(refine sC ?_ ?_<;>intro h)|(refine au ?_ ?_<;>intro h<;>try contradiction)|(refine aa ?_;intro g c')| refine ae ?_ | refine ai ?_ | exact ax |(refine aj rfl ?_;intro D lL)| refine af ?_ ?_ | refine ah ?_ ?_ ?_ | fail));(all_goals refine av ?_)
 exact aD (g,c') True.intro rfl (am _) bu
end
end Go.Proofs.YtbobhnldhpjdlaaGreatDoor
namespace Go.Proofs.YtbobhnldhpjdlaaGreatDoor
open Go Go.RowKit Go.Cs Go.Cz
set_option maxRecDepth 100000
set_option maxHeartbeats 4000000
def PS.tak (p:PS) (sd:Nat):PS:={p with al:=p.al.set sd (p.al.getD sd default+1)}
def PS.ext (p:PS):PS:={p with mark:=p.mark+p.rs,cell:=p.cell.rsv p.rs,log:=p.log++ [p.cell.rsv p.rs]}
section
variable {p:PS} {M:ML} {T sd:Nat} {q:Value×Value}
theorem Ah {a0:Sv} (haok:AOk ⟨a0,p.mark,p.lm,p.rs⟩ p.al) (hsd:sd<p.al.length) (hs2:sd<4294967296) (hlt:(p.al.getD sd default).toNat<p.mark):Zp Tryz.prog 74 [vA (aB (c8 p M)),vI sd] [] [Sl cQ (some ⟨M.ab,0,none⟩) p.al.length p.al.length p.al] Nat (fun _=>True) (fun z=> .tuple #[vA (aB (c8 (p.tak sd) {M with ab:=z})),vA (br (jT sd (p.al.getD sd default) hs2)),vI 0]) (fun _=> []) (fun z=> [Sl cQ (some ⟨z,0,none⟩) (p.tak sd).al.length (p.tak sd).al.length (p.tak sd).al]):=by
 have haok1:AOk ⟨(some ⟨M.ab,0,none⟩,p.al.length,p.al.length),p.mark,p.lm,p.rs⟩ p.al:=⟨haok.l1,haok.l8,haok.ml,haok.r1,haok.r2,haok.rl,haok.lm,haok.cm⟩
 have htk:=FJ haok1 hsd hs2 hlt
 have hln:(p.tak sd).al.length=p.al.length:=by unfold PS.tak;simp
 unfold c8
 rw [hln]
 unfold PS.tak
 dsimp only at htk⊢
 refine ak fun G=> ?_
 (repeat' ((try refine aw ?_);(conv=>arg 4;whnf);first | refine az ?_ |(refine sN ?_;intro b)|(refine sC ?_ ?_<;>intro h)|(refine au ?_ ?_<;>intro h<;>try contradiction)|(refine aa ?_;intro g c')|(refine cw htk ?_;intro x hx;refine bV ?_)| refine ae ?_ | refine ai ?_ | exact ax |(refine aj rfl ?_;intro D lL)| refine af ?_ ?_ | refine ah ?_ ?_ ?_ | fail));(all_goals refine av ?_)
 exact aD x True.intro rfl (am _) bu
theorem Gz {a0:Sv} (h1:1≤p.n) (hl:0<p.log.length) (hm:p.log.length≤65000) (hla:p.log.getD (p.log.length-1) default=p.cell) (hmk:p.cell.mark=p.mark) (haok:AOk ⟨a0,p.mark,p.lm,p.rs⟩ p.al) (hsd:sd<p.al.length) (hs2:sd<4294967296) (heq:(p.al.getD sd default).toNat=p.mark) (hr:p.mark+p.rs≤p.lm):Zp Tryz.prog 74 [vA (aB (c8 p M)),vI sd] [] [Sl cQ (some ⟨M.ab,0,none⟩) p.al.length p.al.length p.al,Sl aL (some ⟨M.lb,0,none⟩) p.log.length M.lc p.log] (Nat×Nat×Nat) (fun _=>True) (fun z=> .tuple #[vA (aB (c8 (p.ext.tak sd) {M with ab:=z.1,lb:=z.2.1,lc:=z.2.2})),vA (br (jT sd (p.al.getD sd default) hs2)),vI 0]) (fun _=> []) (fun z=> [Sl cQ (some ⟨z.1,0,none⟩) (p.ext.tak sd).al.length (p.ext.tak sd).al.length (p.ext.tak sd).al,Sl aL (some ⟨z.2.1,0,none⟩) (p.ext.tak sd).log.length z.2.2 (p.ext.tak sd).log]):=by
 have haok1:AOk ⟨(some ⟨M.ab,0,none⟩,p.al.length,p.al.length),p.mark,p.lm,p.rs⟩ p.al:=⟨haok.l1,haok.l8,haok.ml,haok.r1,haok.r2,haok.rl,haok.lm,haok.cm⟩
 have htk:=GE haok1 hsd heq
 have hex:=Id haok1 hr
 have hcl:=wc (p:=p) (M:=M) h1 hl (by omega) hla
 have hrs:=HX (y:=p.cell) (k:=p.rs) (lim:=p.lm) haok.r1 (by rw [hmk];exact hr) haok.lm
 have hwi:=fun a=>E3 (p:={p with mark:=p.mark+p.rs}) (M:={M with ab:=a}) (y:=p.cell.rsv p.rs) hl (by dsimp only;omega)
 have hr1:1≤p.rs:=haok.r1
 have htk2:=fun a b c=>Ah (a0:=a0) (p:=p.ext) (M:={M with ab:=a,lb:=b,lc:=c}) (sd:=sd) ⟨haok.l1,haok.l8,hr,haok.r1,haok.r2,haok.rl,haok.lm,fun i hi=>Nat.le_trans (haok.cm i hi) (Nat.le_add_right _ _)⟩ hsd hs2 (by show (p.al.getD sd default).toNat<p.mark+p.rs;omega)
 unfold c8 at hcl⊢
 unfold c8 at hwi
 unfold c8 PS.ext PS.tak at htk2
 unfold PS.ext PS.tak
 dsimp only at hcl hwi htk2 htk hex hrs⊢
 refine ak fun G=> ?_
 (repeat' ((try refine aw ?_);(conv=>arg 4;whnf);first | refine aO ?_ |(refine sN ?_;intro b)|(refine sC ?_ ?_<;>intro h)|(refine au ?_ ?_<;>intro h<;>try contradiction)|(refine aa ?_;intro g c')|(refine aA htk ?_;intro x hx;refine aH ?_)|(refine cw hex ?_;intro x hx;refine bV ?_)| refine ae ?_ | refine ai ?_ | exact ax |(refine aj rfl ?_;intro D lL)| refine af ?_ ?_ | refine ah ?_ ?_ ?_ | fail));(all_goals refine av ?_)
 rename_i sb rb nb _ _ nb2
 revert b;intro ab
 refine eD (X:=Nat) (fun z=> [(1,vI sd),(2,vP sb 0),(4,vP rb 0),(5,vP nb 0),(8,vP ab 0),(9,vI 0),(10,vP z 0)]) (fun _=>True) (fun z=> [iB z (aL (p.cell.rsv p.rs)) 80,iB sb (aB ⟨p.n,p.k,M.d,(some ⟨M.lb,0,none⟩,p.log.length,M.lc),⟨(some ⟨M.ab,0,none⟩,p.al.length,p.al.length),p.mark,p.lm,p.rs⟩,⟨p.n,(some ⟨M.tb,0,none⟩,tot p.n,tot p.n)⟩,⟨(M.ua,p.us.length,M.uc)⟩,false⟩) 48,iB ab (aW ⟨(some ⟨x,0,none⟩,p.al.length,p.al.length),p.mark+p.rs,p.lm,p.rs⟩) 40,iB rb (aB SSto.zero) 48,iB nb (br Non.zero) 65]) (fun _=> []) ?_ ?_
 ·intro K4
  (refine bh ?_;(conv=>arg 4;whnf);refine bc rfl ?_)
  (repeat' ((try refine aw ?_);(conv=>arg 4;whnf);first | refine aO ?_ |(refine sN ?_;intro b)|(refine sC ?_ ?_<;>intro h)|(refine au ?_ ?_<;>intro h<;>try contradiction)|(refine aa ?_;intro g c')|((first | refine aA hcl ?_ | refine aA hrs ?_);intro x hx;refine aH ?_)| refine ae ?_ | refine ai ?_ | exact ax |(refine aj rfl ?_;intro D lL)| refine af ?_ ?_ | refine ah ?_ ?_ ?_ | fail));(all_goals refine av ?_)
  all_goals (
   revert b;intro zb
   exact d9 zb True.intro cD bu)
 intro zb _
 (conv=>arg 2;simp only [List.cons_append,List.nil_append])
 (conv=>arg 3;simp only [List.cons_append,List.nil_append])
 (repeat' ((try refine aw ?_);(conv=>arg 4;whnf);first | refine aO ?_ |(refine sN ?_;intro b)|(refine sC ?_ ?_<;>intro h)|(refine au ?_ ?_<;>intro h<;>try contradiction)|(refine aa ?_;intro g c')|((first | refine cw (hwi _) ?_ | refine cw (htk2 _ _ _) ?_);intro x hx;refine bV ?_)| refine ae ?_ | refine ai ?_ | exact ax |(refine aj rfl ?_;intro D lL)| refine af ?_ ?_ | refine ah ?_ ?_ ?_ | fail));(all_goals refine av ?_)
 rename_i wz _
 exact aD (x,wz.1,wz.2) True.intro rfl (am _) bu
end
end Go.Proofs.YtbobhnldhpjdlaaGreatDoor
namespace Go.Proofs.YtbobhnldhpjdlaaGreatDoor
open Go Go.RowKit Go.Cs Go.Cz
set_option maxRecDepth 100000
set_option maxHeartbeats 4000000
def PS.put (p:PS) (bi:Nat) (xn:Non) (yd:Dig):PS:={p with con:=p.con.put (2*bi+dX p.L p.c bi) (some (cJ p.k xn yd).l),L:=p.L.set bi (cE p.L p.c bi xn (il p.k bi xn (cJ p.k xn yd))),c:=p.c.set bi true,now:=p.now.set bi yd,us:=p.us++ [⟨p.k.enc,⟨xn,0,1⟩⟩]}
section
variable {p:PS} {M:ML} {T T2 bi:Nat} {xn:Non} {yd:Dig} {q:Value×Value}
theorem I8 (hP:POk p T2) (hD:DM p M T) (hT:T≤1000) (hb:bi<p.n):Zp Tryz.prog 75 [vA (aB (c8 p M)),vI bi,vA (br xn),vA (ay yd)] [] [Dm M.d M.I,Sl a7 (some ⟨M.tb,0,none⟩) (tot p.n) (tot p.n) (treW p.L p.c p.s),Sl bP M.ua p.us.length M.uc p.us,Gs q] (SDsk×DI×Nat×Nat) (fun z=>DOk z.1 z.2.1 (bas p.n (hgt p.n+1)) (1+24576*T+1) (p.put bi xn yd).con∧z.1.size=bas p.n (hgt p.n+1)) (fun z=> .tuple #[vA (aB (c8 (p.put bi xn yd) {M with d:=z.1,I:=z.2.1,tb:=z.2.2.1,ua:=some ⟨z.2.2.2,0,none⟩,uc:=p.us.length+1})),vI 0]) (fun _=> []) (fun z=> [Dm z.1 z.2.1,Sl a7 (some ⟨z.2.2.1,0,none⟩) (tot p.n) (tot p.n) (treW (p.put bi xn yd).L (p.put bi xn yd).c p.s),Sl bP (some ⟨z.2.2.2,0,none⟩) (p.put bi xn yd).us.length (p.us.length+1) (p.put bi xn yd).us]):=by
 have h1:=hP.n1
 have h2:=hP.n2
 have hU:=hP.tok
 have hll:=hP.work.ll
 have hT2:=hP.hT
 have hok:=hP.work.ok
 have htg:=FA hok hll hb
 have htl:dX p.L p.c bi≤1:=pM hok (by rw [hll];exact hb)
 have hpt:=Gt (tb:=M.tb) (to:=0) (m:=tot p.n) (c:=tot p.n) (q:=q) hU hb (k:=p.k) (xn:=xn) (yd:=yd)
 rw [Gb hok hll hb,hP.tln] at hpt
 have htg':fM ((treW p.L p.c p.s).getD (bi/4) default) (bi%4)=dX p.L p.c bi:=htg
 rw [htg'] at hpt
 have hsec:2*bi+dX p.L p.c bi<M.I.size:=by
  rw [hD.ok.size];have:=pY p.n (hgt p.n+1);omega
 have hvl:=hD.ok.vl (2*bi+dX p.L p.c bi)
 have hvl2:(M.I.vs.getD (2*bi+dX p.L p.c bi) []).length≤1099511627776:=by
  rw [←hD.ok.cn,DI.con_len] at hvl;omega
 have hchg:=hD.ok.chg
 have hdw:=fun (a:Option Addr) (n c:Nat)=>uJ (d:=M.d) (I:=M.I) (s:=2*bi+dX p.L p.c bi) (a:=a) (n:=n) (c:=c) (l:=(cJ p.k xn yd).l) hD.ok.ok hsec (by omega) hvl2 (by rw [(cJ p.k xn yd).h];decide)
 have husm:=hP.usm
 have hla:=Jk (a:=M.ua) (n:=p.us.length) (c:=M.uc) (us:=p.us) (u:=⟨p.k.enc,⟨xn,0,1⟩⟩) (by omega) hP.use (Nat.zero_le _)
 unfold c8
 refine ak fun G=> ?_
 (repeat' ((try refine aw ?_);(conv=>arg 4;whnf);first | refine aO ?_ |(refine sN ?_;intro b)|(refine sC ?_ ?_<;>intro h)|(refine au ?_ ?_<;>intro h<;>try contradiction)|(refine aa ?_;intro g c')|(refine cw hpt ?_;intro x hx;refine bV ?_)|(refine aA Iw ?_;intro x hx;refine aH ?_)|((first | refine cw hla ?_ | refine cw (hdw _ _ _) ?_);intro x hx;refine bV ?_)| refine ae ?_ | refine ai ?_ | exact ax |(refine aj rfl ?_;intro D lL)| refine af ?_ ?_ | refine ah ?_ ?_ ?_ | fail));(all_goals refine av ?_)
 rename_i zt _ _ _ _ _ ub _
 obtain ⟨d',nb,v1,v2⟩:=x
 have hsec2:=hsec
 rw [hD.ok.size] at hsec2
 have hput:=hD.ok.put (d':=d') (nb:=nb) (s:=2*bi+dX p.L p.c bi) (v:=⟨v1,v2,true,(cJ p.k xn yd).l⟩) hsec2 hx.2 (fun _=>by rw [(cJ p.k xn yd).h];decide)
 rw [if_pos (show (⟨v1,v2,true,(cJ p.k xn yd).l⟩:VN).th=true from rfl)] at hput
 have e:(p.us++ [(⟨p.k.enc,⟨xn,0,1⟩⟩:SUse)]).length=p.us.length+1:=by simp
 unfold PS.put
 dsimp only
 rw [e]
 exact aD (d',M.I.put (2*bi+dX p.L p.c bi) nb ⟨v1,v2,true,(cJ p.k xn yd).l⟩,zt.1,ub) ⟨hput,hx.1.trans hD.sz⟩ rfl (am _) bu
end
end Go.Proofs.YtbobhnldhpjdlaaGreatDoor
namespace Go.Proofs.YtbobhnldhpjdlaaGreatDoor
open Go Go.RowKit Go.Cs Go.Cz
set_option maxRecDepth 100000
set_option maxHeartbeats 4000000
theorem HZ {P:Program} {f:FuncId} {args:List Value} {Fi Fi':List Pt} {X X':Type} {p:X→Prop} {p':X'→Prop} {r:X→Value} {r':X'→Value} {Oo:X→List It} {Oo':X'→List It} {Fo:X→List Pt} {Fo':X'→List Pt} (h:Zp P f args [] Fi X p r Oo Fo) (hFi:∀g∈Fi,g∈Fi') (m:X→X')
  (hp:∀x,p x→p' (m x)) (hr:∀x,r x=r' (m x)) (hO:∀x,Wk (Oo x) (Oo' (m x))) (hF:∀x,∀g∈Fo' (m x),g∈Fo x++Fi'):Zp P f args [] Fi' X' p' r' Oo' Fo':=⟨h.en,fun w B hp0=>(h.go w B (hp0.wk (ar _) hFi)).mono (by
 rintro e w' ⟨v,rfl,x,hx,rfl,hp'⟩
 have h1:=Hp.step (G:=⟨w,fps [],B⟩) (L:= []) (O:= []) (w':=w') (F':=Fo x) (L':=Oo x) (by simpa using hp0) hp'.ch hp'.own hp'.nd (fun k hk=>⟨(hp'.fr k hk).1,(hp'.fr k hk).2.1⟩) (by simpa using hp'.st)
 exact ⟨_,rfl,m x,hp x hx,hr x,h1.wk (by simpa using hO x) (hF x)⟩)⟩
def PS.res (p:PS) (sd:Nat):PS:={p with
 mark:=if (p.al.getD sd default).toNat<p.mark then p.mark else p.mark+p.rs
 cell:=if (p.al.getD sd default).toNat<p.mark then p.cell else p.cell.rsv p.rs
 log:=if (p.al.getD sd default).toNat<p.mark then p.log else p.log++ [p.cell.rsv p.rs]}
theorem oT {p:PS} {sd:Nat} (h:(p.al.getD sd default).toNat<p.mark):p.res sd=p:=by unfold PS.res;simp only [if_pos h]
theorem ph {p:PS} {sd:Nat} (h:¬(p.al.getD sd default).toNat<p.mark):p.res sd=p.ext:=by unfold PS.res PS.ext;simp only [if_neg h]
theorem MM {P:Program} {f:FuncId} {args:List Value} {Oi:List It} {Fi Fi':List Pt} {X:Type} {p:X→Prop} {r:X→Value} {Oo:X→List It} {Fo:X→List Pt} (h:Zp P f args Oi Fi X p r Oo Fo) (e:Fi=Fi'):Zp P f args Oi Fi' X p r Oo Fo:=e▸h
section
variable {p:PS} {M:ML} {T sd:Nat} {q:Value×Value}
theorem BK {n:Nat} {k:Key} {con:Con} {L Lc:List Rec} {c:List Bool} {s:List Nat} {now dur:List Dig} {cell:Cel} (h:Work n k con L c s now Lc dur cell) (r:Nat):Work n k con L c s now Lc dur (cell.rsv r):=
 ⟨⟨h.int.ll,h.int.ok,h.int.dl,h.int.nds,h.int.dat,h.int.root,h.int.slot⟩,h.ok,h.ll,h.nl,h.dat,h.old,h.new⟩
theorem POk.up (hP:POk p T) (hT:T<1000):POk p (T+1):=⟨hP.work,hP.aok,hP.shn,hP.log0,by have:=hP.logm;omega,by have:=hP.usm;omega,hT,hP.last,hP.mkc,hP.use,hP.ep,hP.sec⟩
theorem POk.ext (hP:POk p T) (hT:T<1000) (hr:p.mark+p.rs≤p.lm):POk p.ext (T+1):=by
 have hlm:=hP.aok.lm
 dsimp only at hlm
 have hmk:=hP.mkc
 refine ⟨BK hP.work _,⟨hP.aok.l1,hP.aok.l8,hr,hP.aok.r1,hP.aok.r2,hP.aok.rl,hP.aok.lm,fun i hi=>Nat.le_trans (hP.aok.cm i hi) (Nat.le_add_right _ _)⟩,hP.shn, ?_, ?_,Nat.le_succ_of_le hP.usm,hT, ?_, ?_,hP.use, ?_,hP.sec⟩
 ·show 0<(p.log++ [p.cell.rsv p.rs]).length;simp
 ·show (p.log++ [p.cell.rsv p.rs]).length≤_;have:=hP.logm;simp;omega
 ·show (p.log++ [p.cell.rsv p.rs]).getD ((p.log++ [p.cell.rsv p.rs]).length-1) default=p.cell.rsv p.rs;simp [List.getD]
 ·show (p.cell.mark+p.rs)%2^64=p.mark+p.rs;rw [hmk];omega
 ·show p.cell.ep≤(p.log++ [p.cell.rsv p.rs]).length;have:=hP.ep;simp;omega
theorem POk.res (hP:POk p T) (hT:T<1000) (hr:¬(p.al.getD sd default).toNat<p.mark→p.mark+p.rs≤p.lm):POk (p.res sd) (T+1):=by
 by_cases h:(p.al.getD sd default).toNat<p.mark
 ·rw [oT h];exact hP.up hT
 ·rw [ph h];exact hP.ext hT (hr h)
theorem B4 (hP:POk p T) (hsd:sd<p.al.length):((p.res sd).al.getD sd default).toNat<(p.res sd).mark:=by
 by_cases h:(p.al.getD sd default).toNat<p.mark
 ·rw [oT h];exact h
 ·rw [ph h]
  have h1:=hP.aok.cm sd hsd
  have h2:1≤p.rs:=hP.aok.r1
  show (p.al.getD sd default).toNat<p.mark+p.rs
  dsimp only at h1
  omega
theorem POk.tak (hP:POk p T) (hsd:sd<p.al.length) (hlt:(p.al.getD sd default).toNat<p.mark):POk (p.tak sd) T:=by
 have hm:p.mark≤p.lm:=hP.aok.ml
 have hlm:p.lm<18446744073709551616:=hP.aok.lm
 have hln:(p.al.set sd (p.al.getD sd default+1)).length=p.al.length:=by simp
 refine ⟨hP.work,⟨by show 1≤(p.al.set sd _).length;rw [hln];exact hP.aok.l1,by show (p.al.set sd _).length≤8;rw [hln];exact hP.aok.l8,hP.aok.ml,hP.aok.r1,hP.aok.r2,hP.aok.rl,hP.aok.lm,fun i hi=> ?_⟩,by show (p.al.set sd _).length≤_;rw [hln];exact hP.shn,hP.log0,hP.logm,hP.usm,hP.hT,hP.last,hP.mkc,hP.use,hP.ep,hP.sec⟩
 show ((p.al.set sd (p.al.getD sd default+1)).getD i default).toNat≤p.mark
 by_cases e:i=sd
 ·subst e
  have:(p.al.set i (p.al.getD i default+1)).getD i default=p.al.getD i default+1:=by simp [List.getD,hsd]
  rw [this,UInt64.toNat_add]
  show ((p.al.getD i default).toNat+1)%2^64≤_
  omega
 ·have:(p.al.set sd (p.al.getD sd default+1)).getD i default=p.al.getD i default:=by simp [List.getD,List.getElem?_set_ne (Ne.symm e)]
  rw [this]
  exact hP.aok.cm i (by change i<(p.al.set sd _).length at hi;rw [hln] at hi;exact hi)
theorem POk.put {bi:Nat} {xn:Non} {yd:Dig} (hP:POk p T) (hb:bi<p.n) (hu:p.us.length<T):POk (p.put bi xn yd) T:=by
 refine ⟨hP.work.write hb xn yd,hP.aok,hP.shn,hP.log0,hP.logm, ?_,hP.hT,hP.last,hP.mkc,fun i hi=> ?_,hP.ep,hP.sec⟩
 ·show (p.us++ [(⟨p.k.enc,⟨xn,0,1⟩⟩:SUse)]).length≤T;simp;omega
 ·have hi':i<p.us.length+1:=by
   change i<(p.us++ [(⟨p.k.enc,⟨xn,0,1⟩⟩:SUse)]).length at hi;simpa using hi
  show ((p.us++ [(⟨p.k.enc,⟨xn,0,1⟩⟩:SUse)]).getD i default).Range.First≤((p.us++ [(⟨p.k.enc,⟨xn,0,1⟩⟩:SUse)]).getD i default).Range.Last
  by_cases e:i<p.us.length
  ·have:(p.us++ [(⟨p.k.enc,⟨xn,0,1⟩⟩:SUse)]).getD i default=p.us.getD i default:=by simp [List.getD,List.getElem?_append_left e]
   rw [this];exact hP.use i e
  ·have e2:i=p.us.length:=by omega
   subst e2
   simp [List.getD]
theorem dY {d:SDsk} {I:DI} {sz B B':Nat} {con:Con} (h:DOk d I sz B con) (hB:B≤B'):DOk d I sz B' con:=⟨h.ok,h.size,h.cn,Nat.le_trans h.chg hB,fun i=>Nat.le_trans (h.vl i) hB,h.bl⟩
theorem I6 (hP:POk p T) (hsd:sd<p.al.length) (hs2:sd<4294967296) (hr:¬(p.al.getD sd default).toNat<p.mark→p.mark+p.rs≤p.lm):Zp Tryz.prog 74 [vA (aB (c8 p M)),vI sd] [] [Sl cQ (some ⟨M.ab,0,none⟩) p.al.length p.al.length p.al,Sl aL (some ⟨M.lb,0,none⟩) p.log.length M.lc p.log] (Nat×Nat×Nat) (fun _=>True) (fun z=> .tuple #[vA (aB (c8 ((p.res sd).tak sd) {M with ab:=z.1,lb:=z.2.1,lc:=z.2.2})),vA (br (jT sd (p.al.getD sd default) hs2)),vI 0]) (fun _=> []) (fun z=> [Sl cQ (some ⟨z.1,0,none⟩) ((p.res sd).tak sd).al.length ((p.res sd).tak sd).al.length ((p.res sd).tak sd).al,Sl aL (some ⟨z.2.1,0,none⟩) ((p.res sd).tak sd).log.length z.2.2 ((p.res sd).tak sd).log]):=by
 by_cases hlt:(p.al.getD sd default).toNat<p.mark
 ·rw [oT hlt]
  refine HZ (Ah (M:=M) hP.aok hsd hs2 hlt) (by simp) (fun z=>(z,M.lb,M.lc)) (fun _ _=>True.intro) (fun _=>rfl) (fun _=>ar _) (fun x g hg=> ?_)
  rcases List.mem_cons.1 hg with rfl | hg
  ·exact .head _
  ·rcases List.mem_cons.1 hg with rfl | hg
   ·exact .tail _ (.tail _ (.head _))
   ·cases hg
 ·rw [ph hlt]
  have h1:=hP.aok.cm sd hsd
  dsimp only at h1
  have h2:=hP.logm
  have h3:=hP.hT
  exact Gz hP.n1 hP.log0 (by omega) hP.last hP.mkc hP.aok hsd hs2 (by omega) (hr hlt)
end
end Go.Proofs.YtbobhnldhpjdlaaGreatDoor
namespace Go.Proofs.YtbobhnldhpjdlaaGreatDoor
open Go Go.RowKit Go.Cs Go.Cz
set_option maxRecDepth 100000
set_option maxHeartbeats 4000000
instance:Mi Tryz.prog 346:=⟨fun v w=>by kernel_rfl⟩
instance (priority:=2000) {f:Fn} {a b:Array Value} {v u t s:Value} {cs:List Value}:Sb (s::t::u::v:: .func f a b::cs) (4*1) [.func f a b] True:=⟨fun _=>⟨[s,t,u,v],cs,rfl,rfl⟩⟩
theorem cY {v u:SSto}:Zp Tryz.prog 76 [vA (aB v),vA (aB u), .nilIface] [] [] Unit (fun _=>True) (fun _=> .tuple #[vA (aB u),vI 0]) (fun _=> []) (fun _=> []):=by
 refine ak fun G=> ?_
 (repeat' ((try refine aw ?_);(conv=>arg 4;whnf);first | refine az ?_ |(refine sN ?_;intro b)|(refine sC ?_ ?_<;>intro h)|(refine au ?_ ?_<;>intro h<;>try contradiction)|(refine aa ?_;intro g c')| refine ae ?_ | refine ai ?_ | exact ax |(refine aj rfl ?_;intro D lL)| refine af ?_ ?_ | refine ah ?_ ?_ ?_ | fail));(all_goals refine av ?_)
 refine nF nK ?_
 (repeat' ((try refine aw ?_);(conv=>arg 4;whnf);first | refine az ?_ |(refine sN ?_;intro b)|(refine sC ?_ ?_<;>intro h)|(refine au ?_ ?_<;>intro h<;>try contradiction)|(refine aa ?_;intro g c')| refine ae ?_ | refine ai ?_ | exact ax |(refine aj rfl ?_;intro D lL)| refine af ?_ ?_ | refine ah ?_ ?_ ?_ | fail));(all_goals refine av ?_)
section
variable {p:PS} {M:ML} {T:Nat} {q:Value×Value}
def PS.wrt (p:PS) (bi:Nat) (yd:Dig) (hs:bi%p.al.length<4294967296):PS:=((p.res (bi%p.al.length)).tak (bi%p.al.length)).put bi (jT (bi%p.al.length) (p.al.getD (bi%p.al.length) default) hs) yd
theorem I4 (hP:POk p T) (hD:DM p M T) (hT:T<1000) {bi c vb ib db nx ad ao:Nat} {l:List UInt8} {u:SSto} (hl:l.length=32) (hb:bi<p.n) (hs2:bi%p.al.length<4294967296) (hr:¬(p.al.getD (bi%p.al.length) default).toNat<p.mark→p.mark+p.rs≤p.lm):Zp Tryz.prog 73 [vP vb 0,vP ib 0,vP db 0,vP nx 0] [iB nx (aB u) 48] [Bk vb (aB (c8 p M)),Bk ib [vI bi],Bk db [.slice (some ⟨ad,ao,none⟩) 32 c],Dm M.d M.I,Sl aL (some ⟨M.lb,0,none⟩) p.log.length M.lc p.log,Sl cQ (some ⟨M.ab,0,none⟩) p.al.length p.al.length p.al,Sl a7 (some ⟨M.tb,0,none⟩) (tot p.n) (tot p.n) (treW p.L p.c p.s),Sl bP M.ua p.us.length M.uc p.us,Sl cB (some ⟨ad,ao,none⟩) 32 c l,Gs q] ML (fun z=>DM (p.wrt bi (Dig.of l) hs2) z (T+1)) (fun z=> .nilIface) (fun z=> [iB nx (aB (c8 (p.wrt bi (Dig.of l) hs2) z)) 48]) (fun z=>SFl (p.wrt bi (Dig.of l) hs2) z):=by
 have h1:=hP.n1
 have hsd:bi%p.al.length<p.al.length:=Nat.mod_lt _ hP.aok.l1
 have hP2:POk ((p.res (bi%p.al.length)).tak (bi%p.al.length)) (T+1):=(hP.res hT hr).tak hsd (B4 hP hsd)
 have htk:=I6 (M:=M) hP hsd hs2 hr
 have hpu:=fun a b c=>MM (Fi':= [Dm M.d M.I,Sl a7 (some ⟨M.tb,0,none⟩) (tot p.n) (tot p.n) (treW p.L p.c p.s),Sl bP M.ua p.us.length M.uc p.us,Gs q]) (I8 (p:=(p.res (bi%p.al.length)).tak (bi%p.al.length)) (M:={M with ab:=a,lb:=b,lc:=c}) (T:=T) (q:=q) (bi:=bi) (xn:=jT (bi%p.al.length) (p.al.getD (bi%p.al.length) default) hs2) (yd:=Dig.of l) hP2 ⟨hD.ok,hD.sz⟩ (by omega) hb) rfl
 generalize hp2:(p.res (bi%p.al.length)).tak (bi%p.al.length)=p2 at htk hpu
 generalize hxn:jT (bi%p.al.length) (p.al.getD (bi%p.al.length) default) hs2=xn at htk hpu
 have hw:p.wrt bi (Dig.of l) hs2=p2.put bi xn (Dig.of l):=by rw [←hp2,←hxn];rfl
 rw [hw]
 have hal1:=hP.aok.l1
 rw [show c8 p M=⟨p.n,p.k,M.d,(some ⟨M.lb,0,none⟩,p.log.length,M.lc),⟨(some ⟨M.ab,0,none⟩,p.al.length,p.al.length),p.mark,p.lm,p.rs⟩,⟨p.n,(some ⟨M.tb,0,none⟩,tot p.n,tot p.n)⟩,⟨(M.ua,p.us.length,M.uc)⟩,false⟩ from rfl]
 refine ak fun G=> ?_
 refine aR (Sl cB (some ⟨ad,ao,none⟩) 32 32 l) (fun w _ hf=>vO (hf (Sl cB (some ⟨ad,ao,none⟩) 32 c l) (by simp))) ?_
 (repeat' ((try refine aw ?_);(conv=>arg 4;whnf);first | refine aO ?_ |(refine sN ?_;intro b)|(refine sC ?_ ?_<;>intro h)|(refine au ?_ ?_<;>intro h<;>try contradiction)|(refine aa ?_;intro g c')| refine ae ?_ | refine ai ?_ | exact ax |(refine aj rfl ?_;intro D lL)| refine af ?_ ?_ | refine ah ?_ ?_ ?_ | fail));(all_goals refine av ?_)
 refine eD (X:=Nat×Nat×Nat×Nat×Nat) (fun x=> [(0,vP vb 0),(1,vP ib 0),(2,vP db 0),(3,vP nx 0),(4, .nilIface),(5,vP x.1 0),(6,vP x.2.1 0),(7,vI 0)]) (fun _=>True) (fun x=> [iB x.1 (aB (c8 p2 {M with ab:=x.2.2.1,lb:=x.2.2.2.1,lc:=x.2.2.2.2})) 48,iB x.2.1 (br xn) 65,iB nx (aB u) 48]) (fun x=> [Sl cQ (some ⟨x.2.2.1,0,none⟩) p2.al.length p2.al.length p2.al,Sl aL (some ⟨x.2.2.2.1,0,none⟩) p2.log.length x.2.2.2.2 p2.log]) ?_ ?_
 ·intro K4
  (first | refine bF rfl rfl ?_ |(refine bh ?_;(conv=>arg 4;whnf);refine bc rfl ?_))
  (repeat' ((try refine aw ?_);(conv=>arg 4;whnf);first | refine aO ?_ |(refine sN ?_;intro b)|(refine sC ?_ ?_<;>intro h)|(refine au ?_ ?_<;>intro h<;>try contradiction)|(refine aa ?_;intro g c')|(refine cw htk ?_;intro x hx;refine bV ?_)| refine ae ?_ | refine ai ?_ | exact ax |(refine aj rfl ?_;intro D lL)| refine af ?_ ?_ | refine ah ?_ ?_ ?_ | fail));(all_goals refine av ?_)
  all_goals (
   revert b;intro b2
   first | exact d9 (b2,b,x.1,x.2.1,x.2.2) True.intro cD bu | exact d9 (b,b2,x.1,x.2.1,x.2.2) True.intro cD bu)
 rintro ⟨zs,zn,za,zl,zc⟩ _
 (conv=>arg 2;simp only [List.cons_append,List.nil_append])
 (conv=>arg 3;simp only [List.cons_append,List.nil_append])
 dsimp only
 (repeat' ((try refine aw ?_);(conv=>arg 4;whnf);first | refine aO ?_ |(refine sN ?_;intro b)|(refine sC ?_ ?_<;>intro h)|(refine au ?_ ?_<;>intro h<;>try contradiction)|(refine aa ?_;intro g c')| refine ae ?_ | refine ai ?_ | exact ax |(refine aj rfl ?_;intro D lL)| refine af ?_ ?_ | refine ah ?_ ?_ ?_ | fail));(all_goals refine av ?_)
 have hpu1:=hpu za zl zc
 refine eD (X:=SDsk×DI×Nat×Nat) (fun x=> [(4, .nilIface),(7,vI 0)]) (fun x=>DOk x.1 x.2.1 (bas p2.n (hgt p2.n+1)) (1+24576*T+1) (p2.put bi xn (Dig.of l)).con∧x.1.size=bas p2.n (hgt p2.n+1)) (fun z=> [iB nx (aB (c8 (p2.put bi xn (Dig.of l)) {M with ab:=za,lb:=zl,lc:=zc,d:=z.1,I:=z.2.1,tb:=z.2.2.1,ua:=some ⟨z.2.2.2,0,none⟩,uc:=p2.us.length+1})) 48]) (fun z=> [Dm z.1 z.2.1,Sl a7 (some ⟨z.2.2.1,0,none⟩) (tot p2.n) (tot p2.n) (treW (p2.put bi xn (Dig.of l)).L (p2.put bi xn (Dig.of l)).c p2.s),Sl bP (some ⟨z.2.2.2,0,none⟩) (p2.put bi xn (Dig.of l)).us.length (p2.us.length+1) (p2.put bi xn (Dig.of l)).us]) ?_ ?_
 ·intro K4
  refine dH [nx] rfl ?_
  (repeat' ((try refine aw ?_);(conv=>arg 4;whnf);first | refine aO ?_ |(refine sN ?_;intro b)|(refine sC ?_ ?_<;>intro h)|(refine au ?_ ?_<;>intro h<;>try contradiction)|(refine aa ?_;intro g c')|(refine cw hpu1 ?_;intro x hx;refine bV ?_)| refine ae ?_ | refine ai ?_ | exact ax |(refine aj rfl ?_;intro D lL)| refine af ?_ ?_ | refine ah ?_ ?_ ?_ | fail));(all_goals refine av ?_)
  exact d9 x hx (by
   ((repeat' (first | with_reducible exact ar _ | exact am _ | refine aE ?_ ?_ | refine aG inferInstance ?_ | refine aX ?_))<;>(try with_reducible rfl))
   all_goals rfl) bu
 rintro ⟨zd,zI,zt,zu⟩ hz
 (conv=>arg 2;simp only [List.cons_append,List.nil_append])
 (conv=>arg 3;simp only [List.cons_append,List.nil_append])
 dsimp only at hz⊢
 (repeat' ((try refine aw ?_);(conv=>arg 4;whnf);first | refine aO ?_ |(refine sN ?_;intro b)|(refine sC ?_ ?_<;>intro h)|(refine au ?_ ?_<;>intro h<;>try contradiction)|(refine aa ?_;intro g c')| refine ae ?_ | refine ai ?_ | exact ax |(refine aj rfl ?_;intro D lL)| refine af ?_ ?_ | refine ah ?_ ?_ ?_ | fail));(all_goals refine av ?_)
 refine aD {M with ab:=za,lb:=zl,lc:=zc,d:=zd,I:=zI,tb:=zt,ua:=some ⟨zu,0,none⟩,uc:=p2.us.length+1} ⟨dY hz.1 (by omega),hz.2⟩ rfl cD ?_
 show ∀f∈([Dm zd zI,Sl aL (some ⟨zl,0,none⟩) p2.log.length zc p2.log,Sl cQ (some ⟨za,0,none⟩) p2.al.length p2.al.length p2.al,Sl a7 (some ⟨zt,0,none⟩) (tot p2.n) (tot p2.n) (treW (p2.put bi xn (Dig.of l)).L (p2.put bi xn (Dig.of l)).c p2.s),Sl bP (some ⟨zu,0,none⟩) (p2.put bi xn (Dig.of l)).us.length (p2.us.length+1) (p2.put bi xn (Dig.of l)).us]:List Pt),f∈_
 exact bu
theorem E6 (hP:POk p T) (hD:DM p M T) (hT:T<1000) {bi c ad ao:Nat} {l:List UInt8} (hl:l.length=32) (hb:bi<p.n) (hs2:bi%p.al.length<4294967296) (hr:¬(p.al.getD (bi%p.al.length) default).toNat<p.mark→p.mark+p.rs≤p.lm):Zp Tryz.prog 12 [vA (aB (c8 p M)),vI bi, .slice (some ⟨ad,ao,none⟩) 32 c] [] [Dm M.d M.I,Sl aL (some ⟨M.lb,0,none⟩) p.log.length M.lc p.log,Sl cQ (some ⟨M.ab,0,none⟩) p.al.length p.al.length p.al,Sl a7 (some ⟨M.tb,0,none⟩) (tot p.n) (tot p.n) (treW p.L p.c p.s),Sl bP M.ua p.us.length M.uc p.us,Sl cB (some ⟨ad,ao,none⟩) 32 c l,Gs q] ML (fun z=>DM (p.wrt bi (Dig.of l) hs2) z (T+1)) (fun z=> .tuple #[vA (aB (c8 (p.wrt bi (Dig.of l) hs2) z)),vI 0]) (fun _=> []) (fun z=>SFl (p.wrt bi (Dig.of l) hs2) z):=by
 have h1:=hP.n1
 have husm:=hP.usm
 have hTT:=hP.hT
 have hw4:=fun vb ib db nx u=>I4 (M:=M) (vb:=vb) (ib:=ib) (db:=db) (nx:=nx) (u:=u) (c:=c) (ad:=ad) (ao:=ao) (q:=q) hP hD hT hl hb hs2 hr
 have hvE:c8 p M=⟨p.n,p.k,M.d,(some ⟨M.lb,0,none⟩,p.log.length,M.lc),⟨(some ⟨M.ab,0,none⟩,p.al.length,p.al.length),p.mark,p.lm,p.rs⟩,⟨p.n,(some ⟨M.tb,0,none⟩,tot p.n,tot p.n)⟩,⟨(M.ua,p.us.length,M.uc)⟩,false⟩:=rfl
 rw [hvE] at hw4⊢
 refine ak fun G=> ?_
 (repeat' ((try refine aw ?_);(conv=>arg 4;whnf);first | refine aO ?_ |(refine sN ?_;intro b)|(refine sC ?_ ?_<;>intro h)|(refine au ?_ ?_<;>intro h<;>try contradiction)|(refine aa ?_;intro g c')|(refine aA cY ?_;intro x hx;refine aH ?_)| refine ae ?_ | refine ai ?_ | exact ax |(refine aj rfl ?_;intro D lL)| refine af ?_ ?_ | refine ah ?_ ?_ ?_ | fail));(all_goals refine av ?_)
 rename_i vb ib db rb nx
 revert b;intro fb
 refine bG vb ?_
 refine bG ib ?_
 refine bG db ?_
 refine bG fb ?_
 have hw5:=hw4 vb ib db nx
 refine gJ 6 (bN ?_)
 (repeat' ((try refine aw ?_);(conv=>arg 4;whnf);first | refine aO ?_ |(refine sN ?_;intro b)|(refine sC ?_ ?_<;>intro h)|(refine au ?_ ?_<;>intro h<;>try contradiction)|(refine aa ?_;intro g c')|(refine da (hw5 _) ?_;intro x hx;refine bV ?_)|(refine aA cY ?_;intro x hx;refine aH ?_)| refine ae ?_ | refine ai ?_ | exact ax |(refine aj rfl ?_;intro D lL)| refine af ?_ ?_ | refine ah ?_ ?_ ?_ | fail));(all_goals refine av ?_)
 refine bN ?_
 (repeat' ((try refine aw ?_);(conv=>arg 4;whnf);first | refine aO ?_ |(refine sN ?_;intro b)|(refine sC ?_ ?_<;>intro h)|(refine au ?_ ?_<;>intro h<;>try contradiction)|(refine aa ?_;intro g c')|(refine da (hw5 _) ?_;intro x hx;refine bV ?_)|(refine aA cY ?_;intro x hx;refine aH ?_)| refine ae ?_ | refine ai ?_ | exact ax |(refine aj rfl ?_;intro D lL)| refine af ?_ ?_ | refine ah ?_ ?_ ?_ | fail));(all_goals refine av ?_)
 refine bN ?_
 (repeat' ((try refine aw ?_);(conv=>arg 4;whnf);first | refine aO ?_ |(refine sN ?_;intro b)|(refine sC ?_ ?_<;>intro h)|(refine au ?_ ?_<;>intro h<;>try contradiction)|(refine aa ?_;intro g c')|(refine da (hw5 _) ?_;intro x hx;refine bV ?_)|(refine aA cY ?_;intro x hx;refine aH ?_)| refine ae ?_ | refine ai ?_ | exact ax |(refine aj rfl ?_;intro D lL)| refine af ?_ ?_ | refine ah ?_ ?_ ?_ | fail));(all_goals refine av ?_)
 refine bN ?_
 (repeat' ((try refine aw ?_);(conv=>arg 4;whnf);first | refine aO ?_ |(refine sN ?_;intro b)|(refine sC ?_ ?_<;>intro h)|(refine au ?_ ?_<;>intro h<;>try contradiction)|(refine aa ?_;intro g c')|(refine da (hw5 _) ?_;intro x hx;refine bV ?_)|(refine aA cY ?_;intro x hx;refine aH ?_)| refine ae ?_ | refine ai ?_ | exact ax |(refine aj rfl ?_;intro D lL)| refine af ?_ ?_ | refine ah ?_ ?_ ?_ | fail));(all_goals refine av ?_)
 refine bN ?_
 (repeat' ((try refine aw ?_);(conv=>arg 4;whnf);first | refine aO ?_ |(refine sN ?_;intro b)|(refine sC ?_ ?_<;>intro h)|(refine au ?_ ?_<;>intro h<;>try contradiction)|(refine aa ?_;intro g c')|(refine da (hw5 _) ?_;intro x hx;refine bV ?_)|(refine aA cY ?_;intro x hx;refine aH ?_)| refine ae ?_ | refine ai ?_ | exact ax |(refine aj rfl ?_;intro D lL)| refine af ?_ ?_ | refine ah ?_ ?_ ?_ | fail));(all_goals refine av ?_)
 refine bN ?_
 (repeat' ((try refine aw ?_);(conv=>arg 4;whnf);first | refine aO ?_ |(refine sN ?_;intro b)|(refine sC ?_ ?_<;>intro h)|(refine au ?_ ?_<;>intro h<;>try contradiction)|(refine aa ?_;intro g c')|(refine da (hw5 _) ?_;intro x hx;refine bV ?_)|(refine aA cY ?_;intro x hx;refine aH ?_)| refine ae ?_ | refine ai ?_ | exact ax |(refine aj rfl ?_;intro D lL)| refine af ?_ ?_ | refine ah ?_ ?_ ?_ | fail));(all_goals refine av ?_)
 rename_i zm hzm
 exact aD zm hzm rfl (am _) bu
end
end Go.Proofs.YtbobhnldhpjdlaaGreatDoor
namespace Go.Proofs.YtbobhnldhpjdlaaGreatDoor
open Go Go.RowKit Go.Cs Go.Cz
set_option maxRecDepth 100000
set_option maxHeartbeats 4000000
section
variable {p:PS} {M:ML} {T:Nat} {q:Value×Value}
abbrev iT (p:PS) (M:ML):SSto:=⟨p.n,p.k,M.d,(some ⟨M.lb,0,none⟩,p.log.length,M.lc),⟨(some ⟨M.ab,0,none⟩,p.al.length,p.al.length),p.mark,p.lm,p.rs⟩,⟨p.n,(some ⟨M.tb,0,none⟩,tot p.n,tot p.n)⟩,⟨(M.ua,p.us.length,M.uc)⟩,false⟩
theorem I3 (hP:POk p T) (hD:DM p M T) {bi vb ib ob:Nat} (hb:bi<p.n):Zp Tryz.prog 85 [vP vb 0,vP ib 0,vP ob 0] [iB ob (ay Dig.zero) 52] [Bk vb (aB (iT p M)),Bk ib [vI bi],Dm M.d M.I,Sl a7 (some ⟨M.tb,0,none⟩) (tot p.n) (tot p.n) (treW p.L p.c p.s),Gs q] Unit (fun _=>True) (fun z=> .nilIface) (fun z=> [iB ob (ay (p.now.getD bi Dig.zero)) 52]) (fun z=> []):=by
  have h1:=hP.n1
  have h2:=hP.n2
  have hll:=hP.work.ll
  have hur:=tf (tb:=M.tb) (to:=0) (m:=tot p.n) (c:=tot p.n) (q:=q) hP.tok hb
  have e:((treW p.L p.c p.s).getD (bi/4) default).nd.rs.l.getD (bi%4) default=p.L.getD bi Rec.zero:=tK hP.work.ok hll hb
  rw [e] at hur
  have hH:=hP.work.dat bi hb
  rw [←hD.ok.cn] at hH
  have hld:=EB (d:=M.d) (I:=M.I) (q:=q) h1 h2 hb hD.ok.ok hD.sz hD.ok.size (hP.work.ok.m.rc bi (by rw [hll];exact hb)) hH
  refine ak fun G=> ?_
  (repeat' ((try refine aw ?_);(conv=>arg 4;whnf);first | refine aO ?_ |(refine sN ?_;intro b)|(refine sC ?_ ?_<;>intro h)|(refine au ?_ ?_<;>intro h<;>try contradiction)|(refine aa ?_;intro g c')|((first | refine aA hur ?_ | refine aA hld ?_);intro x hx;refine aH ?_)| refine ae ?_ | refine ai ?_ | exact ax |(refine aj rfl ?_;intro D lL)| refine af ?_ ?_ | refine ah ?_ ?_ ?_ | fail));(all_goals refine av ?_)
  exact aD () True.intro rfl cD bu
theorem Jz (hP:POk p T) (hD:DM p M T) {bi vb ib ob fb:Nat} (hb:bi<p.n):Zp Tryz.prog 66 [.slice (some ⟨fb,0,none⟩) 3 3] [iB ob (ay Dig.zero) 52] [Bk fb [.func (.func 67) #[vA (aB (iT p M))] #[], .func (.func 84) #[] #[vP vb 0,vP ib 0], .func (.func 85) #[] #[vP vb 0,vP ib 0,vP ob 0]],Bk vb (aB (iT p M)),Bk ib [vI bi],Dm M.d M.I,Sl a7 (some ⟨M.tb,0,none⟩) (tot p.n) (tot p.n) (treW p.L p.c p.s),Gs q] Unit (fun _=>True) (fun z=> .nilIface) (fun z=> [iB ob (ay (p.now.getD bi Dig.zero)) 52]) (fun z=> []):=by
  have h1:=hP.n1
  have hr2:=I3 (M:=M) (vb:=vb) (ib:=ib) (ob:=ob) (q:=q) hP hD hb
  refine ak fun G=> ?_
  (repeat' ((try refine aw ?_);(conv=>arg 4;whnf);first | refine aO ?_ |(refine sN ?_;intro b)|(refine sC ?_ ?_<;>intro h)|(refine au ?_ ?_<;>intro h<;>try contradiction)|(refine aa ?_;intro g c')| refine ae ?_ | refine ai ?_ | exact ax |(refine aj rfl ?_;intro D lL)| refine af ?_ ?_ | refine ah ?_ ?_ ?_ | fail));(all_goals refine av ?_)
  refine gJ 4 (bN ?_)
  (repeat' ((try refine aw ?_);(conv=>arg 4;whnf);first | refine aO ?_ |(refine sN ?_;intro b)|(refine sC ?_ ?_<;>intro h)|(refine au ?_ ?_<;>intro h<;>try contradiction)|(refine aa ?_;intro g c')|(refine da hr2 ?_;intro x hx;refine bV ?_)| refine ae ?_ | refine ai ?_ | exact ax |(refine aj rfl ?_;intro D lL)| refine af ?_ ?_ | refine ah ?_ ?_ ?_ | fail));(all_goals refine av ?_)
  refine bN ?_
  (repeat' ((try refine aw ?_);(conv=>arg 4;whnf);first | refine aO ?_ |(refine sN ?_;intro b)|(refine sC ?_ ?_<;>intro h)|(refine au ?_ ?_<;>intro h<;>try contradiction)|(refine aa ?_;intro g c')|(refine da hr2 ?_;intro x hx;refine bV ?_)| refine ae ?_ | refine ai ?_ | exact ax |(refine aj rfl ?_;intro D lL)| refine af ?_ ?_ | refine ah ?_ ?_ ?_ | fail));(all_goals refine av ?_)
  refine bN ?_
  (repeat' ((try refine aw ?_);(conv=>arg 4;whnf);first | refine aO ?_ |(refine sN ?_;intro b)|(refine sC ?_ ?_<;>intro h)|(refine au ?_ ?_<;>intro h<;>try contradiction)|(refine aa ?_;intro g c')|(refine da hr2 ?_;intro x hx;refine bV ?_)| refine ae ?_ | refine ai ?_ | exact ax |(refine aj rfl ?_;intro D lL)| refine af ?_ ?_ | refine ah ?_ ?_ ?_ | fail));(all_goals refine av ?_)
  refine bN ?_
  (repeat' ((try refine aw ?_);(conv=>arg 4;whnf);first | refine aO ?_ |(refine sN ?_;intro b)|(refine sC ?_ ?_<;>intro h)|(refine au ?_ ?_<;>intro h<;>try contradiction)|(refine aa ?_;intro g c')|(refine da hr2 ?_;intro x hx;refine bV ?_)| refine ae ?_ | refine ai ?_ | exact ax |(refine aj rfl ?_;intro D lL)| refine af ?_ ?_ | refine ah ?_ ?_ ?_ | fail));(all_goals refine av ?_)
  exact aD () True.intro rfl cD bu
theorem Ie (hP:POk p T) (hD:DM p M T) {bi:Nat} (hb:bi<p.n):Zp Tryz.prog 18 [vA (aB (c8 p M)),vI bi] [] [Dm M.d M.I,Sl a7 (some ⟨M.tb,0,none⟩) (tot p.n) (tot p.n) (treW p.L p.c p.s),Gs q] Unit (fun _=>True) (fun z=> .tuple #[vA (aB (c8 p M)),vA (ay (p.now.getD bi Dig.zero)),vI 0]) (fun z=> []) (fun z=> []):=by
  have hrf:=fun vb ib ob fb=>Jz (M:=M) (vb:=vb) (ib:=ib) (ob:=ob) (fb:=fb) (q:=q) hP hD hb
  rw [show c8 p M=iT p M from rfl]
  refine ak fun G=> ?_
  (repeat' ((try refine aw ?_);(conv=>arg 4;whnf);first | refine aO ?_ |(refine sN ?_;intro b)|(refine sC ?_ ?_<;>intro h)|(refine au ?_ ?_<;>intro h<;>try contradiction)|(refine aa ?_;intro g c')| refine ae ?_ | refine ai ?_ | exact ax |(refine aj rfl ?_;intro D lL)| refine af ?_ ?_ | refine ah ?_ ?_ ?_ | fail));(all_goals refine av ?_)
  rename_i vb ib rs rb
  revert b;intro ob
  refine bG vb ?_
  refine bG ib ?_
  refine eD (X:=Nat) (fun x=> [(4,vP rs 0),(5,vP rb 0),(7,vP ob 0),(8,vP x 0),(9,vI 0)]) (fun _=>True) (fun x=> [iB x (aB (iT p M)) 48,iB ob (ay (p.now.getD bi Dig.zero)) 52,iB rs (aB SSto.zero) 48,iB rb (ay Dig.zero) 52]) (fun _=> []) ?_ ?_
  · intro K4
    refine dH [ob] rfl ?_
    (repeat' ((try refine aw ?_);(conv=>arg 4;whnf);first | refine aO ?_ |(refine sN ?_;intro b)|(refine sC ?_ ?_<;>intro h)|(refine au ?_ ?_<;>intro h<;>try contradiction)|(refine aa ?_;intro g c')|(refine aA cY ?_;intro x hx;refine aH ?_)| refine ai ?_ | exact ax |(refine aj rfl ?_;intro D lL)| refine af ?_ ?_ | refine ah ?_ ?_ ?_ | fail));(all_goals refine av ?_)
    all_goals (
      revert b;intro b2
      first
      |(
         refine bG b2 ?_
         refine da (hrf vb ib ob b2) ?_
         intro x hx
         (conv=>arg 2;simp only [List.nil_append,List.cons_append])
         (conv=>arg 3;simp only [List.nil_append,List.cons_append])
         (repeat' ((try refine aw ?_);(conv=>arg 4;whnf);first | refine aO ?_ |(refine sN ?_;intro b)|(refine sC ?_ ?_<;>intro h)|(refine au ?_ ?_<;>intro h<;>try contradiction)|(refine aa ?_;intro g c')|(refine aA cY ?_;intro x hx;refine aH ?_)| refine ai ?_ | exact ax |(refine aj rfl ?_;intro D lL)| refine af ?_ ?_ | refine ah ?_ ?_ ?_ | fail));(all_goals refine av ?_)
         all_goals first | exact d9 b True.intro cD bu | exact d9 b2 True.intro cD bu)
      |(
         refine bG b ?_
         refine da (hrf vb ib ob b) ?_
         intro x hx
         (conv=>arg 2;simp only [List.nil_append,List.cons_append])
         (conv=>arg 3;simp only [List.nil_append,List.cons_append])
         (repeat' ((try refine aw ?_);(conv=>arg 4;whnf);first | refine aO ?_ |(refine sN ?_;intro b)|(refine sC ?_ ?_<;>intro h)|(refine au ?_ ?_<;>intro h<;>try contradiction)|(refine aa ?_;intro g c')|(refine aA cY ?_;intro x hx;refine aH ?_)| refine ai ?_ | exact ax |(refine aj rfl ?_;intro D lL)| refine af ?_ ?_ | refine ah ?_ ?_ ?_ | fail));(all_goals refine av ?_)
         all_goals first | exact d9 b2 True.intro cD bu | exact d9 b True.intro cD bu))
  intro zb _
  (conv=>arg 2;simp only [List.cons_append,List.nil_append])
  (conv=>arg 3;simp only [List.cons_append,List.nil_append])
  (repeat' ((try refine aw ?_);(conv=>arg 4;whnf);first | refine az ?_ |(refine sN ?_;intro b)|(refine sC ?_ ?_<;>intro h)|(refine au ?_ ?_<;>intro h<;>try contradiction)|(refine aa ?_;intro g c')| refine ae ?_ | refine ai ?_ | exact ax |(refine aj rfl ?_;intro D lL)| refine af ?_ ?_ | refine ah ?_ ?_ ?_ | fail));(all_goals refine av ?_)
def PS.fls (p:PS):PS:={p with con:=nt p.n p.con p.L p.c p.s,c:=Cs.fls p.n,s:=gL p.n p.c p.s,Lc:=p.L,dur:=p.now,cell:=p.cell.nxt (cq p.L (bZ p.n p.c p.s)),log:=p.log++ [p.cell.nxt (cq p.L (bZ p.n p.c p.s))]}
theorem mD {n:Nat} {ts:List Un}:∀{m:Nat} {y:Nat×List UInt8},y∈di n ts m→∃k,k<m∧y=mN n ts k
  | 0,y,h=>by cases h
  | m+1,y,h=>by
    by_cases hw:iX n ts m=true
    · rw [iq hw] at h
      rcases List.mem_append.1 h with h | h
      · obtain ⟨k,h1,h2⟩:=mD h;exact ⟨k,by omega,h2⟩
      · simp only [List.mem_singleton] at h;exact ⟨m,by omega,h⟩
    · rw [wQ hw] at h
      obtain ⟨k,h1,h2⟩:=mD h;exact ⟨k,by omega,h2⟩
theorem FR {n:Nat} {L:List Rec} {c:List Bool} {s:List Nat} (hok:OkW L c s) (hll:L.length=n) {i:Nat} (hi:i<(di n (treW L c s) (tot n)).length):((di n (treW L c s) (tot n)).getD i default).1<bas n (hgt n+1)∧((di n (treW L c s) (tot n)).getD i default).2.length≤256:=by
  have hm:(di n (treW L c s) (tot n)).getD i default∈di n (treW L c s) (tot n):=by
    rw [←List.getElem_eq_getD (h:=hi)];exact List.getElem_mem hi
  obtain ⟨k,hk,e⟩:=mD hm
  rw [e]
  have h1:=jo hok hll k
  have h2:=o6 n (hgt n+1)
  have h3:tot n=num n (hgt n+1):=rfl
  refine ⟨?_, ?_⟩
  · show ee n k (1-((treW L c s).getD k Un.zero).sl).toNat<_
    unfold ee;omega
  · show (aM ((treW L c s).getD k Un.zero).nd).length≤256
    rw [dN];split<;>omega
theorem IV (hP:POk p T) (hD:DM p M T) (hT:T<1000) {vb nx:Nat}:Zp Tryz.prog 121 [vP vb 0,vP nx 0] [iB nx (aB (iT p M)) 48] [Bk vb (aB (iT p M)),Dm M.d M.I,Sl aL (some ⟨M.lb,0,none⟩) p.log.length M.lc p.log,Sl a7 (some ⟨M.tb,0,none⟩) (tot p.n) (tot p.n) (treW p.L p.c p.s),Gs q] (SDsk×DI×Nat×Nat×Nat) (fun z=>DM p.fls {M with d:=z.1,I:=z.2.1} (T+1)) (fun z=> .nilIface) (fun z=> [iB nx (aB (c8 p.fls {M with d:=z.1,I:=z.2.1,lb:=z.2.2.1,lc:=z.2.2.2.1,tb:=z.2.2.2.2})) 48]) (fun z=> [Dm z.1 z.2.1,Sl aL (some ⟨z.2.2.1,0,none⟩) p.fls.log.length z.2.2.2.1 p.fls.log,Sl a7 (some ⟨z.2.2.2.2,0,none⟩) (tot p.n) (tot p.n) (treW p.fls.L p.fls.c p.fls.s)]):=by
  have h1:=hP.n1
  have h2:=hP.n2
  have hll:=hP.work.ll
  have hok:=hP.work.ok
  have htln:=hP.tln
  have htot:=eR h1 h2
  have hlast:tot p.n-1=num p.n (hgt p.n):=by omega
  have hTT:=hP.hT
  have hlm:=hP.logm
  have hepl:=hP.ep
  have hts:=b9 h2
  have hcl:=wc (p:=p) (M:=M) h1 hP.log0 (by omega) hP.last
  rw [show c8 p M=iT p M from rfl] at hcl
  have hroot:bI (aM ((treW p.L p.c p.s).getD ((treW p.L p.c p.s).length-1) default).nd)=cq p.L (bZ p.n p.c p.s):=by
    rw [htln,hlast];exact FW hok hll
  have hsl:((treW p.L p.c p.s).getD ((treW p.L p.c p.s).length-1) default).sl=((p.cell.ep%2:Nat):Int):=by
    rw [htln,hlast,hP.work.int.slot]
    have:=k7 (c:=p.c) (s:=p.s) hll (l:=hgt p.n) (j:=0) (Nat.le_refl _) (dk h1 _)
    rw [Nat.add_zero] at this
    rw [show (treW p.L p.c p.s).getD (num p.n (hgt p.n)) default=(treW p.L p.c p.s).getD (num p.n (hgt p.n)) Un.zero from rfl,this]
    show ((p.s.getD (num p.L.length (hgt p.n)+0) 0:Nat):Int)=_
    rw [hll];rfl
  have hpl:=JD (tb:=M.tb) (to:=0) (m:=tot p.n) (c:=tot p.n) (q:=q) (cell:=p.cell) hP.tok hsl (by omega)
  rw [hroot] at hpl
  have hpb:=G7 (tb:=M.tb) (to:=0) (m:=tot p.n) (c:=tot p.n) (q:=q) hP.tok
  rw [htln] at hpl hpb
  rw [Fq hok hll] at hpb
  have hwl:=xk p.n (treW p.L p.c p.s) (tot p.n)
  have hap:=fun (vs:List SWri) (g o:Nat) (h0:0<vs.length) (h9:vs.length=(di p.n (treW p.L p.c p.s) (tot p.n)).length)=>IB (d:=M.d) (I:=M.I) (vs:=vs) (l:=di p.n (treW p.L p.c p.s) (tot p.n)) (g:=g) (o:=o) hD.ok (by omega) h0 (by omega) (fun i hi=>FR hok hll hi)
  have hwi:=fun (d:SDsk) (I:DI)=>E3 (p:=p) (M:={M with d:=d,I:=I}) (y:=p.cell.nxt (cq p.L (bZ p.n p.c p.s))) hP.log0 (by omega)
  refine ak fun G=> ?_
  (repeat' ((try refine aw ?_);(conv=>arg 4;whnf);first | refine aO ?_ |(refine sN ?_;intro b)|(refine sC ?_ ?_<;>intro h)|(refine au ?_ ?_<;>intro h<;>try contradiction)|(refine aa ?_;intro g c')| refine ae ?_ | refine ai ?_ | exact ax |(refine aj rfl ?_;intro D lL)| refine af ?_ ?_ | refine ah ?_ ?_ ?_ | fail));(all_goals refine av ?_)
  refine eD (X:=List SWri×Nat×Nat×Nat) (fun x=> [(0,vP vb 0),(1,vP nx 0),(2, .nilIface),(3, .slice (some ⟨x.2.1,x.2.2.1,none⟩) x.1.length x.1.length),(4,vP x.2.2.2 0),(5,vI 0)]) (fun x=>0<x.1.length∧x.1.length=(di p.n (treW p.L p.c p.s) (tot p.n)).length) (fun x=> [iB x.2.2.2 (aL (p.cell.nxt (cq p.L (bZ p.n p.c p.s)))) 80,iB nx (aB (iT p M)) 48]) (fun x=> [Sl cx (some ⟨x.2.1,x.2.2.1,none⟩) x.1.length x.1.length x.1,Wm x.1 (di p.n (treW p.L p.c p.s) (tot p.n))]) ?_ ?_
  · intro K4
    (refine bh ?_;(conv=>arg 4;whnf);refine bc rfl ?_)
    (repeat' ((try refine aw ?_);(conv=>arg 4;whnf);first | refine aO ?_ |(refine sN ?_;intro b)|(refine sC ?_ ?_<;>intro h)|(refine au ?_ ?_<;>intro h<;>try contradiction)|(refine aa ?_;intro g c')|(refine aA hcl ?_;intro x hx;refine aH ?_)|(refine cw hpl ?_;intro x hx;refine bV ?_)| refine ae ?_ | refine ai ?_ | exact ax |(refine aj rfl ?_;intro D lL)| refine af ?_ ?_ | refine ah ?_ ?_ ?_ | fail));(all_goals refine av ?_)
    all_goals (
      revert b;intro zb
      exact d9 (x.1,x.2.1,x.2.2,zb) hx cD bu)
  rintro ⟨vs,g,o,cb⟩ ⟨hv0,hv1⟩
  dsimp only at hv0 hv1
  (conv=>arg 2;simp only [List.cons_append,List.nil_append])
  (conv=>arg 3;simp only [List.cons_append,List.nil_append])
  dsimp only
  have hap1:=hap vs g o hv0 hv1
  (repeat' ((try refine aw ?_);(conv=>arg 4;whnf);first | refine aO ?_ |(refine sN ?_;intro b)|(refine sC ?_ ?_<;>intro h)|(refine au ?_ ?_<;>intro h<;>try contradiction)|(refine aa ?_;intro g c')|(refine cw hap1 ?_;intro x hx;refine bV ?_)| refine ai ?_ | exact ax |(refine aj rfl ?_;intro D lL)| refine af ?_ ?_ | refine ah ?_ ?_ ?_ | fail));(all_goals refine av ?_)
  obtain ⟨zd,zI⟩:=x
  dsimp only at hx⊢
  obtain ⟨hxd,hxs⟩:=hx
  have hwi1:=hwi zd zI
  (repeat' ((try refine aw ?_);(conv=>arg 4;whnf);first | refine aO ?_ |(refine sN ?_;intro b)|(refine sC ?_ ?_<;>intro h)|(refine au ?_ ?_<;>intro h<;>try contradiction)|(refine aa ?_;intro g c')|(refine cw hwi1 ?_;intro x hx;refine bV ?_)|(refine aA hpb ?_;intro x hx;refine aH ?_)| refine ai ?_ | exact ax |(refine aj rfl ?_;intro D lL)| refine af ?_ ?_ | refine ah ?_ ?_ ?_ | fail));(all_goals refine av ?_)
  (repeat' ((try refine aw ?_);(conv=>arg 4;whnf);first | refine aO ?_ |(refine sN ?_;intro b)|(refine sC ?_ ?_<;>intro h)|(refine au ?_ ?_<;>intro h<;>try contradiction)|(refine aa ?_;intro g c')| refine ae ?_ | refine ai ?_ | exact ax |(refine aj rfl ?_;intro D lL)| refine af ?_ ?_ | refine ah ?_ ?_ ?_ | fail));(all_goals refine av ?_)
  rename_i wz _
  have hTl:(treW p.L (Cs.fls p.n) (gL p.n p.c p.s)).length=tot p.n:=by rw [jt,hll]
  refine eK (K:=a7) (l:=treW p.L (Cs.fls p.n) (gL p.n p.c p.s)) x (tot p.n) (tot p.n) ?_ (hn:=⟨hTl.symm,Nat.le_refl _,by omega⟩)
  refine aD (zd,zI,wz.1,wz.2,x) ⟨dY hxd (by omega),hxs.trans hD.sz⟩ rfl (by
    ((repeat' (first | with_reducible exact ar _ | exact am _ | refine aE ?_ ?_ | refine aG inferInstance ?_ | refine aX ?_))<;>(try with_reducible rfl))
    all_goals rfl) ?_
  show ∀f∈([Dm zd zI,Sl aL (some ⟨wz.1,0,none⟩) (p.log++ [p.cell.nxt (cq p.L (bZ p.n p.c p.s))]).length wz.2 (p.log++ [p.cell.nxt (cq p.L (bZ p.n p.c p.s))]),Sl a7 (some ⟨x,0,none⟩) (tot p.n) (tot p.n) (treW p.L (Cs.fls p.n) (gL p.n p.c p.s))]:List Pt),f∈_
  exact bu
theorem Ea (hP:POk p T) (hD:DM p M T) (hT:T<1000):Zp Tryz.prog 34 [vA (aB (c8 p M))] [] [Dm M.d M.I,Sl aL (some ⟨M.lb,0,none⟩) p.log.length M.lc p.log,Sl cQ (some ⟨M.ab,0,none⟩) p.al.length p.al.length p.al,Sl a7 (some ⟨M.tb,0,none⟩) (tot p.n) (tot p.n) (treW p.L p.c p.s),Sl bP M.ua p.us.length M.uc p.us,Gs q] ML (fun z=>DM p.fls z (T+1)) (fun z=> .tuple #[vA (aB (c8 p.fls z)),vI 0]) (fun _=> []) (fun z=>SFl p.fls z):=by
  have h1:=hP.n1
  have hf1:=fun vb nx=>IV (M:=M) (vb:=vb) (nx:=nx) (q:=q) hP hD hT
  rw [show c8 p M=iT p M from rfl]
  refine ak fun G=> ?_
  (repeat' ((try refine aw ?_);(conv=>arg 4;whnf);first | refine aO ?_ |(refine sN ?_;intro b)|(refine sC ?_ ?_<;>intro h)|(refine au ?_ ?_<;>intro h<;>try contradiction)|(refine aa ?_;intro g c')|(refine aA cY ?_;intro x hx;refine aH ?_)| refine ae ?_ | refine ai ?_ | exact ax |(refine aj rfl ?_;intro D lL)| refine af ?_ ?_ | refine ah ?_ ?_ ?_ | fail));(all_goals refine av ?_)
  rename_i vb rb nx
  revert b;intro fb
  refine bG vb ?_
  refine bG fb ?_
  have hf2:=hf1 vb nx
  refine gJ 3 (bN ?_)
  (repeat' ((try refine aw ?_);(conv=>arg 4;whnf);first | refine aO ?_ |(refine sN ?_;intro b)|(refine sC ?_ ?_<;>intro h)|(refine au ?_ ?_<;>intro h<;>try contradiction)|(refine aa ?_;intro g c')|(refine da hf2 ?_;intro x hx;refine bV ?_)|(refine aA cY ?_;intro x hx;refine aH ?_)| refine ae ?_ | refine ai ?_ | exact ax |(refine aj rfl ?_;intro D lL)| refine af ?_ ?_ | refine ah ?_ ?_ ?_ | fail));(all_goals refine av ?_)
  refine bN ?_
  (repeat' ((try refine aw ?_);(conv=>arg 4;whnf);first | refine aO ?_ |(refine sN ?_;intro b)|(refine sC ?_ ?_<;>intro h)|(refine au ?_ ?_<;>intro h<;>try contradiction)|(refine aa ?_;intro g c')|(refine da hf2 ?_;intro x hx;refine bV ?_)|(refine aA cY ?_;intro x hx;refine aH ?_)| refine ae ?_ | refine ai ?_ | exact ax |(refine aj rfl ?_;intro D lL)| refine af ?_ ?_ | refine ah ?_ ?_ ?_ | fail));(all_goals refine av ?_)
  refine bN ?_
  (repeat' ((try refine aw ?_);(conv=>arg 4;whnf);first | refine aO ?_ |(refine sN ?_;intro b)|(refine sC ?_ ?_<;>intro h)|(refine au ?_ ?_<;>intro h<;>try contradiction)|(refine aa ?_;intro g c')|(refine da hf2 ?_;intro x hx;refine bV ?_)|(refine aA cY ?_;intro x hx;refine aH ?_)| refine ae ?_ | refine ai ?_ | exact ax |(refine aj rfl ?_;intro D lL)| refine af ?_ ?_ | refine ah ?_ ?_ ?_ | fail));(all_goals refine av ?_)
  rename_i zz hzz
  obtain ⟨zd,zI,zl,zc,zt⟩:=zz
  dsimp only at hzz⊢
  refine aD {M with d:=zd,I:=zI,lb:=zl,lc:=zc,tb:=zt} ⟨hzz.ok,hzz.sz⟩ rfl (am _) ?_
  show ∀f∈([Dm zd zI,Sl aL (some ⟨zl,0,none⟩) p.fls.log.length zc p.fls.log,Sl cQ (some ⟨M.ab,0,none⟩) p.al.length p.al.length p.al,Sl a7 (some ⟨zt,0,none⟩) (tot p.n) (tot p.n) (treW p.fls.L p.fls.c p.fls.s),Sl bP M.ua p.us.length M.uc p.us]:List Pt),f∈_
  exact bu
end
end Go.Proofs.YtbobhnldhpjdlaaGreatDoor
namespace Go.Proofs.YtbobhnldhpjdlaaGreatDoor
open Go Go.RowKit Go.Cs Go.Cz
set_option maxRecDepth 100000
set_option maxHeartbeats 4000000
def opn (n sh lm rs:Nat) (ms:Dig):PS:=⟨n,lm,rs,nv ms,zC n,zL n,Cs.fls n,zS n,zD n,zL n,zD n,gO n, [gO n],List.replicate sh 0,0, []⟩
theorem GX (n:Nat):(zS n).length=tot n:=by simp [zS]
theorem GI {n i:Nat} (hi:i<tot n-1):(zS n).getD i 0=1:=by
 unfold zS
 rw [List.getD_eq_getElem?_getD,List.getElem?_set_ne (by omega),List.getElem?_replicate,if_pos (by omega)];rfl
theorem JO {n:Nat} (h1:1≤n) (h2:n≤4096):ra (zL n) (zS n)=zS n:=by
 have hl:(zL n).length=n:=by simp [zL]
 refine (i6 0 (by rw [hl];exact GX n) fun l j hl' hj=> ?_).symm
 rw [hl] at hl' hj
 unfold rQ
 rw [hl]
 by_cases h:l=hgt n
 ·rw [if_neg (fun hh=>hh.1 h)]
 ·rw [if_pos ⟨h,tc _ _ _⟩]
  have h3:=c7 n (l:=l+1) (m:=hgt n) (by omega)
  have h4:=eR h1 h2
  have h5:num n (l+1)=num n l+cnt n l:=rfl
  exact GI (by omega)
section
variable {n sh fr cl lm rs fw:Nat} {ms:Dig} {q:Value×Value}
theorem AG (h1:1≤n) (h2:n≤4096) (h3:bas n (hgt n+1)≤10922) (hsn:sh≤n) (ha:AOk ⟨(none,sh,sh),0,lm,rs⟩ (List.replicate sh 0)):POk (opn n sh lm rs ms) 0:=
 ⟨zW (nv ms) h1 h2,⟨ha.l1,ha.l8,ha.ml,ha.r1,ha.r2,ha.rl,ha.lm,ha.cm⟩,(by show (List.replicate sh (0:UInt64)).length≤n;simpa using hsn),Nat.zero_lt_one,Nat.le_refl _,Nat.le_refl _,Nat.zero_le _,rfl,rfl,fun i hi=>(by cases hi),Nat.zero_le _,h3⟩
theorem EJ (h1:1≤n) (h2:n≤4096) (h3:bas n (hgt n+1)≤10922) (hsn:sh≤n) (ha:AOk ⟨(none,sh,sh),0,lm,rs⟩ (List.replicate sh 0)):Zp Tryz.prog 10 [vA (bq ⟨n,sh,fr,cl,lm,rs,ms,fw⟩)] [] [Gs q] ML (fun z=>DM (opn n sh lm rs ms) z 0) (fun z=> .tuple #[vA (aB (c8 (opn n sh lm rs ms) z)),vI 0]) (fun _=> []) (fun z=>SFl (opn n sh lm rs ms) z):=by
 refine ak fun G=> ?_
 (repeat' ((try refine aw ?_);(conv=>arg 4;whnf);first | refine aO ?_ |(refine sN ?_;intro b)|(refine sC ?_ ?_<;>intro h)|(refine au ?_ ?_<;>intro h<;>try contradiction)|(refine aa ?_;intro g c')|(refine aA (kM h1 h2) ?_;intro x hx;refine aH ?_)|((first | refine cw (H1 ha) ?_ | refine cw (IC (q:=q) h1 h2 h3) ?_);intro x hx;refine bV ?_)| refine ai ?_ | exact ax |(refine aj rfl ?_;intro D lL)| refine af ?_ ?_ | refine ah ?_ ?_ ?_ | fail));(all_goals refine av ?_)
 obtain ⟨d,I⟩:=x
 obtain ⟨hd,hsz⟩:=hx
 dsimp only at hd hsz⊢
 have hI:DV n (nv ms) d I (zL n) (zS n) (zD n) (gO n):=⟨hd.ok,hsz,hd.size,by rw [hd.cn];exact zI (nv ms) h1 h2⟩
 have hwk:=Hy (q:=q) hI
 rw [JO h1 h2] at hwk
 (repeat' ((try refine aw ?_);(conv=>arg 4;whnf);first | refine aO ?_ |(refine sN ?_;intro b)|(refine sC ?_ ?_<;>intro h)|(refine au ?_ ?_<;>intro h<;>try contradiction)|(refine aa ?_;intro g c')|(refine cw hwk ?_;intro x hx;refine bV ?_)| refine ai ?_ | exact ax |(refine aj rfl ?_;intro D lL)| refine af ?_ ?_ | refine ah ?_ ?_ ?_ | fail));(all_goals refine av ?_)
 (repeat' ((try refine aw ?_);(conv=>arg 4;whnf);first | refine aO ?_ |(refine sN ?_;intro b)|(refine sC ?_ ?_<;>intro h)|(refine au ?_ ?_<;>intro h<;>try contradiction)|(refine aa ?_;intro g c')| refine ae ?_ | refine ai ?_ | exact ax |(refine aj rfl ?_;intro D lL)| refine af ?_ ?_ | refine ah ?_ ?_ ?_ | fail));(all_goals refine av ?_)
 rename_i cfb rsb _ _ ab0 _ alb db cb tbb
 refine eD (X:=Nat) (fun z=> [(2,vP rsb 0),(3,vI 0)]) (fun _=>True) (fun z=> [iB rsb (aB ⟨n,nv ms,d,(some ⟨z,0,none⟩,1,1),⟨(some ⟨ab0,0,none⟩,sh,sh),0,lm,rs⟩,⟨n,(some ⟨x,0,none⟩,tot n,tot n)⟩,⟨(none,0,0)⟩,false⟩) 48,iB z ([gO n].flatMap aL) 80]) (fun _=> []) ?_ ?_
 ·intro K4
  (refine bh ?_;(conv=>arg 4;whnf);refine bc rfl ?_)
  (repeat' ((try refine aw ?_);(conv=>arg 4;whnf);first | refine aO ?_ |(refine sN ?_;intro b)|(refine sC ?_ ?_<;>intro h)|(refine au ?_ ?_<;>intro h<;>try contradiction)|(refine aa ?_;intro g c')|(refine aA (Bw (q:=q)) ?_;intro x hx;refine aH ?_)| refine ae ?_ | refine ai ?_ | exact ax |(refine aj rfl ?_;intro D lL)| refine af ?_ ?_ | refine ah ?_ ?_ ?_ | fail));(all_goals refine av ?_)
  all_goals (
   first
   | exact d9 b True.intro (by
     ((repeat' (first | with_reducible exact ar _ | exact am _ | refine aE ?_ ?_ | refine aG inferInstance ?_ | refine aX ?_))<;>(try with_reducible rfl))
     all_goals rfl) bu
   | fail)
 intro lb _
 (conv=>arg 2;simp only [List.cons_append,List.nil_append])
 (conv=>arg 3;simp only [List.cons_append,List.nil_append])
 refine eK (K:=aL) (l:= [gO n]) lb 1 1 ?_
 (repeat' ((try refine aw ?_);(conv=>arg 4;whnf);first | refine aO ?_ |(refine sN ?_;intro b)|(refine sC ?_ ?_<;>intro h)|(refine au ?_ ?_<;>intro h<;>try contradiction)|(refine aa ?_;intro g c')| refine ae ?_ | refine ai ?_ | exact ax |(refine aj rfl ?_;intro D lL)| refine af ?_ ?_ | refine ah ?_ ?_ ?_ | fail));(all_goals refine av ?_)
 refine aR (Sl bP none 0 0 []) (fun w _ _=>⟨rfl,rfl,rfl,rfl⟩) ?_
 refine aD ⟨d,I,lb,1,ab0,x,none,0⟩ ⟨hd,hsz⟩ (by
  have e:(opn n sh lm rs ms).al.length=sh:=List.length_replicate
  unfold c8
  rw [e]
  rfl) (by
  ((repeat' (first | with_reducible exact ar _ | exact am _ | refine aE ?_ ?_ | refine aG inferInstance ?_ | refine aX ?_))<;>(try with_reducible rfl))
  all_goals rfl) ?_
 have e:(opn n sh lm rs ms).al.length=sh:=List.length_replicate
 unfold SFl
 rw [e]
 show ∀f∈([Dm d I,Sl aL (some ⟨lb,0,none⟩) 1 1 [gO n],Sl cQ (some ⟨ab0,0,none⟩) sh sh (List.replicate sh 0),Sl a7 (some ⟨x,0,none⟩) (tot n) (tot n) (treW (zL n) (fls n) (zS n)),Sl bP none 0 0 []]:List Pt),f∈_
 exact bu
end
end Go.Proofs.YtbobhnldhpjdlaaGreatDoor
namespace Go.Proofs.YtbobhnldhpjdlaaGreatDoor
open Go Go.RowKit Go.Cs Go.Cz
set_option maxRecDepth 100000
set_option maxHeartbeats 4000000
section
variable {n:Nat} {k:Key} {d:SDsk} {I:DI} {L:List Rec} {s:List Nat} {dur:List Dig} {cell:Cel} {q:Value×Value} {bi:Nat}
theorem JK {pb c:Nat} (h:DV n k d I L s dur cell) (hb:bi<n):Zp Tryz.prog 46 [vI n,vA (ay cell.root),vA (dy ⟨bi,(some ⟨pb,0,none⟩,(cK n L s bi).length,c)⟩)] [] [Sl aU (some ⟨pb,0,none⟩) (cK n L s bi).length c (cK n L s bi),Gs q] Unit (fun _=>True) (fun _=> .tuple #[vA (bY (L.getD bi Rec.zero)),vI 0]) (fun _=> []) (fun _=> []):=by
 have h1:=h.int.bl.1
 have h2:=h.int.bl.2
 have h5:=a8 n
 obtain ⟨hlp,hl0⟩:=mz (n:=n) (L:=L) (s:=s) (bi:=bi)
 have hpl:=jr n bi
 have hwk:=fun ab=>HP (pb:=pb) (c:=c) (ab:=ab) (q:=q) h hb
 have hlst:=iE h.int.ok h.int.ll hb (aK L s (hgt n) 0) (i:=hgt n) (Nat.le_refl _) (by rw [eV h.int hb])
 have hlv:=fun i (hi:i<(cK n L s bi).length)=>u6 h hb hi
 have hl2:ky bi (cK n L s bi)=L.getD bi Rec.zero:=hlst
 unfold ky at hl2
 refine ak fun G=> ?_
 by_cases hfull:(cK n L s bi).length=hgt n+1
 ·have e0:=hlv (hgt n) (by omega)
  have e1:=(h.nd (l:=hgt n-hgt n) (j:=idx bi (hgt n-hgt n)) (by omega) (bm hb _)).2.1
  rw [←e0,Nat.sub_self] at e1
  rw [hfull,Nat.add_sub_cancel,if_pos (show ((cK n L s bi).getD (hgt n) Nod.zero).lv=0 from e1)] at hl2
  (repeat' ((try refine aw ?_);(conv=>arg 4;whnf);first | refine az ?_ |(refine sN ?_;intro b)|(refine sC ?_ ?_<;>intro h)|(refine au ?_ ?_<;>intro h<;>try contradiction)|(refine aa ?_;intro g c')|(refine cw (sy h1 h2 hb) ?_;intro x hx;refine bV ?_)|((first | refine aA (hwk _) ?_ | refine aA tM ?_);intro x hx;refine aH ?_)| refine ae ?_ | refine ai ?_ | exact ax |(refine aj rfl ?_;intro D lL)| refine af ?_ ?_ | refine ah ?_ ?_ ?_ | fail));(all_goals refine av ?_)
  refine aD () True.intro ?_ (am _) bu
  rw [←hl2];rfl
 ·have hi:(cK n L s bi).length-1<(cK n L s bi).length:=by omega
  have e0:=hlv ((cK n L s bi).length-1) hi
  have e1:=(h.nd (l:=hgt n-((cK n L s bi).length-1)) (j:=idx bi (hgt n-((cK n L s bi).length-1))) (by omega) (bm hb _)).2.1
  rw [←e0] at e1
  rw [if_neg (show ¬((cK n L s bi).getD ((cK n L s bi).length-1) Nod.zero).lv=0 from fun hh=>by
   have hh2:((cK n L s bi).getD ((cK n L s bi).length-1) default).lv=0:=hh
   omega)] at hl2
  (repeat' ((try refine aw ?_);(conv=>arg 4;whnf);first | refine az ?_ |(refine sN ?_;intro b)|(refine sC ?_ ?_<;>intro h)|(refine au ?_ ?_<;>intro h<;>try contradiction)|(refine aa ?_;intro g c')|(refine cw (sy h1 h2 hb) ?_;intro x hx;refine bV ?_)|((first | refine aA (hwk _) ?_ | refine aA tM ?_);intro x hx;refine aH ?_)| refine ae ?_ | refine ai ?_ | exact ax |(refine aj rfl ?_;intro D lL)| refine af ?_ ?_ | refine ah ?_ ?_ ?_ | fail));(all_goals refine av ?_)
  refine aD () True.intro ?_ (am _) bu
  rw [←hl2];rfl
end
end Go.Proofs.YtbobhnldhpjdlaaGreatDoor
namespace Go.Proofs.YtbobhnldhpjdlaaGreatDoor
open Go Go.RowKit Go.Cs Go.Cz
set_option maxRecDepth 100000
set_option maxHeartbeats 4000000
theorem Lx {P:Program} {G G0:Gc} {O O0:List It} {F F0:List Pt} {ops:Array Oper} {m i:Nat} {C:Value→Pt} {T b A A' z:Nat} {vs:List Value} {p:Prop} [hs:Sz P T z true] [hb:Ab O0 F0 b A vs p] (hA:A'=A) (h:Tr G O F (C (vA vs))) (hp:p) (hl:vs.length=z) (hc:gu (bw ops) m i=true:=by kernel_rfl):Tr G O F (Dt P ops (Hp G0 O0 F0) m i (fun C=>Rl P T (.pointer (some ⟨b,A',none⟩)) C) C):=by
 subst hA
 have hv:Lv true vs (vA vs):=inferInstance
 exact mc (g:=true) h hp (.inr hl) hc
theorem IP {a c:Cel} (h:a.ep<2^63) (he:c=a.nxt c.root):Zp Tryz.prog 38 [vA (aL a),vA (aL c)] [] [] Unit (fun _=>True) (fun _=> .int .u8 ((1:Nat):Int)) (fun _=> []) (fun _=> []):=by
 have hn:=wX (y:=a) (d:=c.root) h
 rw [←he] at hn
 refine ak fun G=> ?_
 (repeat' ((try refine aw ?_);(conv=>arg 4;whnf);first | refine az ?_ |(refine sN ?_;intro b)|(refine sC ?_ ?_<;>intro h)|(refine au ?_ ?_<;>intro h<;>try contradiction)|(refine aa ?_;intro g c')|(refine aA hn ?_;intro x hx;refine aH ?_)| refine ae ?_ | refine ai ?_ | exact ax |(refine aj rfl ?_;intro D lL)| refine af ?_ ?_ | refine ah ?_ ?_ ?_ | fail));(all_goals refine av ?_)
theorem Jv {a c:Cel} (h:a.ep<2^63) (hr:c.root=a.root) (he:c.ep=a.ep) (hm:a.mark<c.mark):Zp Tryz.prog 38 [vA (aL a),vA (aL c)] [] [] Unit (fun _=>True) (fun _=> .int .u8 ((2:Nat):Int)) (fun _=> []) (fun _=> []):=by
 have hn:=wX (y:=a) (d:=c.root) h
 have hne:¬a.nxt c.root=c:=fun hh=>by
  have:=congrArg Cel.ep hh
  rw [he] at this
  change (a.ep+1)%2^64=a.ep at this
  omega
 have hac:(⟨a.root,a.ep,c.mark,a.hep,c.hmk⟩:Cel)=c:=by cases c;cases a;simp only at hr he;subst hr;subst he;rfl
 refine ak fun G=> ?_
 (repeat' ((try refine aw ?_);(conv=>arg 4;whnf);first | refine az ?_ |(refine sN ?_;intro b)|(refine sC ?_ ?_<;>intro h)|(refine au ?_ ?_<;>intro h<;>try contradiction)|(refine aa ?_;intro g c')|(refine aA hn ?_;intro x hx;refine aH ?_)| refine ae ?_ | refine ai ?_ | exact ax |(refine aj rfl ?_;intro D lL)| refine af ?_ ?_ | refine ah ?_ ?_ ?_ | fail));(all_goals refine av ?_)
def Stp (a c:Cel):Prop:=a.ep<2^63∧(c=a.nxt c.root∨(c.root=a.root∧c.ep=a.ep∧a.mark<c.mark))
theorem IO {a c:Cel} (h:Stp a c):∃kd:Nat,(kd=1∨kd=2)∧Zp Tryz.prog 38 [vA (aL a),vA (aL c)] [] [] Unit (fun _=>True) (fun _=> .int .u8 ((kd:Nat):Int)) (fun _=> []) (fun _=> []):=by
 obtain ⟨h1,h2 |⟨h2,h3,h4⟩⟩:=h
 ·exact ⟨1, .inl rfl,IP h1 h2⟩
 ·exact ⟨2, .inr rfl,Jv h1 h2 h3 h4⟩
theorem EO {n c a:Nat} {l:List Cel} {q:Value×Value} (h1:1≤n) (h2:n≤4096) (hl:0<l.length) (hlm:l.length≤65536) (h0:l.getD 0 default=gO n) (hs:∀i,i+1<l.length→Stp (l.getD i default) (l.getD (i+1) default)):Zp Tryz.prog 50 [vI n, .slice (some ⟨a,0,none⟩) l.length c] [] [Sl aL (some ⟨a,0,none⟩) l.length c l,Gs q] Unit (fun _=>True) (fun _=> .tuple #[vI 0,vI 0]) (fun _=> []) (fun _=> []):=by
 refine ak fun G=> ?_
 (repeat' ((try refine aw ?_);(conv=>arg 4;whnf);first | refine aO ?_ |(refine sN ?_;intro b)|(refine sC ?_ ?_<;>intro h)|(refine au ?_ ?_<;>intro h<;>try contradiction)|(refine aa ?_;intro g c')|(refine aA (DX (q:=q) h1 h2) ?_;intro x hx;refine aH ?_)| refine ae ?_ | refine ai ?_ | exact ax |(refine aj rfl ?_;intro D lL)| refine af ?_ ?_ | refine ah ?_ ?_ ?_ | fail));(all_goals refine av ?_)
 refine aR (Bk a (aL (l.getD 0 default))) (fun w _ hf=>by
  have hS:Sl aL (some ⟨a,0,none⟩) l.length c l w:=hf _ (.head _)
  have hA:=Sl.at_ hS
  obtain ⟨y,ys,rfl⟩:∃y ys,l=y::ys:=by
   cases l with
   | nil=>simp at hl
   | cons y ys=>exact ⟨y,ys,rfl⟩
  have:=At.sub hA 0 (aL y) (by rw [List.drop_zero,List.flatMap_cons];exact List.take_left' rfl)
  show At w a 0 _
  simpa using this) ?_
 (first | refine bF rfl rfl ?_ |(refine bh ?_;(conv=>arg 4;whnf);refine bc rfl ?_))
 (repeat' ((try refine aw ?_);(conv=>arg 4;whnf);first | refine aO ?_ |(refine sN ?_;intro b)|(refine sC ?_ ?_<;>intro h)|(refine au ?_ ?_<;>intro h<;>try contradiction)|(refine aa ?_;intro g c')| refine ae ?_ | refine ai ?_ | exact ax |(refine aj rfl ?_;intro D lL)| refine af ?_ ?_ | refine ah ?_ ?_ ?_ | fail));(all_goals refine av ?_)
 (conv=>arg 4;arg 6;ext C;whnf)
 refine Lx (A:=0) (vs:=aL (l.getD 0 default)) rfl ?_ True.intro (CL.len _)
 (repeat' ((try refine aw ?_);(conv=>arg 4;whnf);first | refine aO ?_ |(refine sN ?_;intro b)|(refine sC ?_ ?_<;>intro h)|(refine au ?_ ?_<;>intro h<;>try contradiction)|(refine aa ?_;intro g c')| refine ae ?_ | refine ai ?_ | exact ax |(refine aj rfl ?_;intro D lL)| refine af ?_ ?_ | refine ah ?_ ?_ ?_ | fail));(all_goals refine av ?_)
 (conv=>arg 4;arg 5;ext C;whnf)
 refine cR ?_ (qK h0)
 (repeat' ((try refine aw ?_);(conv=>arg 4;whnf);first | refine aO ?_ |(refine sN ?_;intro b)|(refine sC ?_ ?_<;>intro h)|(refine au ?_ ?_<;>intro h<;>try contradiction)|(refine aa ?_;intro g c')| refine ae ?_ | refine ai ?_ | exact ax |(refine aj rfl ?_;intro D lL)| refine af ?_ ?_ | refine ah ?_ ?_ ?_ | fail));(all_goals refine av ?_)
 rename_i ib eb fb
 revert b;intro sb
 refine bG sb ?_
 refine dh [] (X:=Nat) (fun i=> [(3,vI i)]) (fun i=>1≤i∧i≤l.length) (fun i=> []) (fun i=>l.length-i) 1 ⟨Nat.le_refl _,hl⟩ rfl cD ?_
 intro i hi
 (conv=>arg 2;simp only [List.cons_append,List.nil_append])
 by_cases hlt:i<l.length
 ·obtain ⟨j,rfl⟩:∃j,i=j+1:=⟨i-1,by omega⟩
  obtain ⟨kd,hkd,hfo⟩:=IO (hs j hlt)
  (repeat' ((try refine aw ?_);(conv=>arg 4;whnf);first | refine az ?_ |(refine sN ?_;intro b)|(refine sC ?_ ?_<;>intro h)|(refine au ?_ ?_<;>intro h<;>try contradiction)|(refine aa ?_;intro g c')|(refine aA hfo ?_;intro x hx;refine aH ?_)| refine ae ?_ | refine ai ?_ | exact ax |(refine aj rfl ?_;intro D lL)| refine af ?_ ?_ | refine ah ?_ ?_ ?_ | fail));(all_goals refine av ?_)
  exact jV (j+1+1) ⟨by omega,by omega⟩ cD (by omega)
 ·obtain rfl:i=l.length:=by omega
  (repeat' ((try refine aw ?_);(conv=>arg 4;whnf);first | refine az ?_ |(refine sN ?_;intro b)|(refine sC ?_ ?_<;>intro h)|(refine au ?_ ?_<;>intro h<;>try contradiction)|(refine aa ?_;intro g c')| refine ae ?_ | refine ai ?_ | exact ax |(refine aj rfl ?_;intro D lL)| refine af ?_ ?_ | refine ah ?_ ?_ ?_ | fail));(all_goals refine av ?_)
end Go.Proofs.YtbobhnldhpjdlaaGreatDoor
