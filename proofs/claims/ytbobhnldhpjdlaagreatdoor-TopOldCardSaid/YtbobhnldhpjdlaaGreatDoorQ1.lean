/- Lemmas and walks: what each function does, by its own code. No condition beyond those of each statement. -/
import Derived.Test.YtbobhnldhpjdlaaGreatDoorP47
import Derived.Test.YtbobhnldhpjdlaaGreatDoorP48
import Derived.Test.YtbobhnldhpjdlaaGreatDoorP49
import Derived.Test.YtbobhnldhpjdlaaGreatDoorP50
import Derived.Test.YtbobhnldhpjdlaaGreatDoorP51
set_option linter.all false
set_option linter.unusedVariables false
namespace Go.Proofs.YtbobhnldhpjdlaaGreatDoor
open Go Go.RowKit Go.Cs Go.Cz
set_option maxRecDepth 100000
set_option maxHeartbeats 4000000
def KC (sh:Nat):Non:=⟨0,if sh=1 then 2 else 1,by decide,by split<;>decide⟩
theorem BC:∀n,n<21→bas n (hgt n+1)≤10922:=by decide
theorem AI {p:PS} {bi:Nat} {yd:Dig} {hs:bi%p.al.length<4294967296}:(p.wrt bi yd hs).mark=if (p.al.getD (bi%p.al.length) default).toNat<p.mark then p.mark else p.mark+p.rs:=rfl
theorem tA {p:PS} {bi:Nat} {yd:Dig} {hs:bi%p.al.length<4294967296}:(p.wrt bi yd hs).al=p.al.set (bi%p.al.length) (p.al.getD (bi%p.al.length) default+1):=rfl
structure MvOk (p:PS) (n sh:Nat) (K:Key) (b y1 y2:Dig):Prop where
 hn:p.n=n
 hk:p.k=K
 st:(p.L.getD 0 Rec.zero).st=1
 non:(p.L.getD 0 Rec.zero).non=KC sh
 tag:(p.L.getD 0 Rec.zero).tag=il K 0 (KC sh) (cJ K (KC sh) b)
 c0:p.con 0= [some (cJ K (KC sh) b).l,some y1.l]
 c2:∃l,p.con 2=some y2.l::l
theorem jc {α:Type} {l:List α} {i:Nat} {x d:α} (h:i<l.length):(l.set i x).getD i d=x:=by
 rw [List.getD_eq_getElem?_getD,List.getElem?_set_self h];rfl
theorem mu {α:Type} {l:List α} {i j:Nat} {x d:α} (h:i≠j):(l.set i x).getD j d=l.getD j d:=by
 rw [List.getD_eq_getElem?_getD,List.getElem?_set_ne h,←List.getD_eq_getElem?_getD]
end Go.Proofs.YtbobhnldhpjdlaaGreatDoor
namespace Go.Proofs.YtbobhnldhpjdlaaGreatDoor
open Go Go.RowKit Go.Cs Go.Cz
set_option maxRecDepth 100000
set_option maxHeartbeats 4000000
theorem Je {n:Nat} (h1:1≤n) (h2:n≤4096):Zp Tryz.prog 119 [vI n] [] [] (Nat×Nat) (fun _=>True) (fun x=> .tuple #[vA (cf ⟨(some ⟨x.1,0,none⟩,n,n),(some ⟨x.2,0,none⟩,n,n)⟩),vI 0]) (fun _=> []) (fun x=> [Sl ay (some ⟨x.1,0,none⟩) n n (zD n),Sl ay (some ⟨x.2,0,none⟩) n n (zD n)]):=by
 have hck:=kM (n:=n) h1 h2
 have hz:(zD n).length=n:=by simp [zD]
 refine ak fun G=> ?_
 (repeat' ((try refine aw ?_);(conv=>arg 4;whnf);first | refine aO ?_ |(refine sN ?_;intro b)|(refine sC ?_ ?_<;>intro h)|(refine au ?_ ?_<;>intro h<;>try contradiction)|(refine aa ?_;intro g c')|(refine aA hck ?_;intro x hx;refine aH ?_)| refine ae ?_ | refine ai ?_ | exact ax |(refine aj rfl ?_;intro D lL)| refine af ?_ ?_ | refine ah ?_ ?_ ?_ | fail));(all_goals refine av ?_)
 (first | refine bF rfl rfl ?_ |(refine bh ?_;(conv=>arg 4;whnf);refine bc rfl ?_))
 (repeat' ((try refine aw ?_);(conv=>arg 4;whnf);first | refine aO ?_ |(refine sN ?_;intro b)|(refine sC ?_ ?_<;>intro h)|(refine au ?_ ?_<;>intro h<;>try contradiction)|(refine aa ?_;intro g c')|(refine aA hck ?_;intro x hx;refine aH ?_)| refine ae ?_ | refine ai ?_ | exact ax |(refine aj rfl ?_;intro D lL)| refine af ?_ ?_ | refine ah ?_ ?_ ?_ | fail));(all_goals refine av ?_)
 all_goals (
  revert b;intro nb
  refine eK (K:=ay) (l:=zD n) b n n ?_
  refine eK (K:=ay) (l:=zD n) nb n n ?_
  first
  | exact aD (b,nb) True.intro rfl (am _) bu
  | exact aD (nb,b) True.intro rfl (am _) bu)
structure UsOk (p:PS):Prop where
 us:∀i,i<p.us.length→∃y:Non,p.us.getD i default=⟨p.k.enc,⟨y,0,1⟩⟩∧y.ct<(p.al.getD y.sh default).toNat
 ne:∀i j,i<j→j<p.us.length→(p.us.getD i default).Range.Nonce≠(p.us.getD j default).Range.Nonce
theorem UsOk.wrt {p:PS} (h:UsOk p) {bi:Nat} {yd:Dig} (hs:bi%p.al.length<4294967296) (hm:bi%p.al.length<p.al.length) (hc:(p.al.getD (bi%p.al.length) default).toNat<1000):UsOk (p.wrt bi yd hs):=by
 have e:(p.wrt bi yd hs).us=p.us++ [⟨p.k.enc,⟨jT (bi%p.al.length) (p.al.getD (bi%p.al.length) default) hs,0,1⟩⟩]:=rfl
 have ea:(p.wrt bi yd hs).al=p.al.set (bi%p.al.length) (p.al.getD (bi%p.al.length) default+1):=rfl
 have ek:(p.wrt bi yd hs).k=p.k:=rfl
 generalize p.wrt bi yd hs=p' at e ea ek
 have hc1:(p.al.getD (bi%p.al.length) default+1).toNat=(p.al.getD (bi%p.al.length) default).toNat+1:=by
  rw [UInt64.toNat_add]
  show (_+1)%2^64=_
  exact Nat.mod_eq_of_lt (by omega)
 have hlt:∀i,i<p.us.length→p'.us.getD i default=p.us.getD i default:=fun i hi=>by
  rw [e,List.getD_eq_getElem?_getD,List.getElem?_append_left hi,←List.getD_eq_getElem?_getD]
 have heq:p'.us.getD p.us.length default=⟨p.k.enc,⟨jT (bi%p.al.length) (p.al.getD (bi%p.al.length) default) hs,0,1⟩⟩:=by
  rw [e,List.getD_eq_getElem?_getD,List.getElem?_append_right (Nat.le_refl _),Nat.sub_self];rfl
 have hl:p'.us.length=p.us.length+1:=by rw [e];simp
 generalize bi%p.al.length=sd at*
 refine ⟨fun i hi=> ?_,fun i j hij hj=> ?_⟩
 ·by_cases h1:i<p.us.length
  ·obtain ⟨y,h2,h3⟩:=h.us i h1
   refine ⟨y,by rw [hlt i h1,h2,ek], ?_⟩
   rw [ea]
   by_cases h4:sd=y.sh
   ·subst h4;rw [jc hm,hc1];omega
   ·rw [mu h4];exact h3
  ·obtain rfl:i=p.us.length:=by omega
   refine ⟨_,by rw [heq,ek], ?_⟩
   show (p.al.getD sd default).toNat<(p'.al.getD sd default).toNat
   rw [ea,jc hm,hc1];omega
 ·by_cases h1:j<p.us.length
  ·rw [hlt i (by omega),hlt j h1];exact h.ne i j hij h1
  ·obtain rfl:j=p.us.length:=by omega
   rw [hlt i hij,heq]
   obtain ⟨y,h2,h3⟩:=h.us i hij
   rw [h2]
   intro hy
   have hy':y=jT sd (p.al.getD sd default) hs:=hy
   subst hy'
   exact absurd h3 (Nat.lt_irrefl _)
theorem UsOk.fls {p:PS} (h:UsOk p):UsOk p.fls:=⟨h.us,h.ne⟩
structure Pl (n:Nat) (p:PS) (T:Nat):Prop where
 ok:POk p T
 lg:LgOk p
 us:UsOk p
 hn:p.n=n
 hk:p.k=nv (ii 2)
 hrs:p.rs=7
 hlm:p.lm=1000
 al1:1≤p.al.length
 al3:p.al.length≤3
 mrk:p.mark≤T+7
 ct:∀i,(p.al.getD i default).toNat≤T
section
variable {n T:Nat} {p:PS}
theorem Pl.hs (h:Pl n p T) (bi:Nat):bi%p.al.length<4294967296:=Nat.lt_trans (Nat.mod_lt _ h.al1) (by have:=h.al3;omega)
theorem Pl.hr (h:Pl n p T) (hT:T≤30) (bi:Nat):¬(p.al.getD (bi%p.al.length) default).toNat<p.mark→p.mark+p.rs≤p.lm:=fun _=>by
 have h1:=h.mrk;have h2:=h.hrs;have h3:=h.hlm;omega
theorem Pl.wrt (h:Pl n p T) (hT:T≤30) {bi:Nat} {yd:Dig} (hb:bi<n):Pl n (p.wrt bi yd (h.hs bi)) (T+1):=by
 have h1:=h.mrk
 have h2:=h.hrs
 have h3:=h.ct (bi%p.al.length)
 have h4:=h.hn
 have hm:bi%p.al.length<p.al.length:=Nat.mod_lt _ h.al1
 refine ⟨h.ok.wrt (by omega) (by omega) (h.hs bi) (h.hr hT bi),h.lg.wrt h.ok (h.hs bi) (h.hr hT bi),h.us.wrt (h.hs bi) hm (by omega),h.hn,h.hk,h.hrs,h.hlm, ?_, ?_, ?_,fun i=> ?_⟩
 ·rw [tA,List.length_set];exact h.al1
 ·rw [tA,List.length_set];exact h.al3
 ·rw [AI];split<;>omega
 ·rw [tA]
  by_cases e:bi%p.al.length=i
  ·subst e
   rw [jc hm,UInt64.toNat_add]
   show ((p.al.getD (bi%p.al.length) default).toNat+1)%2^64≤_
   rw [Nat.mod_eq_of_lt (by omega)];omega
  ·rw [mu e];exact Nat.le_succ_of_le (h.ct i)
theorem Pl.fls (h:Pl n p T) (hT:T≤30):Pl n p.fls (T+1):=
 ⟨h.ok.fls (by omega),h.lg.fls h.ok,h.us.fls,h.hn,h.hk,h.hrs,h.hlm,h.al1,h.al3,Nat.le_succ_of_le h.mrk,fun i=>Nat.le_succ_of_le (h.ct i)⟩
theorem Pl.up (h:Pl n p T) (hT:T<1000):Pl n p (T+1):=
 ⟨h.ok.up hT,h.lg,h.us,h.hn,h.hk,h.hrs,h.hlm,h.al1,h.al3,Nat.le_succ_of_le h.mrk,fun i=>Nat.le_succ_of_le (h.ct i)⟩
theorem Pl.opn {sh:Nat} (h1:1≤n) (h2:n≤20) (hs1:1≤sh) (hs3:sh≤3) (hsn:sh≤n):Pl n (opn n sh 1000 7 (ii 2)) 0:=
 ⟨AG h1 (by omega) (BC n (by omega)) hsn (CH hs1 (by omega) (by decide) (by decide) (by decide) (by decide)),LgOk.opn,⟨fun i hi=>absurd hi (Nat.not_lt_zero _),fun i j _ hj=>absurd hj (Nat.not_lt_zero _)⟩,rfl,rfl,rfl,rfl,(by show 1≤(List.replicate sh (0:UInt64)).length;simpa using hs1),(by show (List.replicate sh (0:UInt64)).length≤3;simpa using hs3),Nat.zero_le _,fun i=>by
  show ((List.replicate sh (0:UInt64)).getD i default).toNat≤0
  rw [List.getD_eq_getElem?_getD,List.getElem?_replicate];split<;>exact Nat.le_refl _⟩
end
end Go.Proofs.YtbobhnldhpjdlaaGreatDoor
namespace Go.Cz
open Go Go.RowKit Go.Cs
def lefK {X:Type} (live:X→Fm) (q:X→Prop) (Os:X→List It) (Fs:X→List Pt) (μ:X→Nat) (x:X) (G:Gc) (F:List Pt) (fl:Fm) (ds:List Deferred) (K:Kt):Kt:=fun e ds' σ''=>match e with | .nm=>LeF live q Os Fs μ x G F fl ds ds' σ'' | .ex i=>K (.ex i) ds' σ'' | .rt=>K .rt ds' σ''
section
variable {P:Program} {ro:Option Nat} {n:Nat} {c:Code} {ds:List Deferred} {σ:Fm} {K:Kt} {G:Gc} {O R:List It} {F:List Pt} {X:Type}
theorem t_ec {c':Code} (e:c=c') (h:Tr G O F (EC P ro n c' ds σ K)):Tr G O F (EC P ro n c ds σ K):=by subst e;exact h
theorem t_lqG (bs:List Nat) (live:X→Fm) (q:X→Prop) (Os:X→List It) (Fs:X→List Pt) (μ:X→Nat) (x0:X) (F1:List Pt) [hr:Rbs O bs R] (h0:q x0) (hl:Hs (live x0) σ) (hw:Wk O (Os x0++R)) (hF0:∀f∈Fs x0++F1,f∈F)
  (round:∀x,q x→Tr G (Os x++R) (Fs x++F1) (zj (fun fl=>CX (fun σ'=>EC P ro n c ds σ' (lefK live q (fun x=>Os x++R) Fs μ x G F1 fl ds K)) (live x) fl) (qR c []) [] [] σ)):
  Tr G O F (Lp P ro n c ds σ K):=by
 simp only [et] at round
 refine ⟨fun w hp=> ?_⟩
 refine ⟨fun τ hk=> ?_⟩
 unfold i4
 refine ey (fun m a w'=>∃(x:X) (τ':Fm),a=Fr ds n τ'∧q x∧(∀p∈live x,lk τ' p.1=p.2)∧(∀t v,bmem t (qR c [])=false→lo σ t=some v→lk τ' t=v)∧Hp G (Os x++R) (Fs x++F1) w'∧μ x=m) (μ x0)
  ⟨x0,τ,rfl,h0,fun p hpm=>hk _ _ (hl.lo hpm),fun t v _ h=>hk t v h,hp.wk hw hF0,rfl⟩ ?_
 rintro m a w' ⟨x,τ',rfl,hq,h1,h2,hp',rfl⟩
 obtain ⟨fl,h3,h4,_,h5⟩:=lF (τ:=τ') (round x hq w' hp') (fun p hp=>by cases hp) (fun t v _ g2 g3=>h2 t v g2 g3)
 rw [sj] at h3
 have hkn:Kn ((live x).reverse++fl) τ':=Kn.of_all fun p hp=>by
  rcases List.mem_append.1 hp with h9 | h9
  ·exact h1 p (List.mem_reverse.1 h9)
  ·exact h4 p h9
 refine wpIn_mono (jf c ds _ τ' _ w' hkn h3) ?_
 intro e a' w'' hQ
 cases e with
 | normal=>
  obtain ⟨ds',σ'',τ'',rfl,hk'',hL⟩:=hQ
  obtain ⟨rfl,x',hq',hl',hf',hp'',hlt⟩:=LeF.go hL
  exact ⟨μ x',hlt,x',τ'',rfl,hq',fun p hpm=>hk'' _ _ (hl'.lo hpm),fun t v g1 g2=>hk'' t v (hf'.lo (h5 t v rfl g1 g2)),hp'',rfl⟩
 | exit i=>exact hQ
 | ret=>exact hQ
 | _=>exact hQ
end
def lpC:Code→Option Code
 | .loop c=>some c
 | .seq a b=>(lpC a).or (lpC b)
 | .cond _ a b=>(lpC a).or (lpC b)
 | .block _ c=>lpC c
 | .scope c=>lpC c
 | _=>none
def lpF (f:Func):Code:=(f.body.bind lpC).getD .skip
end Go.Cz
namespace Go.Proofs.YtbobhnldhpjdlaaGreatDoor
open Go Go.RowKit Go.Cs Go.Cz
set_option maxRecDepth 100000
set_option maxHeartbeats 40000000
def RdP (n i an dn sb ab o1 o2 lc r1 r2 r3:Nat) (os:List SOpn) (ys:List (List UInt8)) (p:PS) (M:ML) (ad:Addr) (c1 c2 c3:List Value) (G:Gc) (f:Pt):Prop:=∀K:Kt,Tr G [iB sb (aB (c8 p M)) 48,iB ab (cf ⟨(some ⟨an,0,none⟩,n,n),(some ⟨dn,0,none⟩,n,n)⟩) 111,iB r1 c1 111,iB r2 c2 48,iB r3 c3 109] [f,Dm M.d M.I,Sl aL (some ⟨M.lb,0,none⟩) p.log.length M.lc p.log,Sl cQ (some ⟨M.ab,0,none⟩) p.al.length p.al.length p.al,Sl a7 (some ⟨M.tb,0,none⟩) (tot p.n) (tot p.n) (treW p.L p.c p.s),Sl bP M.ua p.us.length M.uc p.us,Sl ay (some ⟨an,0,none⟩) n n p.now,Sl ay (some ⟨dn,0,none⟩) n n p.dur,Opm n os ys,Sl aN (some ⟨o1,o2,none⟩) os.length lc os,Gs (qE ad)]
  (EC Tryz.prog none 120 (lpF Tryz.f32) [] [(11,vI i),(2,vP r2 0),(3,vP r1 0),(5,vI n),(6, .slice (some ⟨o1,o2,none⟩) os.length lc),(7,vP sb 0),(9,vP ab 0)] (lefK (X:=Nat×PS×ML×Nat×Nat) (fun x=> [(11,vI x.1)]) (fun x=>x.1≤os.length∧Pl n x.2.1 x.1∧DM x.2.1 x.2.2.1 x.1) (fun x=> [iB sb (aB (c8 x.2.1 x.2.2.1)) 48,iB ab (cf ⟨(some ⟨x.2.2.2.1,0,none⟩,n,n),(some ⟨x.2.2.2.2,0,none⟩,n,n)⟩) 111]++ [iB r1 c1 111,iB r2 c2 48,iB r3 c3 109]) (fun x=>SFl x.2.1 x.2.2.1++ [Sl ay (some ⟨x.2.2.2.1,0,none⟩) n n x.2.1.now,Sl ay (some ⟨x.2.2.2.2,0,none⟩) n n x.2.1.dur]) (fun x=>os.length-x.1) (i,p,M,an,dn) G [Opm n os ys,Sl aN (some ⟨o1,o2,none⟩) os.length lc os,Gs (qE ad)] [(2,vP r2 0),(3,vP r1 0),(5,vI n),(6, .slice (some ⟨o1,o2,none⟩) os.length lc),(7,vP sb 0),(9,vP ab 0)] [] K))
theorem pl_len {n i:Nat} {p:PS} (hPl:Pl n p i) (h0:0<n) (h20:n≤20):p.now.length=n∧p.n=n∧0<p.now.length∧p.now.length≤4096∧p.dur.length=p.now.length:=by
 have hnl:p.now.length=n:=by rw [hPl.ok.work.nl,hPl.hn]
 have hdl:p.dur.length=n:=by rw [hPl.ok.work.int.dl,hPl.hn]
 exact ⟨hnl,hPl.hn,by omega,by omega,by omega⟩
theorem opn_sb {o:SOpn} {kd:Nat} {ix:Int} {d:Option Addr} {a b:Nat} (h:o=⟨kd,ix,(d,a,b)⟩):Sb (aN o) 0 [.int .u8 ((kd:Nat):Int)] True∧Sb (aN o) 1 [.int .i64 ix] True∧Sb (aN o) 2 [.slice d a b] True:=by
 subst h
 exact ⟨inferInstance,inferInstance,inferInstance⟩
end Go.Proofs.YtbobhnldhpjdlaaGreatDoor
namespace Go.Proofs.YtbobhnldhpjdlaaGreatDoor
open Go Go.RowKit Go.Cs Go.Cz
set_option maxRecDepth 100000
set_option maxHeartbeats 40000000
section
variable {n i j an dn sb ab o1 o2 lc d2 d3 k2 k3:Nat} {ix:Int} {os:List SOpn} {ys:List (List UInt8)} {p:PS} {M:ML} {ad:Addr} {d1:Option Addr} {y:List UInt8} {Y:Dig} {G:Gc} {r1 r2 r3:Nat} {c1 c2 c3:List Value}
theorem z_pldR1 (h0:0<n) (h20:n≤20) (hPl:Pl n p i) (hM:DM p M i) (hlt:i<os.length) (hT:i≤30) (hj:j<n) (hO:os.getD i default=⟨1,(j:Int),(d1,k2,k3)⟩):RdP n i an dn sb ab o1 o2 lc r1 r2 r3 os ys p M ad c1 c2 c3 G (Sl cB d1 k2 k3 y):=by
 intro K
 obtain ⟨hnl,hpn,hn1,hn2,hd2⟩:=pl_len hPl h0 h20
 obtain ⟨hS0,hS1,hS2⟩:=opn_sb hO
 have hdo:=Iz (a1:=some ⟨an,0,none⟩) (a2:=some ⟨dn,0,none⟩) (d1:=d1) (n1:=n) (n2:=n) (c1:=n) (c2:=n) (dn:=k2) (dc:=k3) (l1:=p.now) (l2:=p.dur) hn1 hn2 hd2 (by omega:j<p.now.length)
 rw [hnl,←hO] at hdo
 have hrd:=Ie (M:=M) (q:=qE ad) hPl.ok hM (by omega:j<p.n)
 (conv=>arg 4;arg 4;whnf)
 (repeat' ((try refine aw ?_);(conv=>arg 4;whnf);first | refine aO ?_ |(refine sN ?_;intro b)|(refine sC ?_ ?_<;>intro h)|(refine au ?_ ?_<;>intro h<;>try contradiction)|(refine aa ?_;intro g c')| refine ai ?_ | exact ax |(refine aj rfl ?_;intro D lL)| refine af ?_ ?_ | refine ah ?_ ?_ ?_ | fail));(all_goals refine av ?_)
 (first | refine bF rfl rfl ?_ |(refine bh ?_;(conv=>arg 4;whnf);refine bc rfl ?_))
 (repeat' ((try refine aw ?_);(conv=>arg 4;whnf);first | refine aO ?_ |(refine sN ?_;intro b)|(refine sC ?_ ?_<;>intro h)|(refine au ?_ ?_<;>intro h<;>try contradiction)|(refine aa ?_;intro g c')|(refine cw hdo ?_;intro x hx;refine bV ?_)| refine ai ?_ | exact ax |(refine aj rfl ?_;intro D lL)| refine af ?_ ?_ | refine ah ?_ ?_ ?_ | fail));(all_goals refine av ?_)
 obtain ⟨an1,dn1⟩:=x
 dsimp only
 (first | refine bF rfl rfl ?_ |(refine bh ?_;(conv=>arg 4;whnf);refine bc rfl ?_))
 (repeat' ((try refine aw ?_);(conv=>arg 4;whnf);first | refine aO ?_ |(refine sN ?_;intro b)|(refine sC ?_ ?_<;>intro h)|(refine au ?_ ?_<;>intro h<;>try contradiction)|(refine aa ?_;intro g c')|(refine aA hrd ?_;intro x hx;refine aH ?_)| refine ai ?_ | exact ax |(refine aj rfl ?_;intro D lL)| refine af ?_ ?_ | refine ah ?_ ?_ ?_ | fail));(all_goals refine av ?_)
 refine eU (i+1,p,M,an1,dn1) ⟨hlt,hPl.up (by omega),⟨dY hM.ok (by omega),hM.sz⟩⟩ (by
  ((repeat' (first | with_reducible exact ar _ | exact am _ | refine aE ?_ ?_ | refine aG inferInstance ?_ | refine aX ?_))<;>(try with_reducible rfl))) (by dsimp only;omega) (by
  simp only [List.cons_append,List.nil_append]
  exact bu)
theorem z_pldR2 (h0:0<n) (h20:n≤20) (hPl:Pl n p i) (hM:DM p M i) (hlt:i<os.length) (hT:i≤30) (hj:j<n) (hO:os.getD i default=⟨2,(j:Int),(some ⟨d2,d3,none⟩,32,k3)⟩):RdP n i an dn sb ab o1 o2 lc r1 r2 r3 os ys p M ad c1 c2 c3 G (Sl cB (some ⟨d2,d3,none⟩) 32 k3 Y.l):=by
 intro K
 obtain ⟨hnl,hpn,hn1,hn2,hd2⟩:=pl_len hPl h0 h20
 obtain ⟨hS0,hS1,hS2⟩:=opn_sb hO
 have hdo:=Ji (a1:=some ⟨an,0,none⟩) (a2:=some ⟨dn,0,none⟩) (d1:=some ⟨d2,d3,none⟩) (n1:=n) (n2:=n) (c1:=n) (c2:=n) (dc:=k3) (l1:=p.now) (l2:=p.dur) (y:=Y) hn1 hn2 hd2 (by omega:j<p.now.length)
 rw [hnl,←hO] at hdo
 have hwr:=E6 (M:=M) (q:=qE ad) (c:=k3) (ad:=d2) (ao:=d3) hPl.ok hM (by omega) Y.h (by omega:j<p.n) (hPl.hs j) (hPl.hr hT j)
 rw [show Dig.of Y.l=Y from Dig.ext' (Dig.of_l Y.h)] at hwr
 (conv=>arg 4;arg 4;whnf)
 (repeat' ((try refine aw ?_);(conv=>arg 4;whnf);first | refine aO ?_ |(refine sN ?_;intro b)|(refine sC ?_ ?_<;>intro h)|(refine au ?_ ?_<;>intro h<;>try contradiction)|(refine aa ?_;intro g c')| refine ai ?_ | exact ax |(refine aj rfl ?_;intro D lL)| refine af ?_ ?_ | refine ah ?_ ?_ ?_ | fail));(all_goals refine av ?_)
 (first | refine bF rfl rfl ?_ |(refine bh ?_;(conv=>arg 4;whnf);refine bc rfl ?_))
 (repeat' ((try refine aw ?_);(conv=>arg 4;whnf);first | refine aO ?_ |(refine sN ?_;intro b)|(refine sC ?_ ?_<;>intro h)|(refine au ?_ ?_<;>intro h<;>try contradiction)|(refine aa ?_;intro g c')|(refine cw hdo ?_;intro x hx;refine bV ?_)| refine ai ?_ | exact ax |(refine aj rfl ?_;intro D lL)| refine af ?_ ?_ | refine ah ?_ ?_ ?_ | fail));(all_goals refine av ?_)
 obtain ⟨an1,dn1⟩:=x
 dsimp only
 (first | refine bF rfl rfl ?_ |(refine bh ?_;(conv=>arg 4;whnf);refine bc rfl ?_))
 (repeat' ((try refine aw ?_);(conv=>arg 4;whnf);first | refine aO ?_ |(refine sN ?_;intro b)|(refine sC ?_ ?_<;>intro h)|(refine au ?_ ?_<;>intro h<;>try contradiction)|(refine aa ?_;intro g c')|(refine cw hwr ?_;intro x hx;refine bV ?_)| refine ai ?_ | exact ax |(refine aj rfl ?_;intro D lL)| refine af ?_ ?_ | refine ah ?_ ?_ ?_ | fail));(all_goals refine av ?_)
 have ew:(p.wrt j Y (hPl.hs j)).now=p.now.set j Y:=rfl
 have ed:(p.wrt j Y (hPl.hs j)).dur=p.dur:=rfl
 refine eU (i+1,p.wrt j Y (hPl.hs j),x,an1,dn1) ⟨hlt,hPl.wrt hT hj,hx⟩ (by
  ((repeat' (first | with_reducible exact ar _ | exact am _ | refine aE ?_ ?_ | refine aG inferInstance ?_ | refine aX ?_))<;>(try with_reducible rfl))) (by dsimp only;omega) (by
  simp only [List.cons_append,List.nil_append]
  rw [ew,ed]
  exact bu)
theorem z_pldR3 (h0:0<n) (h20:n≤20) (hPl:Pl n p i) (hM:DM p M i) (hlt:i<os.length) (hT:i≤30) (hO:os.getD i default=⟨3,ix,(d1,k2,k3)⟩):RdP n i an dn sb ab o1 o2 lc r1 r2 r3 os ys p M ad c1 c2 c3 G (Sl cB d1 k2 k3 y):=by
 intro K
 obtain ⟨hnl,hpn,hn1,hn2,hd2⟩:=pl_len hPl h0 h20
 obtain ⟨hS0,hS1,hS2⟩:=opn_sb hO
 have hdo:=Jt (a1:=some ⟨an,0,none⟩) (a2:=some ⟨dn,0,none⟩) (d1:=d1) (n1:=n) (n2:=n) (c1:=n) (c2:=n) (dn:=k2) (ix:=ix) (dc:=k3) (l1:=p.now) (l2:=p.dur) hn1 hn2 hd2
 rw [hnl,←hO] at hdo
 have hfl:=Ea (M:=M) (q:=qE ad) hPl.ok hM (by omega)
 (conv=>arg 4;arg 4;whnf)
 (repeat' ((try refine aw ?_);(conv=>arg 4;whnf);first | refine aO ?_ |(refine sN ?_;intro b)|(refine sC ?_ ?_<;>intro h)|(refine au ?_ ?_<;>intro h<;>try contradiction)|(refine aa ?_;intro g c')| refine ai ?_ | exact ax |(refine aj rfl ?_;intro D lL)| refine af ?_ ?_ | refine ah ?_ ?_ ?_ | fail));(all_goals refine av ?_)
 (first | refine bF rfl rfl ?_ |(refine bh ?_;(conv=>arg 4;whnf);refine bc rfl ?_))
 (repeat' ((try refine aw ?_);(conv=>arg 4;whnf);first | refine aO ?_ |(refine sN ?_;intro b)|(refine sC ?_ ?_<;>intro h)|(refine au ?_ ?_<;>intro h<;>try contradiction)|(refine aa ?_;intro g c')|(refine cw hdo ?_;intro x hx;refine bV ?_)| refine ai ?_ | exact ax |(refine aj rfl ?_;intro D lL)| refine af ?_ ?_ | refine ah ?_ ?_ ?_ | fail));(all_goals refine av ?_)
 obtain ⟨an1,dn1⟩:=x
 dsimp only
 (repeat' ((try refine aw ?_);(conv=>arg 4;whnf);first | refine aO ?_ |(refine sN ?_;intro b)|(refine sC ?_ ?_<;>intro h)|(refine au ?_ ?_<;>intro h<;>try contradiction)|(refine aa ?_;intro g c')|(refine cw hfl ?_;intro x hx;refine bV ?_)| refine ai ?_ | exact ax |(refine aj rfl ?_;intro D lL)| refine af ?_ ?_ | refine ah ?_ ?_ ?_ | fail));(all_goals refine av ?_)
 have ew:p.fls.now=p.now:=rfl
 have ed:p.fls.dur=p.now:=rfl
 refine eU (i+1,p.fls,x,an1,dn1) ⟨hlt,hPl.fls hT,hx⟩ (by
  ((repeat' (first | with_reducible exact ar _ | exact am _ | refine aE ?_ ?_ | refine aG inferInstance ?_ | refine aX ?_))<;>(try with_reducible rfl))) (by dsimp only;omega) (by
  simp only [List.cons_append,List.nil_append]
  rw [ew,ed]
  exact bu)
end
end Go.Proofs.YtbobhnldhpjdlaaGreatDoor
namespace Go.Proofs.YtbobhnldhpjdlaaGreatDoor
open Go Go.RowKit Go.Cs Go.Cz
set_option maxRecDepth 100000
set_option maxHeartbeats 40000000
section
variable {n i j an dn sb ab o1 o2 lc d2 d3 k2 k3:Nat} {ix:Int} {os:List SOpn} {ys:List (List UInt8)} {p:PS} {M:ML} {ad:Addr} {d1:Option Addr} {y:List UInt8} {Y:Dig} {G:Gc} {r1 r2 r3:Nat} {c1 c2 c3:List Value}
theorem z_pldR4 (h0:0<n) (h20:n≤20) (hPl:Pl n p i) (hM:DM p M i) (hlt:i<os.length) (hT:i≤30) (hb:Bdo n 1 (n:Int) k2) (hO:os.getD i default=⟨1,(n:Int),(d1,k2,k3)⟩):RdP n i an dn sb ab o1 o2 lc r1 r2 r3 os ys p M ad c1 c2 c3 G (Sl cB d1 k2 k3 y):=by
 intro K
 obtain ⟨hnl,hpn,hn1,hn2,hd2⟩:=pl_len hPl h0 h20
 obtain ⟨hS0,hS1,hS2⟩:=opn_sb hO
 have hdo:=HW (a1:=some ⟨an,0,none⟩) (a2:=some ⟨dn,0,none⟩) (d1:=d1) (n1:=n) (n2:=n) (c1:=n) (c2:=n) (dn:=k2) (dc:=k3) (kd:=1) (ix:=(n:Int)) (l1:=p.now) (l2:=p.dur) hn1 hn2 hd2 (by rw [hnl];exact hb)
 rw [hnl,←hO] at hdo
 have hrd:=Hz (M:=M) (ad:=ad) hPl.ok
 rw [show (vI p.n:Value)=vI n by rw [hpn]] at hrd
 (conv=>arg 4;arg 4;whnf)
 (repeat' ((try refine aw ?_);(conv=>arg 4;whnf);first | refine aO ?_ |(refine sN ?_;intro b)|(refine sC ?_ ?_<;>intro h)|(refine au ?_ ?_<;>intro h<;>try contradiction)|(refine aa ?_;intro g c')| refine ai ?_ | exact ax |(refine aj rfl ?_;intro D lL)| refine af ?_ ?_ | refine ah ?_ ?_ ?_ | fail));(all_goals refine av ?_)
 (first | refine bF rfl rfl ?_ |(refine bh ?_;(conv=>arg 4;whnf);refine bc rfl ?_))
 (repeat' ((try refine aw ?_);(conv=>arg 4;whnf);first | refine aO ?_ |(refine sN ?_;intro b)|(refine sC ?_ ?_<;>intro h)|(refine au ?_ ?_<;>intro h<;>try contradiction)|(refine aa ?_;intro g c')|(refine cw hdo ?_;intro x hx;refine bV ?_)| refine ai ?_ | exact ax |(refine aj rfl ?_;intro D lL)| refine af ?_ ?_ | refine ah ?_ ?_ ?_ | fail));(all_goals refine av ?_)
 obtain ⟨an1,dn1⟩:=x
 dsimp only
 (first | refine bF rfl rfl ?_ |(refine bh ?_;(conv=>arg 4;whnf);refine bc rfl ?_))
 (repeat' ((try refine aw ?_);(conv=>arg 4;whnf);first | refine aO ?_ |(refine sN ?_;intro b)|(refine sC ?_ ?_<;>intro h)|(refine au ?_ ?_<;>intro h<;>try contradiction)|(refine aa ?_;intro g c')|(refine aA hrd ?_;intro x hx;refine aH ?_)| refine ai ?_ | exact ax |(refine aj rfl ?_;intro D lL)| refine af ?_ ?_ | refine ah ?_ ?_ ?_ | fail));(all_goals refine av ?_)
 refine eU (i+1,p,M,an1,dn1) ⟨hlt,hPl.up (by omega),⟨dY hM.ok (by omega),hM.sz⟩⟩ (by
  ((repeat' (first | with_reducible exact ar _ | exact am _ | refine aE ?_ ?_ | refine aG inferInstance ?_ | refine aX ?_))<;>(try with_reducible rfl))
  all_goals rfl) (by dsimp only;omega) (by
  simp only [List.cons_append,List.nil_append]
  exact bu)
theorem z_pldR5 (h0:0<n) (h20:n≤20) (hPl:Pl n p i) (hM:DM p M i) (hlt:i<os.length) (hT:i≤30) (hb:Bdo n 2 (-1) 32) (hO:os.getD i default=⟨2,(-1),(d1,32,k3)⟩):RdP n i an dn sb ab o1 o2 lc r1 r2 r3 os ys p M ad c1 c2 c3 G (Sl cB d1 32 k3 y):=by
 intro K
 obtain ⟨hnl,hpn,hn1,hn2,hd2⟩:=pl_len hPl h0 h20
 obtain ⟨hS0,hS1,hS2⟩:=opn_sb hO
 have hdo:=HW (a1:=some ⟨an,0,none⟩) (a2:=some ⟨dn,0,none⟩) (d1:=d1) (n1:=n) (n2:=n) (c1:=n) (c2:=n) (dn:=32) (dc:=k3) (kd:=2) (ix:=(-1)) (l1:=p.now) (l2:=p.dur) hn1 hn2 hd2 (by rw [hnl];exact hb)
 rw [hnl,←hO] at hdo
 have hwr:=Jr (M:=M) (ad:=ad) (a:=d1) (n:=32) (c:=k3) hPl.ok
 (conv=>arg 4;arg 4;whnf)
 (repeat' ((try refine aw ?_);(conv=>arg 4;whnf);first | refine aO ?_ |(refine sN ?_;intro b)|(refine sC ?_ ?_<;>intro h)|(refine au ?_ ?_<;>intro h<;>try contradiction)|(refine aa ?_;intro g c')| refine ai ?_ | exact ax |(refine aj rfl ?_;intro D lL)| refine af ?_ ?_ | refine ah ?_ ?_ ?_ | fail));(all_goals refine av ?_)
 (first | refine bF rfl rfl ?_ |(refine bh ?_;(conv=>arg 4;whnf);refine bc rfl ?_))
 (repeat' ((try refine aw ?_);(conv=>arg 4;whnf);first | refine aO ?_ |(refine sN ?_;intro b)|(refine sC ?_ ?_<;>intro h)|(refine au ?_ ?_<;>intro h<;>try contradiction)|(refine aa ?_;intro g c')|(refine cw hdo ?_;intro x hx;refine bV ?_)| refine ai ?_ | exact ax |(refine aj rfl ?_;intro D lL)| refine af ?_ ?_ | refine ah ?_ ?_ ?_ | fail));(all_goals refine av ?_)
 obtain ⟨an1,dn1⟩:=x
 dsimp only
 (first | refine bF rfl rfl ?_ |(refine bh ?_;(conv=>arg 4;whnf);refine bc rfl ?_))
 (repeat' ((try refine aw ?_);(conv=>arg 4;whnf);first | refine aO ?_ |(refine sN ?_;intro b)|(refine sC ?_ ?_<;>intro h)|(refine au ?_ ?_<;>intro h<;>try contradiction)|(refine aa ?_;intro g c')|(refine aA hwr ?_;intro x hx;refine aH ?_)| refine ai ?_ | exact ax |(refine aj rfl ?_;intro D lL)| refine af ?_ ?_ | refine ah ?_ ?_ ?_ | fail));(all_goals refine av ?_)
 refine eU (i+1,p,M,an1,dn1) ⟨hlt,hPl.up (by omega),⟨dY hM.ok (by omega),hM.sz⟩⟩ (by
  ((repeat' (first | with_reducible exact ar _ | exact am _ | refine aE ?_ ?_ | refine aG inferInstance ?_ | refine aX ?_))<;>(try with_reducible rfl))
  all_goals rfl) (by dsimp only;omega) (by
  simp only [List.cons_append,List.nil_append]
  exact bu)
theorem z_pldR6 (h0:0<n) (h20:n≤20) (hPl:Pl n p i) (hM:DM p M i) (hlt:i<os.length) (hT:i≤30) (hj:j<n) (hb:Bdo n 2 (j:Int) 31) (hO:os.getD i default=⟨2,(j:Int),(d1,31,k3)⟩):RdP n i an dn sb ab o1 o2 lc r1 r2 r3 os ys p M ad c1 c2 c3 G (Sl cB d1 31 k3 y):=by
 intro K
 obtain ⟨hnl,hpn,hn1,hn2,hd2⟩:=pl_len hPl h0 h20
 obtain ⟨hS0,hS1,hS2⟩:=opn_sb hO
 have hdo:=HW (a1:=some ⟨an,0,none⟩) (a2:=some ⟨dn,0,none⟩) (d1:=d1) (n1:=n) (n2:=n) (c1:=n) (c2:=n) (dn:=31) (dc:=k3) (kd:=2) (ix:=(j:Int)) (l1:=p.now) (l2:=p.dur) hn1 hn2 hd2 (by rw [hnl];exact hb)
 rw [hnl,←hO] at hdo
 have hwr:=Eo (M:=M) (ad:=ad) (a:=d1) (n:=31) (c:=k3) hPl.ok (by omega:j<p.n) (by decide)
 (conv=>arg 4;arg 4;whnf)
 (repeat' ((try refine aw ?_);(conv=>arg 4;whnf);first | refine aO ?_ |(refine sN ?_;intro b)|(refine sC ?_ ?_<;>intro h)|(refine au ?_ ?_<;>intro h<;>try contradiction)|(refine aa ?_;intro g c')| refine ai ?_ | exact ax |(refine aj rfl ?_;intro D lL)| refine af ?_ ?_ | refine ah ?_ ?_ ?_ | fail));(all_goals refine av ?_)
 (first | refine bF rfl rfl ?_ |(refine bh ?_;(conv=>arg 4;whnf);refine bc rfl ?_))
 (repeat' ((try refine aw ?_);(conv=>arg 4;whnf);first | refine aO ?_ |(refine sN ?_;intro b)|(refine sC ?_ ?_<;>intro h)|(refine au ?_ ?_<;>intro h<;>try contradiction)|(refine aa ?_;intro g c')|(refine cw hdo ?_;intro x hx;refine bV ?_)| refine ai ?_ | exact ax |(refine aj rfl ?_;intro D lL)| refine af ?_ ?_ | refine ah ?_ ?_ ?_ | fail));(all_goals refine av ?_)
 obtain ⟨an1,dn1⟩:=x
 dsimp only
 (first | refine bF rfl rfl ?_ |(refine bh ?_;(conv=>arg 4;whnf);refine bc rfl ?_))
 (repeat' ((try refine aw ?_);(conv=>arg 4;whnf);first | refine aO ?_ |(refine sN ?_;intro b)|(refine sC ?_ ?_<;>intro h)|(refine au ?_ ?_<;>intro h<;>try contradiction)|(refine aa ?_;intro g c')|(refine aA hwr ?_;intro x hx;refine aH ?_)| refine ai ?_ | exact ax |(refine aj rfl ?_;intro D lL)| refine af ?_ ?_ | refine ah ?_ ?_ ?_ | fail));(all_goals refine av ?_)
 refine eU (i+1,p,M,an1,dn1) ⟨hlt,hPl.up (by omega),⟨dY hM.ok (by omega),hM.sz⟩⟩ (by
  ((repeat' (first | with_reducible exact ar _ | exact am _ | refine aE ?_ ?_ | refine aG inferInstance ?_ | refine aX ?_))<;>(try with_reducible rfl))
  all_goals rfl) (by dsimp only;omega) (by
  simp only [List.cons_append,List.nil_append]
  exact bu)
theorem z_pldR7 (h0:0<n) (h20:n≤20) (hPl:Pl n p i) (hM:DM p M i) (hlt:i<os.length) (hT:i≤30) (hj:j<n) (hb:Bdo n 2 (j:Int) 33) (hO:os.getD i default=⟨2,(j:Int),(d1,33,k3)⟩):RdP n i an dn sb ab o1 o2 lc r1 r2 r3 os ys p M ad c1 c2 c3 G (Sl cB d1 33 k3 y):=by
 intro K
 obtain ⟨hnl,hpn,hn1,hn2,hd2⟩:=pl_len hPl h0 h20
 obtain ⟨hS0,hS1,hS2⟩:=opn_sb hO
 have hdo:=HW (a1:=some ⟨an,0,none⟩) (a2:=some ⟨dn,0,none⟩) (d1:=d1) (n1:=n) (n2:=n) (c1:=n) (c2:=n) (dn:=33) (dc:=k3) (kd:=2) (ix:=(j:Int)) (l1:=p.now) (l2:=p.dur) hn1 hn2 hd2 (by rw [hnl];exact hb)
 rw [hnl,←hO] at hdo
 have hwr:=Eo (M:=M) (ad:=ad) (a:=d1) (n:=33) (c:=k3) hPl.ok (by omega:j<p.n) (by decide)
 (conv=>arg 4;arg 4;whnf)
 (repeat' ((try refine aw ?_);(conv=>arg 4;whnf);first | refine aO ?_ |(refine sN ?_;intro b)|(refine sC ?_ ?_<;>intro h)|(refine au ?_ ?_<;>intro h<;>try contradiction)|(refine aa ?_;intro g c')| refine ai ?_ | exact ax |(refine aj rfl ?_;intro D lL)| refine af ?_ ?_ | refine ah ?_ ?_ ?_ | fail));(all_goals refine av ?_)
 (first | refine bF rfl rfl ?_ |(refine bh ?_;(conv=>arg 4;whnf);refine bc rfl ?_))
 (repeat' ((try refine aw ?_);(conv=>arg 4;whnf);first | refine aO ?_ |(refine sN ?_;intro b)|(refine sC ?_ ?_<;>intro h)|(refine au ?_ ?_<;>intro h<;>try contradiction)|(refine aa ?_;intro g c')|(refine cw hdo ?_;intro x hx;refine bV ?_)| refine ai ?_ | exact ax |(refine aj rfl ?_;intro D lL)| refine af ?_ ?_ | refine ah ?_ ?_ ?_ | fail));(all_goals refine av ?_)
 obtain ⟨an1,dn1⟩:=x
 dsimp only
 (first | refine bF rfl rfl ?_ |(refine bh ?_;(conv=>arg 4;whnf);refine bc rfl ?_))
 (repeat' ((try refine aw ?_);(conv=>arg 4;whnf);first | refine aO ?_ |(refine sN ?_;intro b)|(refine sC ?_ ?_<;>intro h)|(refine au ?_ ?_<;>intro h<;>try contradiction)|(refine aa ?_;intro g c')|(refine aA hwr ?_;intro x hx;refine aH ?_)| refine ai ?_ | exact ax |(refine aj rfl ?_;intro D lL)| refine af ?_ ?_ | refine ah ?_ ?_ ?_ | fail));(all_goals refine av ?_)
 refine eU (i+1,p,M,an1,dn1) ⟨hlt,hPl.up (by omega),⟨dY hM.ok (by omega),hM.sz⟩⟩ (by
  ((repeat' (first | with_reducible exact ar _ | exact am _ | refine aE ?_ ?_ | refine aG inferInstance ?_ | refine aX ?_))<;>(try with_reducible rfl))
  all_goals rfl) (by dsimp only;omega) (by
  simp only [List.cons_append,List.nil_append]
  exact bu)
theorem z_pldR8 (h0:0<n) (h20:n≤20) (hPl:Pl n p i) (hM:DM p M i) (hlt:i<os.length) (hT:i≤30) (hb:Bdo n 0 ix k2) (hO:os.getD i default=⟨0,ix,(d1,k2,k3)⟩):RdP n i an dn sb ab o1 o2 lc r1 r2 r3 os ys p M ad c1 c2 c3 G (Sl cB d1 k2 k3 y):=by
 intro K
 obtain ⟨hnl,hpn,hn1,hn2,hd2⟩:=pl_len hPl h0 h20
 obtain ⟨hS0,hS1,hS2⟩:=opn_sb hO
 have hdo:=HW (a1:=some ⟨an,0,none⟩) (a2:=some ⟨dn,0,none⟩) (d1:=d1) (n1:=n) (n2:=n) (c1:=n) (c2:=n) (dn:=k2) (dc:=k3) (kd:=0) (ix:=ix) (l1:=p.now) (l2:=p.dur) hn1 hn2 hd2 (by rw [hnl];exact hb)
 rw [hnl,←hO] at hdo
 (conv=>arg 4;arg 4;whnf)
 (repeat' ((try refine aw ?_);(conv=>arg 4;whnf);first | refine aO ?_ |(refine sN ?_;intro b)|(refine sC ?_ ?_<;>intro h)|(refine au ?_ ?_<;>intro h<;>try contradiction)|(refine aa ?_;intro g c')| refine ai ?_ | exact ax |(refine aj rfl ?_;intro D lL)| refine af ?_ ?_ | refine ah ?_ ?_ ?_ | fail));(all_goals refine av ?_)
 (first | refine bF rfl rfl ?_ |(refine bh ?_;(conv=>arg 4;whnf);refine bc rfl ?_))
 (repeat' ((try refine aw ?_);(conv=>arg 4;whnf);first | refine aO ?_ |(refine sN ?_;intro b)|(refine sC ?_ ?_<;>intro h)|(refine au ?_ ?_<;>intro h<;>try contradiction)|(refine aa ?_;intro g c')|(refine cw hdo ?_;intro x hx;refine bV ?_)| refine ai ?_ | exact ax |(refine aj rfl ?_;intro D lL)| refine af ?_ ?_ | refine ah ?_ ?_ ?_ | fail));(all_goals refine av ?_)
 obtain ⟨an1,dn1⟩:=x
 dsimp only
 refine eU (i+1,p,M,an1,dn1) ⟨hlt,hPl.up (by omega),⟨dY hM.ok (by omega),hM.sz⟩⟩ (by
  ((repeat' (first | with_reducible exact ar _ | exact am _ | refine aE ?_ ?_ | refine aG inferInstance ?_ | refine aX ?_))<;>(try with_reducible rfl))
  all_goals rfl) (by dsimp only;omega) (by
  simp only [List.cons_append,List.nil_append]
  exact bu)
theorem z_pldR9 (h0:0<n) (h20:n≤20) (hPl:Pl n p i) (hM:DM p M i) (hlt:i<os.length) (hT:i≤30) (hb:Bdo n 4 ix k2) (hO:os.getD i default=⟨4,ix,(d1,k2,k3)⟩):RdP n i an dn sb ab o1 o2 lc r1 r2 r3 os ys p M ad c1 c2 c3 G (Sl cB d1 k2 k3 y):=by
 intro K
 obtain ⟨hnl,hpn,hn1,hn2,hd2⟩:=pl_len hPl h0 h20
 obtain ⟨hS0,hS1,hS2⟩:=opn_sb hO
 have hdo:=HW (a1:=some ⟨an,0,none⟩) (a2:=some ⟨dn,0,none⟩) (d1:=d1) (n1:=n) (n2:=n) (c1:=n) (c2:=n) (dn:=k2) (dc:=k3) (kd:=4) (ix:=ix) (l1:=p.now) (l2:=p.dur) hn1 hn2 hd2 (by rw [hnl];exact hb)
 rw [hnl,←hO] at hdo
 (conv=>arg 4;arg 4;whnf)
 (repeat' ((try refine aw ?_);(conv=>arg 4;whnf);first | refine aO ?_ |(refine sN ?_;intro b)|(refine sC ?_ ?_<;>intro h)|(refine au ?_ ?_<;>intro h<;>try contradiction)|(refine aa ?_;intro g c')| refine ai ?_ | exact ax |(refine aj rfl ?_;intro D lL)| refine af ?_ ?_ | refine ah ?_ ?_ ?_ | fail));(all_goals refine av ?_)
 (first | refine bF rfl rfl ?_ |(refine bh ?_;(conv=>arg 4;whnf);refine bc rfl ?_))
 (repeat' ((try refine aw ?_);(conv=>arg 4;whnf);first | refine aO ?_ |(refine sN ?_;intro b)|(refine sC ?_ ?_<;>intro h)|(refine au ?_ ?_<;>intro h<;>try contradiction)|(refine aa ?_;intro g c')|(refine cw hdo ?_;intro x hx;refine bV ?_)| refine ai ?_ | exact ax |(refine aj rfl ?_;intro D lL)| refine af ?_ ?_ | refine ah ?_ ?_ ?_ | fail));(all_goals refine av ?_)
 obtain ⟨an1,dn1⟩:=x
 dsimp only
 refine eU (i+1,p,M,an1,dn1) ⟨hlt,hPl.up (by omega),⟨dY hM.ok (by omega),hM.sz⟩⟩ (by
  ((repeat' (first | with_reducible exact ar _ | exact am _ | refine aE ?_ ?_ | refine aG inferInstance ?_ | refine aX ?_))<;>(try with_reducible rfl))
  all_goals rfl) (by dsimp only;omega) (by
  simp only [List.cons_append,List.nil_append]
  exact bu)
end
end Go.Proofs.YtbobhnldhpjdlaaGreatDoor
namespace Go.Proofs.YtbobhnldhpjdlaaGreatDoor
open Go Go.RowKit Go.Cs Go.Cz
set_option maxRecDepth 100000
set_option maxHeartbeats 40000000
instance (priority:=2000) {z:Int} [h:Ni z 2]:Ba 1 (ay Dig.zero) [(0, .int .u8 z)] (ay (ii 2)) True:=⟨fun _=>by cases h.ni;rfl⟩
section
variable {ad:Addr}
theorem Ir {xb:UInt8} {oa:Option Addr} {m c:Nat} {zs:List (UInt8×UInt8×UInt8)}:Zp Tryz.prog 32 [vA (iC ⟨xb.toNat,(oa,m,c)⟩)] [] [Sl yF oa m c zs,Gs (qE ad)] (PS×ML×Nat×Nat×Nat) (fun x=>Pl (1+xb.toNat%20) x.1 x.2.2.1∧x.2.2.1≤30∧DM x.1 x.2.1 x.2.2.1) (fun x=> .tuple #[vA (aB (c8 x.1 x.2.1)),vA (cf ⟨(some ⟨x.2.2.2.1,0,none⟩,1+xb.toNat%20,1+xb.toNat%20),(some ⟨x.2.2.2.2,0,none⟩,1+xb.toNat%20,1+xb.toNat%20)⟩), .bool true]) (fun _=> []) (fun x=>SFl x.1 x.2.1++ [Sl ay (some ⟨x.2.2.2.1,0,none⟩) (1+xb.toNat%20) (1+xb.toNat%20) x.1.now,Sl ay (some ⟨x.2.2.2.2,0,none⟩) (1+xb.toNat%20) (1+xb.toNat%20) x.1.dur]):=by
 have hm20:=Nat.mod_lt xb.toNat (show 0<20 by decide)
 generalize hn:1+xb.toNat%20=n
 have hof:=IX (xb:=xb) (oa:=oa) (m:=m) (c:=c) (zs:=zs)
 rw [hn] at hof
 have hs1:=Nat.mod_lt n (show 0<min n 3 by omega)
 have hsm:n%min n 3<3:=by omega
 have hsn:1+n%min n 3≤n:=by omega
 have hop:=fun fr cl fw=>EJ (n:=n) (sh:=1+n%min n 3) (fr:=fr) (cl:=cl) (lm:=1000) (rs:=7) (ms:=ii 2) (fw:=fw) (q:=qE ad) (by omega) (by omega) (BC n (by omega)) hsn (CH (by omega) (by omega) (by decide) (by decide) (by decide) (by decide))
 have hnw:=Je (n:=n) (by omega) (by omega)
 have hP0:Pl n (opn n (1+n%min n 3) 1000 7 (ii 2)) 0:=Pl.opn (by omega) (by omega) (by omega) (by omega) hsn
 refine ak fun G=> ?_
 (repeat' ((try refine aw ?_);(conv=>arg 4;whnf);first | refine aO ?_ |(refine sN ?_;intro b)|(refine sC ?_ ?_<;>intro h)|(refine au ?_ ?_<;>intro h<;>try contradiction)|(refine aa ?_;intro g c')|(refine cw hof ?_;intro x hx;refine bV ?_)| refine ai ?_ | exact ax |(refine aj rfl ?_;intro D lL)| refine af ?_ ?_ | refine ah ?_ ?_ ?_ | fail));(all_goals refine av ?_)
 revert x;rintro ⟨os,ys,la,lc⟩ hol
 dsimp only at hol⊢
 (repeat' ((try refine aw ?_);(conv=>arg 4;whnf);first | refine aO ?_ |(refine sN ?_;intro b)|(refine sC ?_ ?_<;>intro h)|(refine au ?_ ?_<;>intro h<;>try contradiction)|(refine aa ?_;intro g c')|((first | refine cw (hop _ _ _) ?_ | refine cw hnw ?_);intro x hx;refine bV ?_)| refine ai ?_ | exact ax |(refine aj rfl ?_;intro D lL)| refine af ?_ ?_ | refine ah ?_ ?_ ?_ | fail));(all_goals refine av ?_)
 rename_i M0 hM0 sb
 obtain ⟨an0,dn0⟩:=x
 revert b;intro ab
 dsimp only
 refine sV [2,3,5,6,7,9,11] ?_
 (conv=>arg 4;whnf)
 refine t_lqG [sb,ab] (X:=Nat×PS×ML×Nat×Nat) (fun x=> [(11,vI x.1)]) (fun x=>x.1≤os.length∧Pl n x.2.1 x.1∧DM x.2.1 x.2.2.1 x.1) (fun x=> [iB sb (aB (c8 x.2.1 x.2.2.1)) 48,iB ab (cf ⟨(some ⟨x.2.2.2.1,0,none⟩,n,n),(some ⟨x.2.2.2.2,0,none⟩,n,n)⟩) 111]) (fun x=>SFl x.2.1 x.2.2.1++ [Sl ay (some ⟨x.2.2.2.1,0,none⟩) n n x.2.1.now,Sl ay (some ⟨x.2.2.2.2,0,none⟩) n n x.2.1.dur]) (fun x=>os.length-x.1) (0,opn n (1+n%min n 3) 1000 7 (ii 2),M0,an0,dn0) [Opm n os ys,Sl aN la os.length lc os,Gs (qE ad)] ⟨Nat.zero_le _,hP0,hM0⟩ rfl cD (by
  have e1:(opn n (1+n%min n 3) 1000 7 (ii 2)).now=zD n:=rfl
  have e2:(opn n (1+n%min n 3) 1000 7 (ii 2)).dur=zD n:=rfl
  dsimp only
  rw [e1,e2]
  simp only [List.cons_append,List.nil_append]
  exact bu) ?_
 rintro ⟨i,p,M,an,dn⟩ ⟨hi,hPl,hM⟩
 (conv=>arg 2;simp only [List.cons_append,List.nil_append])
 (conv=>arg 3;simp only [List.cons_append,List.nil_append])
 dsimp only at hi hPl hM⊢
 have hT:i≤30:=by omega
 have g0:0<n:=by omega
 have g20:n≤20:=by omega
 by_cases hlt:i<os.length
 ·refine aS 8 ?_
  intro hln hlc hlm hla
  obtain ⟨o1,o2,rfl⟩:=hla (by omega) (by decide)
  refine f5 (p:=VOp n (os.getD i default) (ys.getD i [])) (fun w _ hf=>(Opm.get (hf (Opm n os ys) (by repeat (first | with_reducible exact List.mem_cons_self | with_reducible apply List.mem_cons_of_mem))) hlt).1) ?_
  intro hv
  refine aR (Sl cB (os.getD i default).Data.1 (os.getD i default).Data.2.1 (os.getD i default).Data.2.2 (ys.getD i [])) (fun w _ hf=>(Opm.get (hf (Opm n os ys) (by repeat (first | with_reducible exact List.mem_cons_self | with_reducible apply List.mem_cons_of_mem))) hlt).2) ?_
  generalize hO:os.getD i default=O at hv⊢
  generalize hY:ys.getD i []=y at hv⊢
  obtain ⟨kd,ix,d1,k2,k3⟩:=O
  dsimp only
  (conv=>arg 4;whnf)
  rcases hv with ⟨e1,j,hj,e2⟩|⟨e1,⟨j,hj,e2⟩,e3,e4⟩| e1 | hb
  ·dsimp only at e1 e2
   subst e1 e2
   exact t_ec (by kernel_rfl) (z_pldR1 g0 g20 hPl hM hlt hT hj hO _)
  ·dsimp only at e1 e2 e3
   subst e1 e2 e3
   obtain ⟨Y,rfl⟩:∃Y:Dig,Y.l=y:=⟨Dig.of y,Dig.of_l e4⟩
   refine aS 0 ?_
   intro _ _ _ hda
   obtain ⟨d2,d3,rfl⟩:=hda (by decide) (by decide)
   exact t_ec (by kernel_rfl) (z_pldR2 g0 g20 hPl hM hlt hT hj hO _)
  ·dsimp only at e1
   subst e1
   exact t_ec (by kernel_rfl) (z_pldR3 g0 g20 hPl hM hlt hT hO _)
  ·have hb':=hb
   rcases hb with ⟨e1,e2⟩|⟨e1,e2,e3⟩|⟨e1,e3,j,hj,e2⟩|⟨e1,e3,j,hj,e2⟩| e1 | e1
   ·dsimp only at e1 e2;subst e1 e2
    exact t_ec (by kernel_rfl) (z_pldR4 g0 g20 hPl hM hlt hT hb' hO _)
   ·dsimp only at e1 e2 e3;subst e1 e2 e3
    exact t_ec (by kernel_rfl) (z_pldR5 g0 g20 hPl hM hlt hT hb' hO _)
   ·dsimp only at e1 e2 e3;subst e1 e2 e3
    exact t_ec (by kernel_rfl) (z_pldR6 g0 g20 hPl hM hlt hT hj hb' hO _)
   ·dsimp only at e1 e2 e3;subst e1 e2 e3
    exact t_ec (by kernel_rfl) (z_pldR7 g0 g20 hPl hM hlt hT hj hb' hO _)
   ·dsimp only at e1;subst e1
    exact t_ec (by kernel_rfl) (z_pldR8 g0 g20 hPl hM hlt hT hb' hO _)
   ·dsimp only at e1;subst e1
    exact t_ec (by kernel_rfl) (z_pldR9 g0 g20 hPl hM hlt hT hb' hO _)
 ·have hi':=hT
  obtain rfl:i=os.length:=by omega
  (repeat' ((try refine aw ?_);(conv=>arg 4;whnf);first | refine aO ?_ |(refine sN ?_;intro b)|(refine sC ?_ ?_<;>intro h)|(refine au ?_ ?_<;>intro h<;>try contradiction)|(refine aa ?_;intro g c')| refine ai ?_ | exact ax |(refine aj rfl ?_;intro D lL)| refine af ?_ ?_ | refine ah ?_ ?_ ?_ | fail));(all_goals refine av ?_)
  (first | refine bF rfl rfl ?_ |(refine bh ?_;(conv=>arg 4;whnf);refine bc rfl ?_))
  (repeat' ((try refine aw ?_);(conv=>arg 4;whnf);first | refine aO ?_ |(refine sN ?_;intro b)|(refine sC ?_ ?_<;>intro h)|(refine au ?_ ?_<;>intro h<;>try contradiction)|(refine aa ?_;intro g c')| refine ai ?_ | exact ax |(refine aj rfl ?_;intro D lL)| refine af ?_ ?_ | refine ah ?_ ?_ ?_ | fail));(all_goals refine av ?_)
  all_goals refine aD (p,M,os.length,an,dn) ⟨hPl,hi',hM⟩ rfl (am _) (by
   simp only [List.cons_append,List.nil_append]
   exact bu)
end
end Go.Proofs.YtbobhnldhpjdlaaGreatDoor
namespace Go.Proofs.YtbobhnldhpjdlaaGreatDoor
open Go Go.RowKit Go.Cs Go.Cz
set_option maxRecDepth 100000
set_option maxHeartbeats 4000000
theorem Jg {p:PS} {M:ML}:Zp Tryz.prog 33 [vA (aB (c8 p M))] [] [] Unit (fun _=>True) (fun _=>vI p.n) (fun _=> []) (fun _=> []):=by
 unfold c8
 refine ak fun G=> ?_
 (repeat' ((try refine aw ?_);(conv=>arg 4;whnf);first | refine az ?_ |(refine sN ?_;intro b)|(refine sC ?_ ?_<;>intro h)|(refine au ?_ ?_<;>intro h<;>try contradiction)|(refine aa ?_;intro g c')| refine ae ?_ | refine ai ?_ | exact ax |(refine aj rfl ?_;intro D lL)| refine af ?_ ?_ | refine ah ?_ ?_ ?_ | fail));(all_goals refine av ?_)
end Go.Proofs.YtbobhnldhpjdlaaGreatDoor
namespace Go.Proofs.YtbobhnldhpjdlaaGreatDoor
open Go Go.RowKit Go.Cs Go.Cz
theorem and_t {a b:Bool} (h:a=true) (g:b=true):(a&&b)=true:=by rw [h,g];rfl
def HD (ad:Addr) (W:World):Prop:=Gl 1 (fW ye) W∧Gl 4 (fX kA) W∧Gl 2 [vI 45,vI 33] W∧Gl 0 [Ki ad] W∧Gl 3 [I5] W
theorem HD.ext {ad:Addr} {W W':World} (h:HD ad W) (hc:Ext W W'):Gs (qE ad) W':=⟨(h.1.ext hc).all,(h.2.1.ext hc).all,(h.2.2.1.ext hc).all,(h.2.2.2.1.ext hc).all,(h.2.2.2.2.ext hc).all⟩
theorem Hw {f:FuncId} {args:List Value} {Fi:List Pt} {r:Value} {W:World} (h:Zp Tryz.prog f args [] Fi Unit (fun _=>True) (fun _=>r) (fun _=> []) (fun _=> [])) (hF:∀g∈Fi,∀W',Ext W W'→g W'):Calls Tryz.prog f args.toArray W (Ret fun v W'=>v=r∧Ext W W'):=by
 have hp:Hp ⟨W,fps [], []⟩ [] Fi W:=⟨Chg.refl _ _,fun o ho=>(by cases ho),by simp,fun k hk=>(by simp at hk),fun k hk=>(by simp at hk),fun g hg w' hc=>hF g hg w' (hc.mono fun k _ hk=>(by simp at hk))⟩
 exact (h.go W [] hp).mono fun e w' ⟨v,h1,x,h2,h3,h4⟩=>⟨v,h1,h3,h4.ch.mono fun k _ hk=>by simp at hk⟩
theorem J4 {n:Nat} (h:n<256):∃u:UInt8,((n:Nat):Int)=(u.toNat:Int):=⟨UInt8.ofNat n,by rw [UInt8.toNat_ofNat',Nat.mod_eq_of_lt h]⟩
end Go.Proofs.YtbobhnldhpjdlaaGreatDoor
namespace Go.Proofs.YtbobhnldhpjdlaaGreatDoor
open Go Go.RowKit Go.Cs Go.Cz Go.ChangeShapes Go.WideShapes Go.ChangeAt
@[simp] theorem Di (x:UInt8×UInt8×UInt8):(yF x).length=3:=rfl
theorem HC {H:Type} {enc:TypeId×Value→H} {P:Program} {W:World} {base:Nat} {sp:Nat→Bool} {held:Bool} {t e:TypeId} {cs:List Value} (h:Rd enc P W base sp held t cs) (hu:P.underlying t=some (.array 3 e)) (he:P.underlying e=some (.int .u8)) (ce:P.cellsOf e=1) (c:P.cellsOf t=3):∃x:UInt8×UInt8×UInt8,cs=yF x:=by
 obtain ⟨hl,hi⟩:=mh h hu
 obtain ⟨a,ha,ha2⟩:=m4 (hi 0 (by omega)) he w8
 obtain ⟨b,hb,hb2⟩:=m4 (hi 1 (by omega)) he w8
 obtain ⟨d,hd,hd2⟩:=m4 (hi 2 (by omega)) he w8
 simp only [ce,Nat.mul_one] at ha hb hd
 have ea:((UInt8.ofNat a).toNat:Nat)=a:=by rw [UInt8.toNat_ofNat',Nat.mod_eq_of_lt (show a<2^8 from ha2)]
 have eb:((UInt8.ofNat b).toNat:Nat)=b:=by rw [UInt8.toNat_ofNat',Nat.mod_eq_of_lt (show b<2^8 from hb2)]
 have ed:((UInt8.ofNat d).toNat:Nat)=d:=by rw [UInt8.toNat_ofNat',Nat.mod_eq_of_lt (show d<2^8 from hd2)]
 refine ⟨(UInt8.ofNat a,UInt8.ofNat b,UInt8.ofNat d), ?_⟩
 have e1:=im cs 0 1
 have e2:=im cs 1 1
 have e3:=im cs 2 1
 rw [ha] at e1;rw [hb] at e2;rw [hd,List.drop_eq_nil_of_le (by omega)] at e3
 rw [List.drop_zero] at e1
 rw [←e1,←e2,←e3];simp [yF,ea,eb,ed]
theorem GT {f:FuncId} {k:Nat} {a:Option Addr} {m c:Nat} {zs:List (UInt8×UInt8×UInt8)} {W:World} (h:∀(ad:Addr) (xb:UInt8),Zp Tryz.prog f [vA (iC ⟨xb.toNat,(a,m,c)⟩)] [] [Sl yF a m c zs,Gs (qE ad)] Unit (fun _=>True) (fun _=> .bool true) (fun _=> []) (fun _=> [])) (hm:Ms yF 3 0 W.heap.size W a m c zs) (h1:k<256) (hg:∃ad,HD ad W):
  Calls Tryz.prog f #[.agg ([.int .u8 ((k:Nat):Int), .slice a m c]:List Value).toArray] W (Ret fun v W'=>v= .bool true∧Ext W W'):=by
 obtain ⟨ad,hg⟩:=hg
 obtain ⟨u,e⟩:=J4 h1;rw [e]
 exact Hw (h ad u) fun g h2 W' hc=>by
  rcases List.mem_cons.1 h2 with rfl | h2
  ·exact ⟨hm.len_eq,(hm.sla.ext hc).now⟩
  ·simp only [List.mem_singleton] at h2
   subst h2;exact hg.ext hc
end Go.Proofs.YtbobhnldhpjdlaaGreatDoor
