/- Lemmas and walks: what each function does, by its own code. No condition beyond those of each statement. -/
import Derived.Test.YtbobhnldhpjdlaaGreatDoorP8
import Derived.Test.YtbobhnldhpjdlaaGreatDoorP9
import Derived.Test.YtbobhnldhpjdlaaGreatDoorP11
import Derived.Test.YtbobhnldhpjdlaaGreatDoorP15
import Derived.Test.YtbobhnldhpjdlaaGreatDoorP21
import Derived.Test.YtbobhnldhpjdlaaGreatDoorP23
set_option linter.all false
set_option linter.unusedVariables false
namespace Go.Proofs.YtbobhnldhpjdlaaGreatDoor
open Go Go.RowKit Go.Cs Go.Cz
set_option maxRecDepth 100000
set_option maxHeartbeats 4000000
structure DV (n:Nat) (k:Key) (d:SDsk) (I:DI) (L:List Rec) (s:List Nat) (dur:List Dig) (cell:Cel):Prop where
 ok:I.Ok
 sd:d.size=bas n (hgt n+1)
 si:I.size=bas n (hgt n+1)
 int:Intact n k I.con L s dur cell
section
variable {n:Nat} {k:Key} {d:SDsk} {I:DI} {L:List Rec} {s:List Nat} {dur:List Dig} {cell:Cel}
theorem DV.pv (h:DV n k d I L s dur cell) {l j:Nat} (hl:l≤hgt n) (hj:j<cnt n l) (hm:l=hgt n∨bK L l j=false):I.pv (bas n l+2*j+s.getD (num n l+j) 0)=some (aM (aK L s l j)):=by
 rw [←DI.con_top];exact h.int.nds l j hl hj hm
theorem DV.nd (h:DV n k d I L s dur cell) {l j:Nat} (hl:l≤hgt n) (hj:j<cnt n l):bA (aK L s l j)=0∧(aK L s l j).lv=l∧(aK L s l j).ix=j∧fj n (aK L s l j)=0:=by
 have h4:=h.int.bl.2
 have hll:=h.int.ll
 subst hll
 exact ⟨mg h.int.ok hl hj,dD h4 hl hj,dQ h4 hl hj,ig h.int.ok hl hj⟩
theorem DV.rootD (h:DV n k d I L s dur cell):bI (aM (aK L s (hgt n) 0))=cell.root:=by rw [h.int.root,cq,h.int.ll]
theorem DV.top (h:DV n k d I L s dur cell):I.pv (bas n (hgt n)+2*0+cell.ep%2)=some (aM (aK L s (hgt n) 0)):=by
 have:=h.pv (Nat.le_refl _) (dk h.int.bl.1 (hgt n)) (.inl rfl)
 rwa [h.int.slot]
theorem DV.ent (h:DV n k d I L s dur cell) {l j w:Nat} (hl:l+1≤hgt n) (hj:j<cnt n (l+1)) (hw:w<4) (hc:4*j+w<cnt n l):(aK L s (l+1) j).es.get w=cX L s l (4*j+w):=by
 have hll:=h.int.ll
 subst hll
 have hp:w<prt L.length (l+1) j:=(bM hw).2 hc
 exact lB (Nat.succ_ne_zero l) hp
theorem DV.ent0 (h:DV n k d I L s dur cell) (l c:Nat):(cX L s l c).st=0↔bK L l c=true:=eh h.int.ok.sl l c
theorem DV.ent1 (h:DV n k d I L s dur cell) {l c:Nat} (he:bK L l c=false):(cX L s l c).st=s.getD (num n l+c) 0+1∧(cX L s l c).dg=bI (aM (aK L s l c))∧s.getD (num n l+c) 0≤1:=by
 have hll:=h.int.ll
 subst hll
 have hs:=h.int.ok.sl (num L.length l+c)
 have e:cX L s l c=⟨(s.getD (num L.length l+c) 0+1)%2^8,bI (aM (aK L s l c)),Nat.mod_lt _ (by decide)⟩:=if_neg (by rw [he];decide)
 rw [e]
 exact ⟨by show (s.getD (num L.length l+c) 0+1)%2^8=_;omega,rfl,hs⟩
theorem HQ {l j w:Nat} {q:Value×Value} (h:DV n k d I L s dur cell) (hl:l+1≤hgt n) (hj:j<cnt n (l+1)) (hw:w<4) (hc:4*j+w<cnt n l) (he:bK L l (4*j+w)=false):
  Zp Tryz.prog 147 [vA (cO ⟨n,d⟩),vA (aU (aK L s (l+1) j)),vI w] [] [Dm d I,Gs q] Unit (fun _=>True) (fun _=> .tuple #[vA (aU (aK L s l (4*j+w))),vA (bW SPrb.zero),vI 0]) (fun _=> []) (fun _=> []):=by
 obtain ⟨e1,e2,e3⟩:=h.ent1 he
 have hE:=h.ent hl hj hw hc
 obtain ⟨f1,f2,f3,f4⟩:=h.nd (l:=l+1) hl hj
 obtain ⟨g1,g2,g3,g4⟩:=h.nd (l:=l) (j:=4*j+w) (by omega) hc
 have hp:=h.pv (l:=l) (j:=4*j+w) (by omega) hc (.inr he)
 refine EI (q:=q) h.int.bl.1 h.int.bl.2 h.ok h.si hw (by omega) (by omega) ?_ (by rw [hE,e1];omega) (by rw [hE,e1];omega) ?_ g1 (by omega) (by rw [f3,g3]) g4 (by rw [hE,e2])
 ·rw [f2,f3];exact hc
 ·rw [f2,f3,hE,e1];exact hp
theorem HU {l j w:Nat} {q:Value×Value} (h:DV n k d I L s dur cell) (hl:l+1≤hgt n) (hj:j<cnt n (l+1)) (hw:w<4) (hc:4*j+w<cnt n l) (he:bK L l (4*j+w)=false):
  Zp Tryz.prog 141 [vI n,vA (aJ d),vA (aU (aK L s (l+1) j)),vI w] [] [Dm d I,Gs q] Unit (fun _=>True) (fun _=> .tuple #[vA (aU (aK L s l (4*j+w))),vA (bW SPrb.zero),vI 0]) (fun _=> []) (fun _=> []):=by
 obtain ⟨e1,e2,e3⟩:=h.ent1 he
 have hE:=h.ent hl hj hw hc
 obtain ⟨f1,f2,f3,f4⟩:=h.nd (l:=l+1) hl hj
 obtain ⟨g1,g2,g3,g4⟩:=h.nd (l:=l) (j:=4*j+w) (by omega) hc
 have hp:=h.pv (l:=l) (j:=4*j+w) (by omega) hc (.inr he)
 refine JZ (q:=q) h.int.bl.1 h.int.bl.2 h.ok h.sd h.si hw f4 (by omega) (by omega) ?_ (by rw [hE,e1];omega) (by rw [hE,e1];omega) ?_ g1 (by omega) (by rw [f3,g3]) g4 (by rw [hE,e2])
 ·rw [f2,f3];exact hc
 ·rw [f2,f3,hE,e1];exact hp
end
end Go.Proofs.YtbobhnldhpjdlaaGreatDoor
namespace Go.Proofs.YtbobhnldhpjdlaaGreatDoor
open Go Go.RowKit Go.Cs Go.Cz
set_option maxRecDepth 100000
set_option maxHeartbeats 4000000
section
variable {n:Nat} {k:Key} {d:SDsk} {I:DI} {L:List Rec} {s:List Nat} {dur:List Dig} {cell:Cel}
theorem og {L:List Rec} {s:List Nat} {b i:Nat} (h:bK L i (idx b i)=true):cU L s b (i+1)= []:=by rw [cU,if_pos h]
theorem xu {L:List Rec} {s:List Nat} {b i:Nat} (h:bK L i (idx b i)=false):cU L s b (i+1)=aK L s i (idx b i)::cU L s b i:=by rw [cU,if_neg (by rw [h];decide)]
theorem D9 {bi:Nat} {q:Value×Value} (h:DV n k d I L s dur cell) (hb:bi<n):Zp Tryz.prog 45 [vI n,vA (aJ d),vA (aL cell),vI bi] [] [Dm d I,Gs q] (Nat×Nat) (fun _=>True)
  (fun x=> .tuple #[.slice (some ⟨x.1,0,none⟩) x.2 x.2,vA (bW SPrb.zero),vI 0]) (fun _=> []) (fun x=> [Sl aU (some ⟨x.1,0,none⟩) x.2 x.2 (aK L s (hgt n) 0::cU L s bi (hgt n))]):=by
 have h1:=h.int.bl.1
 have h2:=h.int.bl.2
 have h5:=a8 n
 obtain ⟨f1,f2,f3,f4⟩:=h.nd (Nat.le_refl _) (dk h1 (hgt n))
 have hr:=D4 (q:=q) (d:=d) h1 h2 h.ok h.si h.top f1 f2 f3 f4 h.rootD
 refine ak fun G=> ?_
 (repeat' ((try refine aw ?_);(conv=>arg 4;whnf);first | refine az ?_ |(refine sN ?_;intro b)|(refine aa ?_;intro g c')|(refine aA (oB h1 h2 h.sd) ?_;intro x hx;refine aH ?_)|(refine cw (sy h1 h2 hb) ?_;intro x hx;refine bV ?_)|(refine aA hr ?_;intro x hx;refine aH ?_)| refine ae ?_ | fail));(all_goals refine av ?_)
 rename_i d1 d2 d3 u1 u2 vb pp u3 xb qb
 revert b;intro ob
 rcases Nat.eq_zero_or_pos (hgt n) with h0 | h0
 ·(repeat' ((try refine aw ?_);(conv=>arg 4;whnf);first | refine az ?_ |(refine sN ?_;intro b)|(refine aa ?_;intro g c')| refine ae ?_ | fail));(all_goals refine av ?_)
  refine gJ 1 (bN ?_)
  (repeat' ((try refine aw ?_);(conv=>arg 4;whnf);first | refine az ?_ |(refine sN ?_;intro b)|(refine aa ?_;intro g c')| refine ae ?_ | fail));(all_goals refine av ?_)
  rw [show cU L s bi (hgt n)= [] by rw [h0];rfl]
  refine eK ob 1 1 ?_
  exact aD (ob,1) True.intro rfl (am _) bu
 ·refine DZ 0 1 ?_
  (repeat' ((try refine aw ?_);(conv=>arg 4;whnf);first | refine az ?_ |(refine sN ?_;intro b)|(refine aa ?_;intro g c')| refine ae ?_ | fail));(all_goals refine av ?_)
  have hpl:=jr n bi
  have hdl:((ec n bi).drop 1).length=hgt n:=by rw [List.length_drop,hpl];omega
  have hpg:∀i,i<hgt n→((ec n bi).drop 1).getD i default=⟨hgt n-(i+1),idx bi (hgt n-(i+1))⟩:=fun i hi=>by
   have:=lR (n:=n) (i:=bi) (k:=i+1) (by omega)
   rw [List.getD_eq_getElem?_getD] at this⊢
   rw [List.getElem?_drop,Nat.add_comm 1 i];exact this
  have hi0:idx bi (hgt n)=0:=eV h.int hb
  refine dh [xb,ob] (X:=Nat×List Nod×Nat×Nat) (fun x=> [(8, .slice none 0 0),(10,vI 0),(12,vI 0),(16, .slice (some ⟨x.2.2.1,0,none⟩) (x.1+1) x.2.2.2),(56,vI x.1)])
   (fun x=>x.1≤hgt n∧x.2.1.length=x.1+1∧x.2.1++cU L s bi (hgt n-x.1)=aK L s (hgt n) 0::cU L s bi (hgt n))
   (fun x=> [iB xb (aU (aK L s (hgt n-x.1) (idx bi (hgt n-x.1)))) 217,iN aU 274 (some ⟨x.2.2.1,0,none⟩) (x.1+1) x.2.2.2 217 x.2.1]) (fun x=>hgt n-x.1) (0, [aK L s (hgt n) 0],ob,1) ⟨Nat.zero_le _,rfl,rfl⟩ rfl (by
    rw [Nat.sub_zero,hi0]
    refine aE ?_ rfl
    refine JL rfl rfl (by omega) ?_
    ((repeat' (first | with_reducible exact ar _ | exact am _ | refine aE ?_ ?_ | refine aX ?_))<;>(try with_reducible rfl))) ?_
  rintro ⟨i,out,g0,c0⟩ ⟨hi,hol,hpre⟩
  (conv=>arg 2;simp only [List.cons_append,List.nil_append])
  dsimp only at hi hol hpre⊢
  by_cases hlt:i<hgt n
  ·have hq:=hpg i hlt
   obtain ⟨l,hl⟩:∃l,hgt n-i=l+1:=⟨hgt n-i-1,by omega⟩
   rw [hl] at hpre
   rw [show hgt n-(i+1)=l by omega] at hq
   rw [hl]
   have hj1:=bm hb (l+1)
   have hj:=bm hb l
   have hix:4*idx bi (l+1)+idx bi l%4=idx bi l:=hJ bi l
   have hE:=h.ent (l:=l) (j:=idx bi (l+1)) (w:=idx bi l%4) (by omega) hj1 (Nat.mod_lt _ (by decide)) (by rw [hix];exact hj)
   rw [hix] at hE
   have hcn:=cH n l
   have hqI:(((ec n bi).drop 1).getD i default).Index=idx bi l:=by rw [hq]
   have hix':4*idx bi (l+1)+(((ec n bi).drop 1).getD i default).Index%4=idx bi l:=by rw [hqI];exact hix
   rw [←hqI] at hE
   by_cases he:bK L l (idx bi l)=true
   ·have hst:((aK L s (l+1) (idx bi (l+1))).es.l.getD ((((ec n bi).drop 1).getD i default).Index%4) default).st=0:=by
     show ((aK L s (l+1) (idx bi (l+1))).es.get ((((ec n bi).drop 1).getD i default).Index%4)).st=0
     rw [hE,hqI];exact (h.ent0 l _).2 he
    rw [og he,List.append_nil] at hpre
    refine eE (m:=274) (e:=217) aU (some ⟨g0,0,none⟩) (i+1) c0 ?_
    refine aS 0 ?_
    intro _ hc0 hm0 _
    (repeat' ((try refine aw ?_);(conv=>arg 4;whnf);first | refine az ?_ |(refine sN ?_;intro b)|(refine aa ?_;intro g c')| refine ae ?_ | fail));(all_goals refine av ?_)
    refine je 0 ?_
    rw [hpre]
    exact aD (g0,i+1) True.intro rfl (am _) bu
   ·have he':bK L l (idx bi l)=false:=by simpa using he
    have hst:¬((aK L s (l+1) (idx bi (l+1))).es.l.getD ((((ec n bi).drop 1).getD i default).Index%4) default).st=0:=by
     show ¬((aK L s (l+1) (idx bi (l+1))).es.get ((((ec n bi).drop 1).getD i default).Index%4)).st=0
     rw [hE,hqI];exact fun g=>he ((h.ent0 l _).1 g)
    rw [xu he'] at hpre
    have hch:=HQ (q:=q) (w:=(((ec n bi).drop 1).getD i default).Index%4) h (by omega) hj1 (Nat.mod_lt _ (by decide)) (by rw [hix'];exact hj) (by rw [hix'];exact he')
    rw [hix'] at hch
    (repeat' ((try refine aw ?_);(conv=>arg 4;whnf);first | refine az ?_ |(refine sN ?_;intro b)|(refine aa ?_;intro g c')|(refine aA hch ?_;intro x hx;refine aH ?_)| refine ae ?_ | fail));(all_goals refine av ?_)
    refine a5 (i+1,out++ [aK L s l (idx bi l)],g,c') rfl ⟨by dsimp only;omega,by simp [hol], ?_⟩ ?_ (by dsimp only;omega)
    ·dsimp only
     rw [show hgt n-(i+1)=l by omega,List.append_assoc];exact hpre
    ·dsimp only
     rw [show hgt n-(i+1)=l by omega]
     ((repeat' (first | with_reducible exact ar _ | exact am _ | refine aE ?_ ?_ | refine aX ?_))<;>(try with_reducible rfl))
  ·obtain rfl:i=hgt n:=by omega
   rw [Nat.sub_self,show cU L s bi 0= [] from rfl,List.append_nil] at hpre
   refine eE (m:=274) (e:=217) aU (some ⟨g0,0,none⟩) (hgt n+1) c0 ?_
   refine aS 0 ?_
   intro _ hc0 hm0 _
   (repeat' ((try refine aw ?_);(conv=>arg 4;whnf);first | refine az ?_ |(refine sN ?_;intro b)|(refine aa ?_;intro g c')| refine ae ?_ | fail));(all_goals refine av ?_)
   refine je 0 ?_
   rw [hpre]
   exact aD (g0,hgt n+1) True.intro rfl (am _) bu
end
end Go.Proofs.YtbobhnldhpjdlaaGreatDoor
namespace Go.Proofs.YtbobhnldhpjdlaaGreatDoor
open Go Go.RowKit Go.Cs Go.Cz
set_option maxRecDepth 100000
set_option maxHeartbeats 4000000
section
variable {n:Nat} {k:Key} {d:SDsk} {I:DI} {L:List Rec} {s:List Nat} {dur:List Dig} {cell:Cel}
theorem HE {bi:Nat} {q:Value×Value} (h:DV n k d I L s dur cell) (hb:bi<n):Zp Tryz.prog 267 [vI n,vA (aJ d),vA (aL cell),vI bi] [] [Dm d I,Gs q] Unit (fun _=>True)
  (fun x=> .tuple #[vA (bY (L.getD bi Rec.zero)),vA (bW SPrb.zero),vI 0]) (fun _=> []) (fun x=> []):=by
 have hpl:=iE h.int.ok h.int.ll hb (aK L s (hgt n) 0) (Nat.le_refl _) (by rw [eV h.int hb])
 have h2:=h.int.bl.2
 refine ak fun G=> ?_
 (repeat' ((try refine aw ?_);(conv=>arg 4;whnf);first | refine az ?_ |(refine sN ?_;intro b)|(refine cw (D9 (q:=q) h hb) ?_;intro x hx;refine bV ?_)| exact ax | fail));(all_goals refine av ?_)
 refine aS 0 ?_
 intro hn hc hm ha
 rw [←hpl,ky]
 rw [hn]
 generalize hl:aK L s (hgt n) 0::cU L s bi (hgt n)=l
 have hlen:0<l.length:=by rw [←hl];simp
 rw [hl] at hn hpl
 by_cases hlv:(l.getD (l.length-1) Nod.zero).lv=0
 ·rw [if_pos hlv]
  have hlv':(l.getD (l.length-1) default).lv=0:=hlv
  (repeat' ((try refine aw ?_);(conv=>arg 4;whnf);first | refine az ?_ |(refine sN ?_;intro b)| exact ax | fail));(all_goals refine av ?_)
 ·rw [if_neg hlv]
  have hlv':¬(l.getD (l.length-1) default).lv=0:=hlv
  (repeat' ((try refine aw ?_);(conv=>arg 4;whnf);first | refine az ?_ |(refine sN ?_;intro b)| exact ax | fail));(all_goals refine av ?_)
end
theorem JT {P:Program} {f:FuncId} {args:List Value} {Oi:List It} {Fi Fi':List Pt} {X:Type} {p:X→Prop} {r:X→Value} {Oo:X→List It} {Fo:X→List Pt} (h:Zp P f args Oi Fi X p r Oo Fo) (hf:∀g∈Fi,g∈Fi'):Zp P f args Oi Fi' X p r Oo Fo:=
 ⟨h.en,fun w B hp=>h.go w B (hp.wk (fun w h1 h2=>⟨h1,h2,fun _ h=>h⟩) hf)⟩
section
variable {n bi:Nat} {d:SDsk} {I:DI} {k:Key} {r:Rec} {y:Dig} {q:Value×Value}
theorem If (h1:1≤n) (h2:n≤4096) (hb:bi<n) (hd:d.size=bas n (hgt n+1)) (hr:bS r=0) (h0:r.st=0):Zp Tryz.prog 48 [vI n,vA (aJ d),vA (bC k),vI bi,vA (bY r)] [] [] Unit (fun _=>True)
  (fun x=> .tuple #[vA (ay Dig.zero),vA (bW SPrb.zero),vI 0]) (fun _=> []) (fun x=> []):=by
 have hck:=nB (x:=r)
 rw [hr] at hck
 have hdt:=j9 h1 h2 hb (t:=0) (by omega)
 refine ak fun G=> ?_
 (repeat' ((try refine aw ?_);(conv=>arg 4;whnf);first | refine az ?_ |(refine sN ?_;intro b)|((first | refine aA (oB h1 h2 hd) ?_ | refine aA hdt ?_ | refine aA hck ?_);intro x hx;refine aH ?_)| exact ax | fail));(all_goals refine av ?_)
theorem Ee (h1:1≤n) (h2:n≤4096) (hb:bi<n) (hI:I.Ok) (hd:d.size=bas n (hgt n+1)) (hsz:I.size=bas n (hgt n+1)) (hr:bS r=0) (h0:r.st≠0) (hpv:I.pv (2*bi+(r.st-1))=some y.l) (ht:il k bi r.non y=r.tag):Zp Tryz.prog 48 [vI n,vA (aJ d),vA (bC k),vI bi,vA (bY r)] [] [Dm d I,Gs q] Unit (fun _=>True)
  (fun x=> .tuple #[vA (ay (cJ k r.non y)),vA (bW SPrb.zero),vI 0]) (fun _=> []) (fun x=> []):=by
 have hck:=nB (x:=r)
 rw [hr] at hck
 have hdt:=j9 h1 h2 hb (t:=0) (by omega)
 have hr2:=ei hr
 have hdt2:=j9 h1 h2 hb (t:=r.st-1) (by omega)
 have hsl:=kt hr2 h0
 have hs:2*bi+(r.st-1)<I.size:=by rw [hsz];have:=pY n (hgt n+1);omega
 have hyl:=y.h
 have hyb:y.l.length≤65536:=by omega
 have hi:bi<4096:=by omega
 refine ak fun G=> ?_
 (repeat' ((try refine aw ?_);(conv=>arg 4;whnf);first | refine az ?_ |(refine sN ?_;intro b)|((first | refine aA (oB h1 h2 hd) ?_ | refine aA hdt ?_ | refine aA hck ?_ | refine aA hsl ?_ | refine aA hdt2 ?_);intro x hx;refine aH ?_)|(refine cw (oW hI hs hpv hyb) ?_;intro x hx;refine bV ?_)| refine ae ?_ | exact ax | fail));(all_goals refine av ?_)
 rename_i d0 kb ib rb o1 o2 u1 v1 vb eb u2 v2 u3 v3 u4 v4 u5 v5 cb db pb
 obtain ⟨xa,xn,xc⟩:=x
 refine aS 0 ?_
 intro hn hc hm ha
 dsimp only at hn hc hm ha
 obtain ⟨sb,o,rfl⟩:=ha (by omega) (by decide)
 subst hn
 refine fL b ([⟨some (.func 155, #[], #[vP eb 0]),1⟩,⟨some (.func 156, #[], #[vP cb 0,vP db 0]),5⟩,⟨some (.func 157, #[], #[vP kb 0,vP ib 0,vP rb 0,vP db 0,vP pb 0,vP eb 0]),6⟩].flatMap gI) rfl ?_
 revert b;intro qb
 refine fL db (bE Dig.zero.l) rfl ?_
 refine gJ 4 (bN ?_)
 (repeat' ((try refine aw ?_);(conv=>arg 4;whnf);first | refine aO ?_ |(refine sN ?_;intro b)| refine ae ?_ | exact ax | fail));(all_goals refine av ?_)
 refine bN ?_
 (repeat' ((try refine aw ?_);(conv=>arg 4;whnf);first | refine aO ?_ |(refine sN ?_;intro b)| refine ae ?_ | exact ax | fail));(all_goals refine av ?_)
 refine dH [db] rfl ?_
 (repeat' ((try refine aw ?_);(conv=>arg 4;whnf);first | refine aO ?_ |(refine sN ?_;intro b)| refine ae ?_ | exact ax | fail));(all_goals refine av ?_)
 refine fL db (ay y) (by
  show bE (spl Dig.zero.l 0 (List.take (min y.l.length 32) y.l))=bE y.l
  have hz:Dig.zero.l.length=32:=Dig.zero.h
  rw [List.take_of_length_le (by omega),spl,List.drop_eq_nil_of_le (by omega)];simp) ?_
 refine bN ?_
 (repeat' ((try refine aw ?_);(conv=>arg 4;whnf);first | refine az ?_ |(refine sN ?_;intro b)|(refine aA (Fj (q:=q) (d:=y) hi ht) ?_;intro x hx;refine aH ?_)| refine ae ?_ | exact ax | fail));(all_goals refine av ?_)
 refine bN ?_
 (repeat' ((try refine aw ?_);(conv=>arg 4;whnf);first | refine az ?_ |(refine sN ?_;intro b)|(refine aA zB ?_;intro x hx;refine aH ?_)| refine ae ?_ | exact ax | fail));(all_goals refine av ?_)
theorem HF (h1:1≤n) (h2:n≤4096) (hb:bi<n) (hI:I.Ok) (hd:d.size=bas n (hgt n+1)) (hsz:I.size=bas n (hgt n+1)) (hr:bS r=0) (h0:r.st≠0) (hpv:I.pv (2*bi+(r.st-1))=some y.l) (ht:¬il k bi r.non y=r.tag):Zp Tryz.prog 48 [vI n,vA (aJ d),vA (bC k),vI bi,vA (bY r)] [] [Dm d I,Gs q] Unit (fun _=>True)
  (fun x=> .tuple #[vA (ay Dig.zero),vA (bW ⟨2*bi+(r.st-1),6⟩),vI 9]) (fun _=> []) (fun x=> []):=by
 have hck:=nB (x:=r)
 rw [hr] at hck
 have hdt:=j9 h1 h2 hb (t:=0) (by omega)
 have hr2:=ei hr
 have hdt2:=j9 h1 h2 hb (t:=r.st-1) (by omega)
 have hsl:=kt hr2 h0
 have hs:2*bi+(r.st-1)<I.size:=by rw [hsz];have:=pY n (hgt n+1);omega
 have hyl:=y.h
 have hyb:y.l.length≤65536:=by omega
 have hi:bi<4096:=by omega
 refine ak fun G=> ?_
 (repeat' ((try refine aw ?_);(conv=>arg 4;whnf);first | refine az ?_ |(refine sN ?_;intro b)|((first | refine aA (oB h1 h2 hd) ?_ | refine aA hdt ?_ | refine aA hck ?_ | refine aA hsl ?_ | refine aA hdt2 ?_);intro x hx;refine aH ?_)|(refine cw (oW hI hs hpv hyb) ?_;intro x hx;refine bV ?_)| refine ae ?_ | exact ax | fail));(all_goals refine av ?_)
 rename_i d0 kb ib rb o1 o2 u1 v1 vb eb u2 v2 u3 v3 u4 v4 u5 v5 cb db pb
 obtain ⟨xa,xn,xc⟩:=x
 refine aS 0 ?_
 intro hn hc hm ha
 dsimp only at hn hc hm ha
 obtain ⟨sb,o,rfl⟩:=ha (by omega) (by decide)
 subst hn
 refine fL b ([⟨some (.func 155, #[], #[vP eb 0]),1⟩,⟨some (.func 156, #[], #[vP cb 0,vP db 0]),5⟩,⟨some (.func 157, #[], #[vP kb 0,vP ib 0,vP rb 0,vP db 0,vP pb 0,vP eb 0]),6⟩].flatMap gI) rfl ?_
 revert b;intro qb
 refine fL db (bE Dig.zero.l) rfl ?_
 refine gJ 4 (bN ?_)
 (repeat' ((try refine aw ?_);(conv=>arg 4;whnf);first | refine aO ?_ |(refine sN ?_;intro b)| refine ae ?_ | exact ax | fail));(all_goals refine av ?_)
 refine bN ?_
 (repeat' ((try refine aw ?_);(conv=>arg 4;whnf);first | refine aO ?_ |(refine sN ?_;intro b)| refine ae ?_ | exact ax | fail));(all_goals refine av ?_)
 refine dH [db] rfl ?_
 (repeat' ((try refine aw ?_);(conv=>arg 4;whnf);first | refine aO ?_ |(refine sN ?_;intro b)| refine ae ?_ | exact ax | fail));(all_goals refine av ?_)
 refine fL db (ay y) (by
  show bE (spl Dig.zero.l 0 (List.take (min y.l.length 32) y.l))=bE y.l
  have hz:Dig.zero.l.length=32:=Dig.zero.h
  rw [List.take_of_length_le (by omega),spl,List.drop_eq_nil_of_le (by omega)];simp) ?_
 refine bN ?_
 (repeat' ((try refine aw ?_);(conv=>arg 4;whnf);first | refine az ?_ |(refine sN ?_;intro b)|((first | refine aA (FC (q:=q) (d:=y) hi ht) ?_ | refine aA (Gm (s:=2*bi+(r.st-1)) (f:=6) (by decide) (by decide)) ?_);intro x hx;refine aH ?_)| refine ae ?_ | exact ax | fail));(all_goals refine av ?_)
end
section
variable {n:Nat} {k:Key} {d:SDsk} {I:DI} {L:List Rec} {s:List Nat} {dur:List Dig} {cell:Cel}
theorem EB {bi:Nat} {r:Rec} {v:Dig} {q:Value×Value} (h1:1≤n) (h2:n≤4096) (hb:bi<n) (hI:I.Ok) (hd:d.size=bas n (hgt n+1)) (hsz:I.size=bas n (hgt n+1)) (hr:bS r=0) (hH:Hold k I.con bi r v):Zp Tryz.prog 48 [vI n,vA (aJ d),vA (bC k),vI bi,vA (bY r)] [] [Dm d I,Gs q] Unit (fun _=>True)
  (fun x=> .tuple #[vA (ay v),vA (bW SPrb.zero),vI 0]) (fun _=> []) (fun x=> []):=by
 rcases hH with ⟨h0,rfl⟩|⟨h0,h3,h4⟩
 ·exact JT (If h1 h2 hb hd hr h0) (fun f hf=>by cases hf)
 ·have:=Ee (q:=q) (d:=d) h1 h2 hb hI hd hsz hr h0 (by rw [←DI.con_top];exact h3) h4.symm
  rwa [n7] at this
theorem II {bi:Nat} {q:Value×Value} (h:DV n k d I L s dur cell) (hb:bi<n):Zp Tryz.prog 205 [vI n,vA (aJ d),vA (aL cell),vA (bC k),vI bi] [] [Dm d I,Gs q] Unit (fun _=>True)
  (fun x=> .tuple #[vA (ay (dur.getD bi Dig.zero)),vA (bW SPrb.zero),vI 0]) (fun _=> []) (fun x=> []):=by
 have hr:bS (L.getD bi Rec.zero)=0:=h.int.ok.rc bi (by rw [h.int.ll];exact hb)
 have hdt:=EB (q:=q) (d:=d) h.int.bl.1 h.int.bl.2 hb h.ok h.sd h.si hr (h.int.dat bi hb)
 refine ak fun G=> ?_
 (repeat' ((try refine aw ?_);(conv=>arg 4;whnf);first | refine az ?_ |(refine sN ?_;intro b)|((first | refine aA (HE (q:=q) h hb) ?_ | refine aA hdt ?_);intro x hx;refine aH ?_)| exact ax | fail));(all_goals refine av ?_)
end
end Go.Proofs.YtbobhnldhpjdlaaGreatDoor
namespace Go.Proofs.YtbobhnldhpjdlaaGreatDoor
open Go Go.RowKit Go.Cs Go.Cz
set_option maxRecDepth 100000
set_option maxHeartbeats 4000000
section
variable {n:Nat} {k:Key} {d:SDsk} {I:DI} {L:List Rec} {s:List Nat} {dur:List Dig} {cell:Cel} {q:Value×Value}
theorem JF (h1:1≤n) (h2:n≤4096) (hd:d.size=bas n (hgt n+1)):Zp Tryz.prog 112 [vI n,vA (aJ d),vA (aL cell),vA (bC k)] [] [] Unit (fun _=>True) (fun _=> .tuple #[vA (bO ⟨n,d,cell,k⟩),vI 0]) (fun _=> []) (fun _=> []):=by
 refine ak fun G=> ?_
 (repeat' ((try refine aw ?_);(conv=>arg 4;whnf);first | refine az ?_ |(refine sN ?_;intro b)|(refine aA (Am h1 h2) ?_;intro x hx;refine aH ?_)| refine ae ?_ | exact ax | fail));(all_goals refine av ?_)
theorem I9 {i:Nat} {y:Dig}:Zp Tryz.prog 127 [vI i,vA (ay y),vA (bW SPrb.zero)] [] [] Unit (fun _=>True) (fun _=> .tuple #[vA (ay y), .bool true, .bool false]) (fun _=> []) (fun _=> []):=by
 refine ak fun G=> ?_
 (repeat' ((try refine aw ?_);(conv=>arg 4;whnf);first | refine aO ?_ |(refine sN ?_;intro b)| exact ax | fail));(all_goals refine av ?_)
 refine bh ?_
 (conv=>arg 4;whnf)
 refine bc rfl ?_
 (repeat' ((try refine aw ?_);(conv=>arg 4;whnf);first | refine aO ?_ |(refine sN ?_;intro b)| exact ax | fail));(all_goals refine av ?_)
 (conv=>arg 4;arg 5;ext C;whnf)
 refine cR ?_ (yV rfl)
 (repeat' ((try refine aw ?_);(conv=>arg 4;whnf);first | refine az ?_ |(refine sN ?_;intro b)| exact ax | fail));(all_goals refine av ?_)
theorem J0 (h:DV n k d I L s dur cell):Zp Tryz.prog 126 [vA (bO ⟨n,d,cell,k⟩), .func (.func 127) #[] #[]] [] [Dm d I,Gs q] Sv (fun x=>x.2.1=n) (fun x=> .slice x.1 x.2.1 x.2.2) (fun _=> []) (fun x=> [Sl ay x.1 x.2.1 x.2.2 dur]):=by
 have h1:=h.int.bl.1
 have h2:=h.int.bl.2
 have hdl:=h.int.dl
 refine ak fun G=> ?_
 (repeat' ((try refine aw ?_);(conv=>arg 4;whnf);first | refine az ?_ |(refine sN ?_;intro b)|(refine aa ?_;intro g c')| refine ae ?_ | fail));(all_goals refine av ?_)
 refine dh [] (X:=Nat×Option Addr×Nat) (fun x=> [(5, .slice x.2.1 x.1 x.2.2),(15,vI x.1)]) (fun x=>x.1≤n) (fun x=> [iN ay 32 x.2.1 x.1 x.2.2 52 (dur.take x.1)]) (fun x=>n-x.1) (0,none,0) (Nat.zero_le _) rfl (by ((repeat' (first | with_reducible exact ar _ | exact am _ | refine aE ?_ ?_ | refine aX ?_ | refine qT rfl ?_))<;>(try with_reducible rfl))) ?_
 rintro ⟨i,a,c⟩ hi
 (conv=>arg 2;simp only [List.cons_append,List.nil_append])
 dsimp only at hi⊢
 by_cases hlt:i<n
 ·(repeat' ((try refine aw ?_);(conv=>arg 4;whnf);first | refine az ?_ |(refine sN ?_;intro b)|(refine aa ?_;intro g c')|((first | refine aA (II (q:=q) h hlt) ?_ | refine aA I9 ?_);intro x hx;refine aH ?_)| refine ae ?_ | fail));(all_goals refine av ?_)
  refine a5 (i+1,some ⟨g,0,none⟩,c') rfl hlt ?_ (by dsimp only;omega)
  dsimp only
  rw [show dur.take (i+1)=dur.take i++ [dur.getD i Dig.zero] by rw [List.take_succ_eq_append_getElem (by omega),←List.getElem_eq_getD (h:=by omega)]]
  ((repeat' (first | with_reducible exact ar _ | exact am _ | refine aE ?_ ?_ | refine aX ?_))<;>(try with_reducible rfl))
 ·obtain rfl:i=n:=by omega
  rw [List.take_of_length_le (by omega)]
  refine eE (m:=32) (e:=52) ay a i c ?_
  refine aS 0 ?_
  intro _ hc0 hm0 ha0
  obtain ⟨b1,o1,rfl⟩:=ha0 (by omega) (by decide)
  (repeat' ((try refine aw ?_);(conv=>arg 4;whnf);first | refine az ?_ |(refine sN ?_;intro b)|(refine aa ?_;intro g c')| refine ae ?_ | fail));(all_goals refine av ?_)
  refine je 0 ?_
  exact aD (some ⟨b1,o1,none⟩,i,i) rfl rfl (am _) bu
theorem Fg (h:DV n k d I L s dur cell):Zp Tryz.prog 35 [vI n,vA (aJ d),vA (aL cell),vA (bC k)] [] [Dm d I,Gs q] Sv (fun x=>x.2.1=n) (fun x=> .tuple #[.slice x.1 x.2.1 x.2.2,vI 0,vI 0]) (fun _=> []) (fun x=> [Sl ay x.1 x.2.1 x.2.2 dur]):=by
 have h1:=h.int.bl.1
 have h2:=h.int.bl.2
 refine ak fun G=> ?_
 (repeat' ((try refine aw ?_);(conv=>arg 4;whnf);first | refine az ?_ |(refine sN ?_;intro b)|(refine aA (JF h1 h2 h.sd) ?_;intro x hx;refine aH ?_)|(refine cw (J0 (q:=q) h) ?_;intro x hx;refine bV ?_)| fail));(all_goals refine av ?_)
 exact aD x hx rfl (am _) bu
end
end Go.Proofs.YtbobhnldhpjdlaaGreatDoor
namespace Go.Proofs.YtbobhnldhpjdlaaGreatDoor
open Go Go.RowKit Go.Cs Go.Cz
set_option maxRecDepth 100000
set_option maxHeartbeats 4000000
theorem Is {e:Ent} (h:dK e=0):e.st≤2:=by unfold dK at h;split at h;cases h;omega
theorem zQ {α:Type} {K:α→List Value} (F:List Pt):En [] F (Sl K none 0 0 []):=fun w _ _=>⟨rfl,rfl,rfl,rfl⟩
section
variable {n:Nat} {d:SDsk} {I:DI} {cell:Cel} {q:Value×Value}
theorem IR {rp:Nat×Nat} {ryy:Nod} {bi:Nat} {p:Nat×Nat} {l:List Nod} (h:AnD n d I) (hb:bi<n) (he:lG n I.pv cell bi=(p,l)) (hrt:Hc n I.pv cell=(rp,ryy)) (hrp:¬rp.2=0):Zp Tryz.prog 45 [vI n,vA (aJ d),vA (aL cell),vI bi] [] [Dm d I,Gs q] Sv (fun _=>True)
  (fun x=> .tuple #[.slice x.1 x.2.1 x.2.2,vA (bW ⟨p.1,p.2⟩),vI (if p.2=0 then 0 else 9)]) (fun _=> []) (fun x=> [Sl aU x.1 x.2.1 x.2.2 l]):=by
 have h1:=h.n1
 have h2:=h.n2
 have h5:=a8 n
 refine ak fun G=> ?_
 have hr:=Jx (q:=q) h hrt hrp
 have hl:p=rp∧l= []:=by
  unfold lG at he;rw [hrt,if_pos hrp] at he;cases he;exact ⟨rfl,rfl⟩
 obtain ⟨rfl,rfl⟩:=hl
 (repeat' ((try refine aw ?_);(conv=>arg 4;whnf);first | refine az ?_ |(refine sN ?_;intro b)|(refine aA (oB h1 h2 h.sd) ?_;intro x hx;refine aH ?_)|(refine cw (sy h1 h2 hb) ?_;intro x hx;refine bV ?_)|(refine aA hr ?_;intro x hx;refine aH ?_)| fail));(all_goals refine av ?_)
 refine aR (Sl aU none 0 0 []) (zQ _) ?_
 exact aD ((none,0,0):Sv) True.intro (by rw [if_neg hrp];rfl) (am _) bu
theorem HS {rp:Nat×Nat} {ryy:Nod} {bi:Nat} {p:Nat×Nat} {l:List Nod} (h:AnD n d I) (hb:bi<n) (he:lG n I.pv cell bi=(p,l)) (hrt:Hc n I.pv cell=(rp,ryy)) (hrp:rp.2=0):Zp Tryz.prog 45 [vI n,vA (aJ d),vA (aL cell),vI bi] [] [Dm d I,Gs q] Sv (fun _=>True)
  (fun x=> .tuple #[.slice x.1 x.2.1 x.2.2,vA (bW ⟨p.1,p.2⟩),vI (if p.2=0 then 0 else 9)]) (fun _=> []) (fun x=> [Sl aU x.1 x.2.1 x.2.2 l]):=by
 have h1:=h.n1
 have h2:=h.n2
 have h5:=a8 n
 have hi0:idx bi (hgt n)=0:=by
  have:=wh (L:=List.replicate n Rec.zero) (b:=bi) (by simpa using h1) (by simpa using h2) (by simpa using hb)
  simpa using this
 refine ak fun G=> ?_
 have hr:=MA (q:=q) h hrt hrp
 have hpre0:lG n I.pv cell bi=Lq [ryy] (Cd n I.pv bi (hgt n) ryy):=by unfold lG;rw [hrt,if_neg (fun g=>g hrp)]
 obtain ⟨g1,g2,g3,g4,g5⟩:=kE hrt hrp
 obtain ⟨f1,f2,f3⟩:ryy.lv=hgt n∧ryy.ix=0∧fj n ryy=0:=Classical.not_not.1 g4
 (repeat' ((try refine aw ?_);(conv=>arg 4;whnf);first | refine az ?_ |(refine sN ?_;intro b)|(refine aa ?_;intro g c')|(refine aA (oB h1 h2 h.sd) ?_;intro x hx;refine aH ?_)|(refine cw (sy h1 h2 hb) ?_;intro x hx;refine bV ?_)|(refine aA hr ?_;intro x hx;refine aH ?_)| refine ae ?_ | fail));(all_goals refine av ?_)
 rename_i d1 d2 d3 u1 u2 vb pp u3 xb qb
 revert b;intro ob
 rcases Nat.eq_zero_or_pos (hgt n) with h0 | h0
 ·(repeat' ((try refine aw ?_);(conv=>arg 4;whnf);first | refine az ?_ |(refine sN ?_;intro b)|(refine aa ?_;intro g c')| refine ae ?_ | fail));(all_goals refine av ?_)
  refine gJ 1 (bN ?_)
  (repeat' ((try refine aw ?_);(conv=>arg 4;whnf);first | refine az ?_ |(refine sN ?_;intro b)|(refine aa ?_;intro g c')| refine ae ?_ | fail));(all_goals refine av ?_)
  have hl:p=(0,0)∧l= [ryy]:=by
   rw [hpre0,h0,show Cd n I.pv bi 0 ryy=((0,0), []) from rfl,zx] at he
   cases he;exact ⟨rfl,rfl⟩
  obtain ⟨rfl,rfl⟩:=hl
  refine eK ob 1 1 ?_
  exact aD ((some ⟨ob,0,none⟩,1,1):Sv) True.intro rfl (am _) bu
 ·refine DZ 0 1 ?_
  (repeat' ((try refine aw ?_);(conv=>arg 4;whnf);first | refine az ?_ |(refine sN ?_;intro b)|(refine aa ?_;intro g c')| refine ae ?_ | fail));(all_goals refine av ?_)
  have hpl:=jr n bi
  have hdl:((ec n bi).drop 1).length=hgt n:=by rw [List.length_drop,hpl];omega
  have hpg:∀i,i<hgt n→((ec n bi).drop 1).getD i default=⟨hgt n-(i+1),idx bi (hgt n-(i+1))⟩:=fun i hi=>by
   have:=lR (n:=n) (i:=bi) (k:=i+1) (by omega)
   rw [List.getD_eq_getElem?_getD] at this⊢
   rw [List.getElem?_drop,Nat.add_comm 1 i];exact this
  refine dh [xb,ob] (X:=Nat×List Nod×Nat×Nat×Nod) (fun x=> [(8, .slice none 0 0),(10,vI 0),(12,vI 0),(16, .slice (some ⟨x.2.2.1,0,none⟩) (x.1+1) x.2.2.2.1),(56,vI x.1)])
   (fun x=>x.1≤hgt n∧x.2.1.length=x.1+1∧bA x.2.2.2.2=0∧x.2.2.2.2.lv=hgt n-x.1∧x.2.2.2.2.ix=idx bi (hgt n-x.1)∧lG n I.pv cell bi=Lq x.2.1 (Cd n I.pv bi (hgt n-x.1) x.2.2.2.2))
   (fun x=> [iB xb (aU x.2.2.2.2) 217,iN aU 274 (some ⟨x.2.2.1,0,none⟩) (x.1+1) x.2.2.2.1 217 x.2.1]) (fun x=>hgt n-x.1) (0, [ryy],ob,1,ryy) ⟨Nat.zero_le _,rfl,g3,f1,by rw [f2,Nat.sub_zero,hi0],hpre0⟩ rfl (by
    refine aE ?_ rfl
    refine JL rfl rfl (by omega) ?_
    ((repeat' (first | with_reducible exact ar _ | exact am _ | refine aE ?_ ?_ | refine aX ?_))<;>(try with_reducible rfl))) ?_
  rintro ⟨i,out,g0,c0,y⟩ ⟨hi,hol,hck,hylv,hyix,hpre⟩
  (conv=>arg 2;simp only [List.cons_append,List.nil_append])
  dsimp only at hi hol hck hylv hyix hpre⊢
  by_cases hlt:i<hgt n
  ·have hq:=hpg i hlt
   obtain ⟨m,hm⟩:∃m,hgt n-i=m+1:=⟨hgt n-i-1,by omega⟩
   rw [hm] at hpre hylv hyix
   rw [show hgt n-(i+1)=m by omega] at hq
   have hj:=bm hb m
   have hcn:=cH n m
   have hqI:(((ec n bi).drop 1).getD i default).Index%4=idx bi m%4:=by rw [hq]
   have hix':4*y.ix+idx bi m%4=idx bi m:=by rw [hyix];exact hJ bi m
   have hst2:(y.es.get (idx bi m%4)).st≤2:=Is (aZ.1 (jy hck (by omega)) _ (Nat.mod_lt _ (by decide)))
   by_cases hs:(y.es.get (idx bi m%4)).st=0
   ·have hst:(y.es.l.getD ((((ec n bi).drop 1).getD i default).Index%4) default).st=0:=by rw [hqI];exact hs
    rw [AP hs,zx,List.append_nil,he] at hpre
    cases hpre
    refine eE (m:=274) (e:=217) aU (some ⟨g0,0,none⟩) (i+1) c0 ?_
    refine aS 0 ?_
    intro _ hc0 hm0 _
    (repeat' ((try refine aw ?_);(conv=>arg 4;whnf);first | refine az ?_ |(refine sN ?_;intro b)|(refine aa ?_;intro g c')| refine ae ?_ | fail));(all_goals refine av ?_)
    refine je 0 ?_
    exact aD ((some ⟨g0,0,none⟩,i+1,i+1):Sv) True.intro rfl (am _) bu
   ·have hst:¬(y.es.l.getD ((((ec n bi).drop 1).getD i default).Index%4) default).st=0:=by rw [hqI];exact hs
    obtain ⟨⟨cpp,cyy⟩,hcy⟩:∃x,Ca n I.pv m (4*y.ix+idx bi m%4) ((y.es.get (idx bi m%4)).st-1) (y.es.get (idx bi m%4)).dg=x:=⟨_,rfl⟩
    have hcy':=hcy
    rw [←hqI,show m=y.lv-1 by omega] at hcy'
    have hpj:4*y.ix+(((ec n bi).drop 1).getD i default).Index%4<cnt n (y.lv-1):=by rw [hqI,hix',show y.lv-1=m by omega];exact hj
    have hs':¬(y.es.get ((((ec n bi).drop 1).getD i default).Index%4)).st=0:=by rw [hqI];exact hs
    have hs2':(y.es.get ((((ec n bi).drop 1).getD i default).Index%4)).st≤2:=by rw [hqI];exact hst2
    by_cases hcp:cpp.2=0
    ·have hch:=MU (q:=q) h (Nat.mod_lt _ (by decide)) (by omega) (by omega) hpj hs' hs2' hcy' hcp
     rw [Gx hs hcy hcp,CD] at hpre
     obtain ⟨k1,k2,k3,kk4,kk5⟩:=kE hcy hcp
     obtain ⟨e1,e2,e3⟩:cyy.lv=m∧cyy.ix=4*y.ix+idx bi m%4∧fj n cyy=0:=Classical.not_not.1 kk4
     (repeat' ((try refine aw ?_);(conv=>arg 4;whnf);first | refine az ?_ |(refine sN ?_;intro b)|(refine aa ?_;intro g c')|(refine aA hch ?_;intro x hx;refine aH ?_)| refine ae ?_ | fail));(all_goals refine av ?_)
     refine a5 (i+1,out++ [cyy],g,c',cyy) rfl ⟨by dsimp only;omega,by simp [hol],k3, ?_, ?_, ?_⟩ ?_ (by dsimp only;omega)
     ·dsimp only;omega
     ·dsimp only;rw [show hgt n-(i+1)=m by omega,e2,hix']
     ·dsimp only;rw [show hgt n-(i+1)=m by omega];exact hpre
     ·dsimp only
      ((repeat' (first | with_reducible exact ar _ | exact am _ | refine aE ?_ ?_ | refine aX ?_))<;>(try with_reducible rfl))
    ·have hch:=LZ (q:=q) h (Nat.mod_lt _ (by decide)) (by omega) (by omega) hpj hs' hs2' hcy' hcp
     rw [v6 hs hcy hcp,nH hcp,he] at hpre
     cases hpre
     (repeat' ((try refine aw ?_);(conv=>arg 4;whnf);first | refine az ?_ |(refine sN ?_;intro b)|(refine aa ?_;intro g c')|(refine aA hch ?_;intro x hx;refine aH ?_)| refine ae ?_ | fail));(all_goals refine av ?_)
     refine aR (Sl aU none 0 0 []) (zQ _) ?_
     exact aD ((none,0,0):Sv) True.intro (by rw [if_neg hcp];rfl) (am _) bu
  ·obtain rfl:i=hgt n:=by omega
   rw [Nat.sub_self,show Cd n I.pv bi 0 y=((0,0), []) from rfl,zx,List.append_nil,he] at hpre
   cases hpre
   refine eE (m:=274) (e:=217) aU (some ⟨g0,0,none⟩) (hgt n+1) c0 ?_
   refine aS 0 ?_
   intro _ hc0 hm0 _
   (repeat' ((try refine aw ?_);(conv=>arg 4;whnf);first | refine az ?_ |(refine sN ?_;intro b)|(refine aa ?_;intro g c')| refine ae ?_ | fail));(all_goals refine av ?_)
   refine je 0 ?_
   exact aD ((some ⟨g0,0,none⟩,hgt n+1,hgt n+1):Sv) True.intro rfl (am _) bu
theorem Hi {bi:Nat} {p:Nat×Nat} {l:List Nod} (h:AnD n d I) (hb:bi<n) (he:lG n I.pv cell bi=(p,l)):Zp Tryz.prog 45 [vI n,vA (aJ d),vA (aL cell),vI bi] [] [Dm d I,Gs q] Sv (fun _=>True)
  (fun x=> .tuple #[.slice x.1 x.2.1 x.2.2,vA (bW ⟨p.1,p.2⟩),vI (if p.2=0 then 0 else 9)]) (fun _=> []) (fun x=> [Sl aU x.1 x.2.1 x.2.2 l]):=by
 obtain ⟨⟨rp,ryy⟩,hrt⟩:∃x,Hc n I.pv cell=x:=⟨_,rfl⟩
 by_cases hrp:rp.2=0
 ·exact HS h hb he hrt hrp
 ·exact IR h hb he hrt hrp
end
end Go.Proofs.YtbobhnldhpjdlaaGreatDoor
namespace Go.Proofs.YtbobhnldhpjdlaaGreatDoor
open Go Go.RowKit Go.Cs Go.Cz
set_option maxRecDepth 100000
set_option maxHeartbeats 4000000
theorem uA {n:Nat} {pv:Pv} {b:Nat}:∀{i:Nat} {x:Nod} {p:Nat×Nat} {l:List Nod},Cd n pv b i x=(p,l)→∀y∈l,bA y=0
 | 0,x,p,l,h=>by
  rw [show Cd n pv b 0 x=((0,0), []) from rfl] at h;cases h;exact fun y hy=>by cases hy
 | i+1,x,p,l,h=>by
  by_cases hs:(x.es.get (idx b i%4)).st=0
  ·rw [AP hs] at h;cases h;exact fun y hy=>by cases hy
  ·obtain ⟨⟨cqq,czz⟩,hcz⟩:∃z,Ca n pv i (4*x.ix+idx b i%4) ((x.es.get (idx b i%4)).st-1) (x.es.get (idx b i%4)).dg=z:=⟨_,rfl⟩
   by_cases hq:cqq.2=0
   ·rw [Gx hs hcz hq] at h
    obtain ⟨⟨rqq,rl⟩,hr⟩:∃z,Cd n pv b i czz=z:=⟨_,rfl⟩
    have ih:=uA hr
    rw [hr] at h
    obtain ⟨k1,k2,k3,_,_⟩:=kE hcz hq
    by_cases hz:rqq.2=0
    ·unfold Lq at h;rw [if_neg (fun g=>g hz)] at h;cases h
     intro y hy
     rcases List.mem_append.1 hy with h9 | h9
     ·cases h9 with
      | head=>exact k3
      | tail _ h9=>cases h9
     ·exact ih y h9
    ·rw [nH hz] at h;cases h;exact fun y hy=>by cases hy
   ·rw [v6 hs hcz hq] at h;cases h;exact fun y hy=>by cases hy
theorem lJ {n:Nat} {pv:Pv} {c:Cel} {b:Nat} {p:Nat×Nat} {l:List Nod} (h:lG n pv c b=(p,l)) (hp:p.2=0):p=(0,0)∧0<l.length∧∀y∈l,bA y=0:=by
 obtain ⟨⟨rqq,rzz⟩,hr⟩:∃z,Hc n pv c=z:=⟨_,rfl⟩
 unfold lG at h
 rw [hr] at h
 by_cases hq:rqq.2=0
 ·rw [if_neg (fun g=>g hq)] at h
  obtain ⟨k1,k2,k3,_,_⟩:=kE hr hq
  obtain ⟨⟨cqq,cl⟩,hc⟩:∃z,Cd n pv b (hgt n) rzz=z:=⟨_,rfl⟩
  have ih:=uA hc
  rw [hc] at h
  by_cases hz:cqq.2=0
  ·unfold Lq at h;rw [if_neg (fun g=>g hz)] at h;cases h
   refine ⟨rfl,by simp,fun y hy=> ?_⟩
   rcases List.mem_append.1 hy with h9 | h9
   ·cases h9 with
    | head=>exact k3
    | tail _ h9=>cases h9
   ·exact ih y h9
  ·rw [nH hz] at h;cases h;exact absurd hp hz
 ·rw [if_pos hq] at h;cases h;exact absurd hp hq
theorem xT {b:Nat} {l:List Nod} (h0:0<l.length) (h:∀y∈l,bA y=0):bS (ky b l)=0:=by
 unfold ky
 split
 ·next hlv=>
  have hm:l.getD (l.length-1) Nod.zero∈l:=by
   rw [←List.getElem_eq_getD (h:=by omega)];exact List.getElem_mem _
  exact aZ.1 (gA (h _ hm) hlv) _ (Nat.mod_lt _ (by decide))
 ·decide
theorem w9 {n:Nat} {pv:Pv} {c:Cel} {b:Nat} {p:Nat×Nat} {r:Rec} (h:qS n pv c b=(p,r)):bS r=0:=by
 obtain ⟨⟨q,l⟩,hP⟩:∃z,lG n pv c b=z:=⟨_,rfl⟩
 unfold qS at h
 rw [hP] at h
 by_cases hq:q.2=0
 ·dsimp only at h
  rw [if_neg (fun g=>g hq)] at h;cases h
  obtain ⟨_,h1,h2⟩:=lJ hP hq
  exact xT h1 h2
 ·dsimp only at h
  rw [if_pos hq] at h;cases h;decide
section
variable {n bi:Nat} {d:SDsk} {I:DI} {cell:Cel} {k:Key} {r:Rec} {p:Nat×Nat} {q:Value×Value}
theorem Jt (h:AnD n d I) (hb:bi<n) (he:qS n I.pv cell bi=(p,r)) (hp:¬p.2=0):Zp Tryz.prog 267 [vI n,vA (aJ d),vA (aL cell),vI bi] [] [Dm d I,Gs q] Unit (fun _=>True)
  (fun x=> .tuple #[vA (bY Rec.zero),vA (bW ⟨p.1,p.2⟩),vI 9]) (fun _=> []) (fun x=> []):=by
 obtain ⟨⟨pp,pl⟩,hP⟩:∃z,lG n I.pv cell bi=z:=⟨_,rfl⟩
 have e:pp=p:=by unfold qS at he;rw [hP] at he;cases he;rfl
 subst e
 have hPt:=Hi (q:=q) h hb hP
 rw [if_neg hp] at hPt
 refine ak fun G=> ?_
 (repeat' ((try refine aw ?_);(conv=>arg 4;whnf);first | refine az ?_ |(refine sN ?_;intro b)|(refine cw hPt ?_;intro x hx;refine bV ?_)| exact ax | fail));(all_goals refine av ?_)
theorem MH (h:AnD n d I) (hb:bi<n) (he:qS n I.pv cell bi=(p,r)) (hp:p.2=0):Zp Tryz.prog 267 [vI n,vA (aJ d),vA (aL cell),vI bi] [] [Dm d I,Gs q] Unit (fun _=>True)
  (fun x=> .tuple #[vA (bY r),vA (bW SPrb.zero),vI 0]) (fun _=> []) (fun x=> []):=by
 obtain ⟨⟨pp,pl⟩,hP⟩:∃z,lG n I.pv cell bi=z:=⟨_,rfl⟩
 have e:pp=p∧r=ky bi pl:=by
  unfold qS at he;rw [hP] at he;dsimp only at he
  cases he
  exact ⟨rfl,if_neg (fun g=>g hp)⟩
 obtain ⟨rfl,rfl⟩:=e
 obtain ⟨e0,hlen,hall⟩:=lJ hP hp
 have hPt:=Hi (q:=q) h hb hP
 subst e0
 rw [if_pos rfl] at hPt
 have h2:=h.n2
 refine ak fun G=> ?_
 (repeat' ((try refine aw ?_);(conv=>arg 4;whnf);first | refine az ?_ |(refine sN ?_;intro b)|(refine cw hPt ?_;intro x hx;refine bV ?_)| exact ax | fail));(all_goals refine av ?_)
 refine aS 0 ?_
 intro hn hc hm ha
 rw [ky]
 obtain ⟨sb,o,hso⟩:=ha (by omega) (by decide)
 rw [hn,hso]
 by_cases hlv:(pl.getD (pl.length-1) Nod.zero).lv=0
 ·rw [if_pos hlv]
  have hlv':(pl.getD (pl.length-1) default).lv=0:=hlv
  (repeat' ((try refine aw ?_);(conv=>arg 4;whnf);first | refine az ?_ |(refine sN ?_;intro b)| exact ax | fail));(all_goals refine av ?_)
 ·rw [if_neg hlv]
  have hlv':¬(pl.getD (pl.length-1) default).lv=0:=hlv
  (repeat' ((try refine aw ?_);(conv=>arg 4;whnf);first | refine az ?_ |(refine sN ?_;intro b)| exact ax | fail));(all_goals refine av ?_)
end
end Go.Proofs.YtbobhnldhpjdlaaGreatDoor
namespace Go.Proofs.YtbobhnldhpjdlaaGreatDoor
open Go Go.RowKit Go.Cs Go.Cz
set_option maxRecDepth 100000
set_option maxHeartbeats 4000000
section
variable {n bi:Nat} {d:SDsk} {I:DI} {cell:Cel} {k:Key} {r:Rec} {q:Value×Value}
theorem LA (h:AnD n d I) (hb:bi<n) (hr:bS r=0) (h0:r.st≠0) (hpv:I.pv (2*bi+(r.st-1))=none):Zp Tryz.prog 48 [vI n,vA (aJ d),vA (bC k),vI bi,vA (bY r)] [] [Dm d I,Gs q] Unit (fun _=>True)
  (fun x=> .tuple #[vA (ay Dig.zero),vA (bW ⟨2*bi+(r.st-1),1⟩),vI 9]) (fun _=> []) (fun x=> []):=by
 have h1:=h.n1
 have h2:=h.n2
 have hI:=h.ok
 have hck:=nB (x:=r)
 rw [hr] at hck
 have hdt:=j9 h1 h2 hb (t:=0) (by omega)
 have hr2:=ei hr
 have hdt2:=j9 h1 h2 hb (t:=r.st-1) (by omega)
 have hsl:=kt hr2 h0
 have hs:2*bi+(r.st-1)<I.size:=by rw [h.si];have:=pY n (hgt n+1);omega
 have hi:bi<4096:=by omega
 refine ak fun G=> ?_
 (repeat' ((try refine aw ?_);(conv=>arg 4;whnf);first | refine az ?_ |(refine sN ?_;intro b)|((first | refine aA (oB h1 h2 h.sd) ?_ | refine aA hdt ?_ | refine aA hck ?_ | refine aA hsl ?_ | refine aA hdt2 ?_ | refine aA (LM hI hs hpv) ?_);intro x hx;refine aH ?_)| refine ae ?_ | exact ax | fail));(all_goals refine av ?_)
 rename_i d0 kb ib rb o1 o2 u1 v1 vb eb u2 v2 u3 v3 u4 v4 u5 v5 cb db pb
 refine fL b ([⟨some (.func 155, #[], #[vP eb 0]),1⟩,⟨some (.func 156, #[], #[vP cb 0,vP db 0]),5⟩,⟨some (.func 157, #[], #[vP kb 0,vP ib 0,vP rb 0,vP db 0,vP pb 0,vP eb 0]),6⟩].flatMap gI) rfl ?_
 revert b;intro qb
 refine gJ 4 (bN ?_)
 (repeat' ((try refine aw ?_);(conv=>arg 4;whnf);first | refine az ?_ |(refine sN ?_;intro b)|(refine aA (Gm (s:=2*bi+(r.st-1)) (f:=1) (by decide) (by decide)) ?_;intro x hx;refine aH ?_)| refine ae ?_ | exact ax | fail));(all_goals refine av ?_)
theorem MI {L:List UInt8} (h:AnD n d I) (hb:bi<n) (hr:bS r=0) (h0:r.st≠0) (hpv:I.pv (2*bi+(r.st-1))=some L) (hl:¬L.length=32):Zp Tryz.prog 48 [vI n,vA (aJ d),vA (bC k),vI bi,vA (bY r)] [] [Dm d I,Gs q] Unit (fun _=>True)
  (fun x=> .tuple #[vA (ay Dig.zero),vA (bW ⟨2*bi+(r.st-1),5⟩),vI 9]) (fun _=> []) (fun x=> []):=by
 have h1:=h.n1
 have h2:=h.n2
 have hI:=h.ok
 have hck:=nB (x:=r)
 rw [hr] at hck
 have hdt:=j9 h1 h2 hb (t:=0) (by omega)
 have hr2:=ei hr
 have hdt2:=j9 h1 h2 hb (t:=r.st-1) (by omega)
 have hsl:=kt hr2 h0
 have hs:2*bi+(r.st-1)<I.size:=by rw [h.si];have:=pY n (hgt n+1);omega
 have hi:bi<4096:=by omega
 have hyb:=h.bl _ _ hpv
 refine ak fun G=> ?_
 (repeat' ((try refine aw ?_);(conv=>arg 4;whnf);first | refine az ?_ |(refine sN ?_;intro b)|((first | refine aA (oB h1 h2 h.sd) ?_ | refine aA hdt ?_ | refine aA hck ?_ | refine aA hsl ?_ | refine aA hdt2 ?_);intro x hx;refine aH ?_)|(refine cw (oW hI hs hpv hyb) ?_;intro x hx;refine bV ?_)| refine ae ?_ | exact ax | fail));(all_goals refine av ?_)
 rename_i d0 kb ib rb o1 o2 u1 v1 vb eb u2 v2 u3 v3 u4 v4 u5 v5 cb db pb
 obtain ⟨xa,xn,xc⟩:=x
 refine aS 0 ?_
 intro hn hc hm ha
 dsimp only at hn hc hm ha⊢
 subst hn
 refine fL b ([⟨some (.func 155, #[], #[vP eb 0]),1⟩,⟨some (.func 156, #[], #[vP cb 0,vP db 0]),5⟩,⟨some (.func 157, #[], #[vP kb 0,vP ib 0,vP rb 0,vP db 0,vP pb 0,vP eb 0]),6⟩].flatMap gI) rfl ?_
 revert b;intro qb
 refine fL db (bE Dig.zero.l) rfl ?_
 refine gJ 4 (bN ?_)
 (repeat' ((try refine aw ?_);(conv=>arg 4;whnf);first | refine aO ?_ |(refine sN ?_;intro b)| refine ae ?_ | exact ax | fail));(all_goals refine av ?_)
 refine bN ?_
 (repeat' ((try refine aw ?_);(conv=>arg 4;whnf);first | refine aO ?_ |(refine sN ?_;intro b)| refine ae ?_ | exact ax | fail));(all_goals refine av ?_)
 rcases Nat.lt_or_ge L.length 32 with h32 | h32
 ·refine dH [db] rfl ?_
  (repeat' ((try refine aw ?_);(conv=>arg 4;whnf);first | refine az ?_ |(refine sN ?_;intro b)|(refine aA (Gm (s:=2*bi+(r.st-1)) (f:=5) (by decide) (by decide)) ?_;intro x hx;refine aH ?_)| refine ae ?_ | exact ax | fail));(all_goals refine av ?_)
 ·refine dH [db] rfl ?_
  (repeat' ((try refine aw ?_);(conv=>arg 4;whnf);first | refine az ?_ |(refine sN ?_;intro b)|(refine aA (Gm (s:=2*bi+(r.st-1)) (f:=5) (by decide) (by decide)) ?_;intro x hx;refine aH ?_)| refine ae ?_ | exact ax | fail));(all_goals refine av ?_)
end
end Go.Proofs.YtbobhnldhpjdlaaGreatDoor
