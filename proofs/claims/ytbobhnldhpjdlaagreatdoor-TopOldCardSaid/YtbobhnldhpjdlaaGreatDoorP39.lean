/- Lemmas and walks: what each function does, by its own code. No condition beyond those of each statement. -/
import Derived.Test.YtbobhnldhpjdlaaGreatDoorP13
import Derived.Test.YtbobhnldhpjdlaaGreatDoorP15
import Derived.Test.YtbobhnldhpjdlaaGreatDoorP31
import Derived.Test.YtbobhnldhpjdlaaGreatDoorP32
set_option linter.all false
set_option linter.unusedVariables false
namespace Go.Proofs.YtbobhnldhpjdlaaGreatDoor
open Go Go.RowKit Go.Cs Go.Cz
set_option maxRecDepth 100000
set_option maxHeartbeats 4000000
structure DV (n:Nat) (k:Key) (d:SDsk) (I:DI) (L:List Rec) (s:List Nat) (dur:List Dig) (cell:Cel):Prop where
 ok:I.Ok
 sd:d.size=bas n (hgt n+1)
 si:I.size=bas n (hgt n+1)
 int:Intact n k I.con L s dur cell
section
variable {n:Nat} {k:Key} {d:SDsk} {I:DI} {L:List Rec} {s:List Nat} {dur:List Dig} {cell:Cel}
theorem DV.pv (h:DV n k d I L s dur cell) {l j:Nat} (hl:l≤hgt n) (hj:j<cnt n l) (hm:l=hgt n∨bK L l j=false):I.pv (bas n l+2*j+s.getD (num n l+j) 0)=some (aM (aK L s l j)):=by
 rw [←DI.con_top];exact h.int.nds l j hl hj hm
theorem DV.nd (h:DV n k d I L s dur cell) {l j:Nat} (hl:l≤hgt n) (hj:j<cnt n l):bA (aK L s l j)=0∧(aK L s l j).lv=l∧(aK L s l j).ix=j∧fj n (aK L s l j)=0:=by
 have h4:=h.int.bl.2
 have hll:=h.int.ll
 subst hll
 exact ⟨mg h.int.ok hl hj,dD h4 hl hj,dQ h4 hl hj,ig h.int.ok hl hj⟩
theorem DV.rootD (h:DV n k d I L s dur cell):bI (aM (aK L s (hgt n) 0))=cell.root:=by rw [h.int.root,cq,h.int.ll]
theorem DV.top (h:DV n k d I L s dur cell):I.pv (bas n (hgt n)+2*0+cell.ep%2)=some (aM (aK L s (hgt n) 0)):=by
 have:=h.pv (Nat.le_refl _) (dk h.int.bl.1 (hgt n)) (.inl rfl)
 rwa [h.int.slot]
theorem DV.ent (h:DV n k d I L s dur cell) {l j w:Nat} (hl:l+1≤hgt n) (hj:j<cnt n (l+1)) (hw:w<4) (hc:4*j+w<cnt n l):(aK L s (l+1) j).es.get w=cX L s l (4*j+w):=by
 have hll:=h.int.ll
 subst hll
 have hp:w<prt L.length (l+1) j:=(bM hw).2 hc
 exact lB (Nat.succ_ne_zero l) hp
theorem DV.ent0 (h:DV n k d I L s dur cell) (l c:Nat):(cX L s l c).st=0↔bK L l c=true:=eh h.int.ok.sl l c
theorem DV.ent1 (h:DV n k d I L s dur cell) {l c:Nat} (he:bK L l c=false):(cX L s l c).st=s.getD (num n l+c) 0+1∧(cX L s l c).dg=bI (aM (aK L s l c))∧s.getD (num n l+c) 0≤1:=by
 have hll:=h.int.ll
 subst hll
 have hs:=h.int.ok.sl (num L.length l+c)
 have e:cX L s l c=⟨(s.getD (num L.length l+c) 0+1)%2^8,bI (aM (aK L s l c)),Nat.mod_lt _ (by decide)⟩:=if_neg (by rw [he];decide)
 rw [e]
 exact ⟨by show (s.getD (num L.length l+c) 0+1)%2^8=_;omega,rfl,hs⟩
theorem HQ {l j w:Nat} {q:Value×Value} (h:DV n k d I L s dur cell) (hl:l+1≤hgt n) (hj:j<cnt n (l+1)) (hw:w<4) (hc:4*j+w<cnt n l) (he:bK L l (4*j+w)=false):
  Zp Tryz.prog 147 [vA (cO ⟨n,d⟩),vA (aU (aK L s (l+1) j)),vI w] [] [Dm d I,Gs q] Unit (fun _=>True) (fun _=> .tuple #[vA (aU (aK L s l (4*j+w))),vA (bW SPrb.zero),vI 0]) (fun _=> []) (fun _=> []):=by
 obtain ⟨e1,e2,e3⟩:=h.ent1 he
 have hE:=h.ent hl hj hw hc
 obtain ⟨f1,f2,f3,f4⟩:=h.nd (l:=l+1) hl hj
 obtain ⟨g1,g2,g3,g4⟩:=h.nd (l:=l) (j:=4*j+w) (by omega) hc
 have hp:=h.pv (l:=l) (j:=4*j+w) (by omega) hc (.inr he)
 refine EI (q:=q) h.int.bl.1 h.int.bl.2 h.ok h.si hw (by omega) (by omega) ?_ (by rw [hE,e1];omega) (by rw [hE,e1];omega) ?_ g1 (by omega) (by rw [f3,g3]) g4 (by rw [hE,e2])
 ·rw [f2,f3];exact hc
 ·rw [f2,f3,hE,e1];exact hp
theorem HU {l j w:Nat} {q:Value×Value} (h:DV n k d I L s dur cell) (hl:l+1≤hgt n) (hj:j<cnt n (l+1)) (hw:w<4) (hc:4*j+w<cnt n l) (he:bK L l (4*j+w)=false):
  Zp Tryz.prog 141 [vI n,vA (aJ d),vA (aU (aK L s (l+1) j)),vI w] [] [Dm d I,Gs q] Unit (fun _=>True) (fun _=> .tuple #[vA (aU (aK L s l (4*j+w))),vA (bW SPrb.zero),vI 0]) (fun _=> []) (fun _=> []):=by
 obtain ⟨e1,e2,e3⟩:=h.ent1 he
 have hE:=h.ent hl hj hw hc
 obtain ⟨f1,f2,f3,f4⟩:=h.nd (l:=l+1) hl hj
 obtain ⟨g1,g2,g3,g4⟩:=h.nd (l:=l) (j:=4*j+w) (by omega) hc
 have hp:=h.pv (l:=l) (j:=4*j+w) (by omega) hc (.inr he)
 refine JZ (q:=q) h.int.bl.1 h.int.bl.2 h.ok h.sd h.si hw f4 (by omega) (by omega) ?_ (by rw [hE,e1];omega) (by rw [hE,e1];omega) ?_ g1 (by omega) (by rw [f3,g3]) g4 (by rw [hE,e2])
 ·rw [f2,f3];exact hc
 ·rw [f2,f3,hE,e1];exact hp
end
end Go.Proofs.YtbobhnldhpjdlaaGreatDoor
namespace Go.Proofs.YtbobhnldhpjdlaaGreatDoor
open Go Go.RowKit Go.Cs Go.Cz
set_option maxRecDepth 100000
set_option maxHeartbeats 4000000
section
variable {n:Nat} {k:Key} {d:SDsk} {I:DI} {L:List Rec} {s:List Nat} {dur:List Dig} {cell:Cel}
theorem og {L:List Rec} {s:List Nat} {b i:Nat} (h:bK L i (idx b i)=true):cU L s b (i+1)= []:=by rw [cU,if_pos h]
theorem xu {L:List Rec} {s:List Nat} {b i:Nat} (h:bK L i (idx b i)=false):cU L s b (i+1)=aK L s i (idx b i)::cU L s b i:=by rw [cU,if_neg (by rw [h];decide)]
theorem D9 {bi:Nat} {q:Value×Value} (h:DV n k d I L s dur cell) (hb:bi<n):Zp Tryz.prog 45 [vI n,vA (aJ d),vA (aL cell),vI bi] [] [Dm d I,Gs q] (Nat×Nat) (fun _=>True)
  (fun x=> .tuple #[.slice (some ⟨x.1,0,none⟩) x.2 x.2,vA (bW SPrb.zero),vI 0]) (fun _=> []) (fun x=> [Sl aU (some ⟨x.1,0,none⟩) x.2 x.2 (aK L s (hgt n) 0::cU L s bi (hgt n))]):=by
 have h1:=h.int.bl.1
 have h2:=h.int.bl.2
 have h5:=a8 n
 obtain ⟨f1,f2,f3,f4⟩:=h.nd (Nat.le_refl _) (dk h1 (hgt n))
 have hr:=D4 (q:=q) (d:=d) h1 h2 h.ok h.si h.top f1 f2 f3 f4 h.rootD
 refine ak fun G=> ?_
 (repeat' ((try refine aw ?_);(conv=>arg 4;whnf);first | refine az ?_ |(refine sN ?_;intro b)|(refine sC ?_ ?_<;>intro h)|(refine au ?_ ?_<;>intro h<;>try contradiction)|(refine aa ?_;intro g c')|(refine aA (oB h1 h2 h.sd) ?_;intro x hx;refine aH ?_)|(refine cw (sy h1 h2 hb) ?_;intro x hx;refine bV ?_)|(refine aA hr ?_;intro x hx;refine aH ?_)| refine ae ?_ | refine ai ?_ | exact ax |(refine aj rfl ?_;intro D lL)| refine af ?_ ?_ | refine ah ?_ ?_ ?_ | fail));(all_goals refine av ?_)
 rename_i d1 d2 d3 u1 u2 vb pp u3 xb qb
 revert b;intro ob
 rcases Nat.eq_zero_or_pos (hgt n) with h0 | h0
 ·(repeat' ((try refine aw ?_);(conv=>arg 4;whnf);first | refine az ?_ |(refine sN ?_;intro b)|(refine sC ?_ ?_<;>intro h)|(refine au ?_ ?_<;>intro h<;>try contradiction)|(refine aa ?_;intro g c')| refine ae ?_ | refine ai ?_ | exact ax |(refine aj rfl ?_;intro D lL)| refine af ?_ ?_ | refine ah ?_ ?_ ?_ | fail));(all_goals refine av ?_)
  refine gJ 1 (bN ?_)
  (repeat' ((try refine aw ?_);(conv=>arg 4;whnf);first | refine az ?_ |(refine sN ?_;intro b)|(refine sC ?_ ?_<;>intro h)|(refine au ?_ ?_<;>intro h<;>try contradiction)|(refine aa ?_;intro g c')| refine ae ?_ | refine ai ?_ | exact ax |(refine aj rfl ?_;intro D lL)| refine af ?_ ?_ | refine ah ?_ ?_ ?_ | fail));(all_goals refine av ?_)
  rw [show cU L s bi (hgt n)= [] by rw [h0];rfl]
  refine eK ob 1 1 ?_
  exact aD (ob,1) True.intro rfl (am _) bu
 ·refine DZ 0 1 ?_
  (repeat' ((try refine aw ?_);(conv=>arg 4;whnf);first | refine az ?_ |(refine sN ?_;intro b)|(refine sC ?_ ?_<;>intro h)|(refine au ?_ ?_<;>intro h<;>try contradiction)|(refine aa ?_;intro g c')| refine ae ?_ | refine ai ?_ | exact ax |(refine aj rfl ?_;intro D lL)| refine af ?_ ?_ | refine ah ?_ ?_ ?_ | fail));(all_goals refine av ?_)
  have hpl:=jr n bi
  have hdl:((ec n bi).drop 1).length=hgt n:=by rw [List.length_drop,hpl];omega
  have hpg:∀i,i<hgt n→((ec n bi).drop 1).getD i default=⟨hgt n-(i+1),idx bi (hgt n-(i+1))⟩:=fun i hi=>by
   have:=lR (n:=n) (i:=bi) (k:=i+1) (by omega)
   rw [List.getD_eq_getElem?_getD] at this⊢
   rw [List.getElem?_drop,Nat.add_comm 1 i];exact this
  have hi0:idx bi (hgt n)=0:=eV h.int hb
  refine dh [xb,ob] (X:=Nat×List Nod×Nat×Nat) (fun x=> [(8, .slice none 0 0),(10,vI 0),(12,vI 0),(16, .slice (some ⟨x.2.2.1,0,none⟩) (x.1+1) x.2.2.2),(56,vI x.1)])
   (fun x=>x.1≤hgt n∧x.2.1.length=x.1+1∧x.2.1++cU L s bi (hgt n-x.1)=aK L s (hgt n) 0::cU L s bi (hgt n))
   (fun x=> [iB xb (aU (aK L s (hgt n-x.1) (idx bi (hgt n-x.1)))) 217,iN aU 274 (some ⟨x.2.2.1,0,none⟩) (x.1+1) x.2.2.2 217 x.2.1]) (fun x=>hgt n-x.1) (0, [aK L s (hgt n) 0],ob,1) ⟨Nat.zero_le _,rfl,rfl⟩ rfl (by
    rw [Nat.sub_zero,hi0]
    refine aE ?_ rfl
    refine JL rfl rfl (by omega) ?_
    ((repeat' (first | with_reducible exact ar _ | exact am _ | refine aE ?_ ?_ | refine aG inferInstance ?_ | refine aX ?_))<;>(try with_reducible rfl))) ?_
  rintro ⟨i,out,g0,c0⟩ ⟨hi,hol,hpre⟩
  (conv=>arg 2;simp only [List.cons_append,List.nil_append])
  dsimp only at hi hol hpre⊢
  by_cases hlt:i<hgt n
  ·have hq:=hpg i hlt
   obtain ⟨l,hl⟩:∃l,hgt n-i=l+1:=⟨hgt n-i-1,by omega⟩
   rw [hl] at hpre
   rw [show hgt n-(i+1)=l by omega] at hq
   rw [hl]
   have hj1:=bm hb (l+1)
   have hj:=bm hb l
   have hix:4*idx bi (l+1)+idx bi l%4=idx bi l:=hJ bi l
   have hE:=h.ent (l:=l) (j:=idx bi (l+1)) (w:=idx bi l%4) (by omega) hj1 (Nat.mod_lt _ (by decide)) (by rw [hix];exact hj)
   rw [hix] at hE
   have hcn:=cH n l
   have hqI:(((ec n bi).drop 1).getD i default).Index=idx bi l:=by rw [hq]
   have hix':4*idx bi (l+1)+(((ec n bi).drop 1).getD i default).Index%4=idx bi l:=by rw [hqI];exact hix
   rw [←hqI] at hE
   by_cases he:bK L l (idx bi l)=true
   ·have hst:((aK L s (l+1) (idx bi (l+1))).es.l.getD ((((ec n bi).drop 1).getD i default).Index%4) default).st=0:=by
     show ((aK L s (l+1) (idx bi (l+1))).es.get ((((ec n bi).drop 1).getD i default).Index%4)).st=0
     rw [hE,hqI];exact (h.ent0 l _).2 he
    rw [og he,List.append_nil] at hpre
    refine eE (m:=274) (e:=217) aU (some ⟨g0,0,none⟩) (i+1) c0 ?_
    refine aS 0 ?_
    intro _ hc0 hm0 _
    (repeat' ((try refine aw ?_);(conv=>arg 4;whnf);first | refine az ?_ |(refine sN ?_;intro b)|(refine sC ?_ ?_<;>intro h)|(refine au ?_ ?_<;>intro h<;>try contradiction)|(refine aa ?_;intro g c')| refine ae ?_ | refine ai ?_ | exact ax |(refine aj rfl ?_;intro D lL)| refine af ?_ ?_ | refine ah ?_ ?_ ?_ | fail));(all_goals refine av ?_)
    refine je 0 ?_
    rw [hpre]
    exact aD (g0,i+1) True.intro rfl (am _) bu
   ·have he':bK L l (idx bi l)=false:=by simpa using he
    have hst:¬((aK L s (l+1) (idx bi (l+1))).es.l.getD ((((ec n bi).drop 1).getD i default).Index%4) default).st=0:=by
     show ¬((aK L s (l+1) (idx bi (l+1))).es.get ((((ec n bi).drop 1).getD i default).Index%4)).st=0
     rw [hE,hqI];exact fun g=>he ((h.ent0 l _).1 g)
    rw [xu he'] at hpre
    have hch:=HQ (q:=q) (w:=(((ec n bi).drop 1).getD i default).Index%4) h (by omega) hj1 (Nat.mod_lt _ (by decide)) (by rw [hix'];exact hj) (by rw [hix'];exact he')
    rw [hix'] at hch
    (repeat' ((try refine aw ?_);(conv=>arg 4;whnf);first | refine az ?_ |(refine sN ?_;intro b)|(refine sC ?_ ?_<;>intro h)|(refine au ?_ ?_<;>intro h<;>try contradiction)|(refine aa ?_;intro g c')|(refine aA hch ?_;intro x hx;refine aH ?_)| refine ae ?_ | refine ai ?_ | exact ax |(refine aj rfl ?_;intro D lL)| refine af ?_ ?_ | refine ah ?_ ?_ ?_ | fail));(all_goals refine av ?_)
    refine a5 (i+1,out++ [aK L s l (idx bi l)],g,c') rfl ⟨by dsimp only;omega,by simp [hol], ?_⟩ ?_ (by dsimp only;omega)
    ·dsimp only
     rw [show hgt n-(i+1)=l by omega,List.append_assoc];exact hpre
    ·dsimp only
     rw [show hgt n-(i+1)=l by omega]
     ((repeat' (first | with_reducible exact ar _ | exact am _ | refine aE ?_ ?_ | refine aG inferInstance ?_ | refine aX ?_))<;>(try with_reducible rfl))
  ·obtain rfl:i=hgt n:=by omega
   rw [Nat.sub_self,show cU L s bi 0= [] from rfl,List.append_nil] at hpre
   refine eE (m:=274) (e:=217) aU (some ⟨g0,0,none⟩) (hgt n+1) c0 ?_
   refine aS 0 ?_
   intro _ hc0 hm0 _
   (repeat' ((try refine aw ?_);(conv=>arg 4;whnf);first | refine az ?_ |(refine sN ?_;intro b)|(refine sC ?_ ?_<;>intro h)|(refine au ?_ ?_<;>intro h<;>try contradiction)|(refine aa ?_;intro g c')| refine ae ?_ | refine ai ?_ | exact ax |(refine aj rfl ?_;intro D lL)| refine af ?_ ?_ | refine ah ?_ ?_ ?_ | fail));(all_goals refine av ?_)
   refine je 0 ?_
   rw [hpre]
   exact aD (g0,hgt n+1) True.intro rfl (am _) bu
end
end Go.Proofs.YtbobhnldhpjdlaaGreatDoor
namespace Go.Proofs.YtbobhnldhpjdlaaGreatDoor
open Go Go.RowKit Go.Cs Go.Cz
set_option maxRecDepth 100000
set_option maxHeartbeats 4000000
section
variable {n:Nat} {k:Key} {d:SDsk} {I:DI} {L:List Rec} {s:List Nat} {dur:List Dig} {cell:Cel}
theorem HE {bi:Nat} {q:Value×Value} (h:DV n k d I L s dur cell) (hb:bi<n):Zp Tryz.prog 267 [vI n,vA (aJ d),vA (aL cell),vI bi] [] [Dm d I,Gs q] Unit (fun _=>True)
  (fun x=> .tuple #[vA (bY (L.getD bi Rec.zero)),vA (bW SPrb.zero),vI 0]) (fun _=> []) (fun x=> []):=by
 have hpl:=iE h.int.ok h.int.ll hb (aK L s (hgt n) 0) (Nat.le_refl _) (by rw [eV h.int hb])
 have h2:=h.int.bl.2
 refine ak fun G=> ?_
 (repeat' ((try refine aw ?_);(conv=>arg 4;whnf);first | refine az ?_ |(refine sN ?_;intro b)|(refine sC ?_ ?_<;>intro h)|(refine au ?_ ?_<;>intro h<;>try contradiction)|(refine aa ?_;intro g c')|(refine cw (D9 (q:=q) h hb) ?_;intro x hx;refine bV ?_)| refine ae ?_ | refine ai ?_ | exact ax |(refine aj rfl ?_;intro D lL)| refine af ?_ ?_ | refine ah ?_ ?_ ?_ | fail));(all_goals refine av ?_)
 refine aS 0 ?_
 intro hn hc hm ha
 rw [←hpl,ky]
 rw [hn]
 generalize hl:aK L s (hgt n) 0::cU L s bi (hgt n)=l
 have hlen:0<l.length:=by rw [←hl];simp
 rw [hl] at hn hpl
 by_cases hlv:(l.getD (l.length-1) Nod.zero).lv=0
 ·rw [if_pos hlv]
  have hlv':(l.getD (l.length-1) default).lv=0:=hlv
  (repeat' ((try refine aw ?_);(conv=>arg 4;whnf);first | refine az ?_ |(refine sN ?_;intro b)|(refine sC ?_ ?_<;>intro h)|(refine au ?_ ?_<;>intro h<;>try contradiction)|(refine aa ?_;intro g c')| refine ae ?_ | refine ai ?_ | exact ax |(refine aj rfl ?_;intro D lL)| refine af ?_ ?_ | refine ah ?_ ?_ ?_ | fail));(all_goals refine av ?_)
 ·rw [if_neg hlv]
  have hlv':¬(l.getD (l.length-1) default).lv=0:=hlv
  (repeat' ((try refine aw ?_);(conv=>arg 4;whnf);first | refine az ?_ |(refine sN ?_;intro b)|(refine sC ?_ ?_<;>intro h)|(refine au ?_ ?_<;>intro h<;>try contradiction)|(refine aa ?_;intro g c')| refine ae ?_ | refine ai ?_ | exact ax |(refine aj rfl ?_;intro D lL)| refine af ?_ ?_ | refine ah ?_ ?_ ?_ | fail));(all_goals refine av ?_)
end
theorem JT {P:Program} {f:FuncId} {args:List Value} {Oi:List It} {Fi Fi':List Pt} {X:Type} {p:X→Prop} {r:X→Value} {Oo:X→List It} {Fo:X→List Pt} (h:Zp P f args Oi Fi X p r Oo Fo) (hf:∀g∈Fi,g∈Fi'):Zp P f args Oi Fi' X p r Oo Fo:=
 ⟨h.en,fun w B hp=>h.go w B (hp.wk (fun w h1 h2=>⟨h1,h2,fun _ h=>h⟩) hf)⟩
section
variable {n bi:Nat} {d:SDsk} {I:DI} {k:Key} {r:Rec} {y:Dig} {q:Value×Value}
theorem If (h1:1≤n) (h2:n≤4096) (hb:bi<n) (hd:d.size=bas n (hgt n+1)) (hr:bS r=0) (h0:r.st=0):Zp Tryz.prog 48 [vI n,vA (aJ d),vA (bC k),vI bi,vA (bY r)] [] [] Unit (fun _=>True)
  (fun x=> .tuple #[vA (ay Dig.zero),vA (bW SPrb.zero),vI 0]) (fun _=> []) (fun x=> []):=by
 have hck:=nB (x:=r)
 rw [hr] at hck
 have hdt:=j9 h1 h2 hb (t:=0) (by omega)
 refine ak fun G=> ?_
 (repeat' ((try refine aw ?_);(conv=>arg 4;whnf);first | refine az ?_ |(refine sN ?_;intro b)|(refine sC ?_ ?_<;>intro h)|(refine au ?_ ?_<;>intro h<;>try contradiction)|(refine aa ?_;intro g c')|((first | refine aA (oB h1 h2 hd) ?_ | refine aA hdt ?_ | refine aA hck ?_);intro x hx;refine aH ?_)| refine ae ?_ | refine ai ?_ | exact ax |(refine aj rfl ?_;intro D lL)| refine af ?_ ?_ | refine ah ?_ ?_ ?_ | fail));(all_goals refine av ?_)
theorem Ee (h1:1≤n) (h2:n≤4096) (hb:bi<n) (hI:I.Ok) (hd:d.size=bas n (hgt n+1)) (hsz:I.size=bas n (hgt n+1)) (hr:bS r=0) (h0:r.st≠0) (hpv:I.pv (2*bi+(r.st-1))=some y.l) (ht:il k bi r.non y=r.tag):Zp Tryz.prog 48 [vI n,vA (aJ d),vA (bC k),vI bi,vA (bY r)] [] [Dm d I,Gs q] Unit (fun _=>True)
  (fun x=> .tuple #[vA (ay (cJ k r.non y)),vA (bW SPrb.zero),vI 0]) (fun _=> []) (fun x=> []):=by
 have hck:=nB (x:=r)
 rw [hr] at hck
 have hdt:=j9 h1 h2 hb (t:=0) (by omega)
 have hr2:=ei hr
 have hdt2:=j9 h1 h2 hb (t:=r.st-1) (by omega)
 have hsl:=kt hr2 h0
 have hs:2*bi+(r.st-1)<I.size:=by rw [hsz];have:=pY n (hgt n+1);omega
 have hyl:=y.h
 have hyb:y.l.length≤65536:=by omega
 have hi:bi<4096:=by omega
 refine ak fun G=> ?_
 (repeat' ((try refine aw ?_);(conv=>arg 4;whnf);first | refine az ?_ |(refine sN ?_;intro b)|(refine sC ?_ ?_<;>intro h)|(refine au ?_ ?_<;>intro h<;>try contradiction)|(refine aa ?_;intro g c')|((first | refine aA (oB h1 h2 hd) ?_ | refine aA hdt ?_ | refine aA hck ?_ | refine aA hsl ?_ | refine aA hdt2 ?_);intro x hx;refine aH ?_)|(refine cw (oW hI hs hpv hyb) ?_;intro x hx;refine bV ?_)| refine ae ?_ | refine ai ?_ | exact ax |(refine aj rfl ?_;intro D lL)| refine af ?_ ?_ | refine ah ?_ ?_ ?_ | fail));(all_goals refine av ?_)
 rename_i d0 kb ib rb o1 o2 u1 v1 vb eb u2 v2 u3 v3 u4 v4 u5 v5 cb db pb
 obtain ⟨xa,xn,xc⟩:=x
 refine aS 0 ?_
 intro hn hc hm ha
 dsimp only at hn hc hm ha
 obtain ⟨sb,o,rfl⟩:=ha (by omega) (by decide)
 subst hn
 refine fL b ([⟨some (.func 155, #[], #[vP eb 0]),1⟩,⟨some (.func 156, #[], #[vP cb 0,vP db 0]),5⟩,⟨some (.func 157, #[], #[vP kb 0,vP ib 0,vP rb 0,vP db 0,vP pb 0,vP eb 0]),6⟩].flatMap gI) rfl ?_
 revert b;intro qb
 refine fL db (bE Dig.zero.l) rfl ?_
 refine gJ 4 (bN ?_)
 (repeat' ((try refine aw ?_);(conv=>arg 4;whnf);first | refine aO ?_ |(refine sN ?_;intro b)|(refine sC ?_ ?_<;>intro h)|(refine au ?_ ?_<;>intro h<;>try contradiction)|(refine aa ?_;intro g c')| refine ae ?_ | refine ai ?_ | exact ax |(refine aj rfl ?_;intro D lL)| refine af ?_ ?_ | refine ah ?_ ?_ ?_ | fail));(all_goals refine av ?_)
 refine bN ?_
 (repeat' ((try refine aw ?_);(conv=>arg 4;whnf);first | refine aO ?_ |(refine sN ?_;intro b)|(refine sC ?_ ?_<;>intro h)|(refine au ?_ ?_<;>intro h<;>try contradiction)|(refine aa ?_;intro g c')| refine ae ?_ | refine ai ?_ | exact ax |(refine aj rfl ?_;intro D lL)| refine af ?_ ?_ | refine ah ?_ ?_ ?_ | fail));(all_goals refine av ?_)
 refine dH [db] rfl ?_
 (repeat' ((try refine aw ?_);(conv=>arg 4;whnf);first | refine aO ?_ |(refine sN ?_;intro b)|(refine sC ?_ ?_<;>intro h)|(refine au ?_ ?_<;>intro h<;>try contradiction)|(refine aa ?_;intro g c')| refine ae ?_ | refine ai ?_ | exact ax |(refine aj rfl ?_;intro D lL)| refine af ?_ ?_ | refine ah ?_ ?_ ?_ | fail));(all_goals refine av ?_)
 refine fL db (ay y) (by
  show bE (spl Dig.zero.l 0 (List.take (min y.l.length 32) y.l))=bE y.l
  have hz:Dig.zero.l.length=32:=Dig.zero.h
  rw [List.take_of_length_le (by omega),spl,List.drop_eq_nil_of_le (by omega)];simp) ?_
 refine bN ?_
 (repeat' ((try refine aw ?_);(conv=>arg 4;whnf);first | refine az ?_ |(refine sN ?_;intro b)|(refine sC ?_ ?_<;>intro h)|(refine au ?_ ?_<;>intro h<;>try contradiction)|(refine aa ?_;intro g c')|(refine aA (Fj (q:=q) (d:=y) hi ht) ?_;intro x hx;refine aH ?_)| refine ae ?_ | refine ai ?_ | exact ax |(refine aj rfl ?_;intro D lL)| refine af ?_ ?_ | refine ah ?_ ?_ ?_ | fail));(all_goals refine av ?_)
 refine bN ?_
 (repeat' ((try refine aw ?_);(conv=>arg 4;whnf);first | refine az ?_ |(refine sN ?_;intro b)|(refine sC ?_ ?_<;>intro h)|(refine au ?_ ?_<;>intro h<;>try contradiction)|(refine aa ?_;intro g c')|(refine aA zB ?_;intro x hx;refine aH ?_)| refine ae ?_ | refine ai ?_ | exact ax |(refine aj rfl ?_;intro D lL)| refine af ?_ ?_ | refine ah ?_ ?_ ?_ | fail));(all_goals refine av ?_)
theorem HF (h1:1≤n) (h2:n≤4096) (hb:bi<n) (hI:I.Ok) (hd:d.size=bas n (hgt n+1)) (hsz:I.size=bas n (hgt n+1)) (hr:bS r=0) (h0:r.st≠0) (hpv:I.pv (2*bi+(r.st-1))=some y.l) (ht:¬il k bi r.non y=r.tag):Zp Tryz.prog 48 [vI n,vA (aJ d),vA (bC k),vI bi,vA (bY r)] [] [Dm d I,Gs q] Unit (fun _=>True)
  (fun x=> .tuple #[vA (ay Dig.zero),vA (bW ⟨2*bi+(r.st-1),6⟩),vI 9]) (fun _=> []) (fun x=> []):=by
 have hck:=nB (x:=r)
 rw [hr] at hck
 have hdt:=j9 h1 h2 hb (t:=0) (by omega)
 have hr2:=ei hr
 have hdt2:=j9 h1 h2 hb (t:=r.st-1) (by omega)
 have hsl:=kt hr2 h0
 have hs:2*bi+(r.st-1)<I.size:=by rw [hsz];have:=pY n (hgt n+1);omega
 have hyl:=y.h
 have hyb:y.l.length≤65536:=by omega
 have hi:bi<4096:=by omega
 refine ak fun G=> ?_
 (repeat' ((try refine aw ?_);(conv=>arg 4;whnf);first | refine az ?_ |(refine sN ?_;intro b)|(refine sC ?_ ?_<;>intro h)|(refine au ?_ ?_<;>intro h<;>try contradiction)|(refine aa ?_;intro g c')|((first | refine aA (oB h1 h2 hd) ?_ | refine aA hdt ?_ | refine aA hck ?_ | refine aA hsl ?_ | refine aA hdt2 ?_);intro x hx;refine aH ?_)|(refine cw (oW hI hs hpv hyb) ?_;intro x hx;refine bV ?_)| refine ae ?_ | refine ai ?_ | exact ax |(refine aj rfl ?_;intro D lL)| refine af ?_ ?_ | refine ah ?_ ?_ ?_ | fail));(all_goals refine av ?_)
 rename_i d0 kb ib rb o1 o2 u1 v1 vb eb u2 v2 u3 v3 u4 v4 u5 v5 cb db pb
 obtain ⟨xa,xn,xc⟩:=x
 refine aS 0 ?_
 intro hn hc hm ha
 dsimp only at hn hc hm ha
 obtain ⟨sb,o,rfl⟩:=ha (by omega) (by decide)
 subst hn
 refine fL b ([⟨some (.func 155, #[], #[vP eb 0]),1⟩,⟨some (.func 156, #[], #[vP cb 0,vP db 0]),5⟩,⟨some (.func 157, #[], #[vP kb 0,vP ib 0,vP rb 0,vP db 0,vP pb 0,vP eb 0]),6⟩].flatMap gI) rfl ?_
 revert b;intro qb
 refine fL db (bE Dig.zero.l) rfl ?_
 refine gJ 4 (bN ?_)
 (repeat' ((try refine aw ?_);(conv=>arg 4;whnf);first | refine aO ?_ |(refine sN ?_;intro b)|(refine sC ?_ ?_<;>intro h)|(refine au ?_ ?_<;>intro h<;>try contradiction)|(refine aa ?_;intro g c')| refine ae ?_ | refine ai ?_ | exact ax |(refine aj rfl ?_;intro D lL)| refine af ?_ ?_ | refine ah ?_ ?_ ?_ | fail));(all_goals refine av ?_)
 refine bN ?_
 (repeat' ((try refine aw ?_);(conv=>arg 4;whnf);first | refine aO ?_ |(refine sN ?_;intro b)|(refine sC ?_ ?_<;>intro h)|(refine au ?_ ?_<;>intro h<;>try contradiction)|(refine aa ?_;intro g c')| refine ae ?_ | refine ai ?_ | exact ax |(refine aj rfl ?_;intro D lL)| refine af ?_ ?_ | refine ah ?_ ?_ ?_ | fail));(all_goals refine av ?_)
 refine dH [db] rfl ?_
 (repeat' ((try refine aw ?_);(conv=>arg 4;whnf);first | refine aO ?_ |(refine sN ?_;intro b)|(refine sC ?_ ?_<;>intro h)|(refine au ?_ ?_<;>intro h<;>try contradiction)|(refine aa ?_;intro g c')| refine ae ?_ | refine ai ?_ | exact ax |(refine aj rfl ?_;intro D lL)| refine af ?_ ?_ | refine ah ?_ ?_ ?_ | fail));(all_goals refine av ?_)
 refine fL db (ay y) (by
  show bE (spl Dig.zero.l 0 (List.take (min y.l.length 32) y.l))=bE y.l
  have hz:Dig.zero.l.length=32:=Dig.zero.h
  rw [List.take_of_length_le (by omega),spl,List.drop_eq_nil_of_le (by omega)];simp) ?_
 refine bN ?_
 (repeat' ((try refine aw ?_);(conv=>arg 4;whnf);first | refine az ?_ |(refine sN ?_;intro b)|(refine sC ?_ ?_<;>intro h)|(refine au ?_ ?_<;>intro h<;>try contradiction)|(refine aa ?_;intro g c')|((first | refine aA (FC (q:=q) (d:=y) hi ht) ?_ | refine aA (Gm (s:=2*bi+(r.st-1)) (f:=6) (by decide) (by decide)) ?_);intro x hx;refine aH ?_)| refine ae ?_ | refine ai ?_ | exact ax |(refine aj rfl ?_;intro D lL)| refine af ?_ ?_ | refine ah ?_ ?_ ?_ | fail));(all_goals refine av ?_)
end
section
variable {n:Nat} {k:Key} {d:SDsk} {I:DI} {L:List Rec} {s:List Nat} {dur:List Dig} {cell:Cel}
theorem EB {bi:Nat} {r:Rec} {v:Dig} {q:Value×Value} (h1:1≤n) (h2:n≤4096) (hb:bi<n) (hI:I.Ok) (hd:d.size=bas n (hgt n+1)) (hsz:I.size=bas n (hgt n+1)) (hr:bS r=0) (hH:Hold k I.con bi r v):Zp Tryz.prog 48 [vI n,vA (aJ d),vA (bC k),vI bi,vA (bY r)] [] [Dm d I,Gs q] Unit (fun _=>True)
  (fun x=> .tuple #[vA (ay v),vA (bW SPrb.zero),vI 0]) (fun _=> []) (fun x=> []):=by
 rcases hH with ⟨h0,rfl⟩|⟨h0,h3,h4⟩
 ·exact JT (If h1 h2 hb hd hr h0) (fun f hf=>by cases hf)
 ·have:=Ee (q:=q) (d:=d) h1 h2 hb hI hd hsz hr h0 (by rw [←DI.con_top];exact h3) h4.symm
  rwa [n7] at this
theorem II {bi:Nat} {q:Value×Value} (h:DV n k d I L s dur cell) (hb:bi<n):Zp Tryz.prog 205 [vI n,vA (aJ d),vA (aL cell),vA (bC k),vI bi] [] [Dm d I,Gs q] Unit (fun _=>True)
  (fun x=> .tuple #[vA (ay (dur.getD bi Dig.zero)),vA (bW SPrb.zero),vI 0]) (fun _=> []) (fun x=> []):=by
 have hr:bS (L.getD bi Rec.zero)=0:=h.int.ok.rc bi (by rw [h.int.ll];exact hb)
 have hdt:=EB (q:=q) (d:=d) h.int.bl.1 h.int.bl.2 hb h.ok h.sd h.si hr (h.int.dat bi hb)
 refine ak fun G=> ?_
 (repeat' ((try refine aw ?_);(conv=>arg 4;whnf);first | refine az ?_ |(refine sN ?_;intro b)|(refine sC ?_ ?_<;>intro h)|(refine au ?_ ?_<;>intro h<;>try contradiction)|(refine aa ?_;intro g c')|((first | refine aA (HE (q:=q) h hb) ?_ | refine aA hdt ?_);intro x hx;refine aH ?_)| refine ae ?_ | refine ai ?_ | exact ax |(refine aj rfl ?_;intro D lL)| refine af ?_ ?_ | refine ah ?_ ?_ ?_ | fail));(all_goals refine av ?_)
end
end Go.Proofs.YtbobhnldhpjdlaaGreatDoor
namespace Go.Proofs.YtbobhnldhpjdlaaGreatDoor
open Go Go.RowKit Go.Cs Go.Cz
set_option maxRecDepth 100000
set_option maxHeartbeats 4000000
section
variable {n:Nat} {k:Key} {d:SDsk} {I:DI} {L:List Rec} {s:List Nat} {dur:List Dig} {cell:Cel} {q:Value×Value}
theorem JF (h1:1≤n) (h2:n≤4096) (hd:d.size=bas n (hgt n+1)):Zp Tryz.prog 112 [vI n,vA (aJ d),vA (aL cell),vA (bC k)] [] [] Unit (fun _=>True) (fun _=> .tuple #[vA (bO ⟨n,d,cell,k⟩),vI 0]) (fun _=> []) (fun _=> []):=by
 refine ak fun G=> ?_
 (repeat' ((try refine aw ?_);(conv=>arg 4;whnf);first | refine az ?_ |(refine sN ?_;intro b)|(refine sC ?_ ?_<;>intro h)|(refine au ?_ ?_<;>intro h<;>try contradiction)|(refine aa ?_;intro g c')|(refine aA (Am h1 h2) ?_;intro x hx;refine aH ?_)| refine ae ?_ | refine ai ?_ | exact ax |(refine aj rfl ?_;intro D lL)| refine af ?_ ?_ | refine ah ?_ ?_ ?_ | fail));(all_goals refine av ?_)
theorem I9 {i:Nat} {y:Dig}:Zp Tryz.prog 127 [vI i,vA (ay y),vA (bW SPrb.zero)] [] [] Unit (fun _=>True) (fun _=> .tuple #[vA (ay y), .bool true, .bool false]) (fun _=> []) (fun _=> []):=by
 refine ak fun G=> ?_
 (repeat' ((try refine aw ?_);(conv=>arg 4;whnf);first | refine aO ?_ |(refine sN ?_;intro b)|(refine sC ?_ ?_<;>intro h)|(refine au ?_ ?_<;>intro h<;>try contradiction)|(refine aa ?_;intro g c')| refine ae ?_ | refine ai ?_ | exact ax |(refine aj rfl ?_;intro D lL)| refine af ?_ ?_ | refine ah ?_ ?_ ?_ | fail));(all_goals refine av ?_)
 refine bh ?_
 (conv=>arg 4;whnf)
 refine bc rfl ?_
 (repeat' ((try refine aw ?_);(conv=>arg 4;whnf);first | refine aO ?_ |(refine sN ?_;intro b)|(refine sC ?_ ?_<;>intro h)|(refine au ?_ ?_<;>intro h<;>try contradiction)|(refine aa ?_;intro g c')| refine ae ?_ | refine ai ?_ | exact ax |(refine aj rfl ?_;intro D lL)| refine af ?_ ?_ | refine ah ?_ ?_ ?_ | fail));(all_goals refine av ?_)
 (conv=>arg 4;arg 5;ext C;whnf)
 refine cR ?_ (yV rfl)
 (repeat' ((try refine aw ?_);(conv=>arg 4;whnf);first | refine az ?_ |(refine sN ?_;intro b)|(refine sC ?_ ?_<;>intro h)|(refine au ?_ ?_<;>intro h<;>try contradiction)|(refine aa ?_;intro g c')| refine ae ?_ | refine ai ?_ | exact ax |(refine aj rfl ?_;intro D lL)| refine af ?_ ?_ | refine ah ?_ ?_ ?_ | fail));(all_goals refine av ?_)
theorem J0 (h:DV n k d I L s dur cell):Zp Tryz.prog 126 [vA (bO ⟨n,d,cell,k⟩), .func (.func 127) #[] #[]] [] [Dm d I,Gs q] Sv (fun x=>x.2.1=n) (fun x=> .slice x.1 x.2.1 x.2.2) (fun _=> []) (fun x=> [Sl ay x.1 x.2.1 x.2.2 dur]):=by
 have h1:=h.int.bl.1
 have h2:=h.int.bl.2
 have hdl:=h.int.dl
 refine ak fun G=> ?_
 (repeat' ((try refine aw ?_);(conv=>arg 4;whnf);first | refine az ?_ |(refine sN ?_;intro b)|(refine sC ?_ ?_<;>intro h)|(refine au ?_ ?_<;>intro h<;>try contradiction)|(refine aa ?_;intro g c')| refine ae ?_ | refine ai ?_ | exact ax |(refine aj rfl ?_;intro D lL)| refine af ?_ ?_ | refine ah ?_ ?_ ?_ | fail));(all_goals refine av ?_)
 refine dh [] (X:=Nat×Option Addr×Nat) (fun x=> [(5, .slice x.2.1 x.1 x.2.2),(15,vI x.1)]) (fun x=>x.1≤n) (fun x=> [iN ay 32 x.2.1 x.1 x.2.2 52 (dur.take x.1)]) (fun x=>n-x.1) (0,none,0) (Nat.zero_le _) rfl (by ((repeat' (first | with_reducible exact ar _ | exact am _ | refine aE ?_ ?_ | refine aG inferInstance ?_ | refine aX ?_ | refine qT rfl ?_))<;>(try with_reducible rfl))) ?_
 rintro ⟨i,a,c⟩ hi
 (conv=>arg 2;simp only [List.cons_append,List.nil_append])
 dsimp only at hi⊢
 by_cases hlt:i<n
 ·(repeat' ((try refine aw ?_);(conv=>arg 4;whnf);first | refine az ?_ |(refine sN ?_;intro b)|(refine sC ?_ ?_<;>intro h)|(refine au ?_ ?_<;>intro h<;>try contradiction)|(refine aa ?_;intro g c')|((first | refine aA (II (q:=q) h hlt) ?_ | refine aA I9 ?_);intro x hx;refine aH ?_)| refine ae ?_ | refine ai ?_ | exact ax |(refine aj rfl ?_;intro D lL)| refine af ?_ ?_ | refine ah ?_ ?_ ?_ | fail));(all_goals refine av ?_)
  refine a5 (i+1,some ⟨g,0,none⟩,c') rfl hlt ?_ (by dsimp only;omega)
  dsimp only
  rw [show dur.take (i+1)=dur.take i++ [dur.getD i Dig.zero] by rw [List.take_succ_eq_append_getElem (by omega),←List.getElem_eq_getD (h:=by omega)]]
  ((repeat' (first | with_reducible exact ar _ | exact am _ | refine aE ?_ ?_ | refine aG inferInstance ?_ | refine aX ?_))<;>(try with_reducible rfl))
 ·obtain rfl:i=n:=by omega
  rw [List.take_of_length_le (by omega)]
  refine eE (m:=32) (e:=52) ay a i c ?_
  refine aS 0 ?_
  intro _ hc0 hm0 ha0
  obtain ⟨b1,o1,rfl⟩:=ha0 (by omega) (by decide)
  (repeat' ((try refine aw ?_);(conv=>arg 4;whnf);first | refine az ?_ |(refine sN ?_;intro b)|(refine sC ?_ ?_<;>intro h)|(refine au ?_ ?_<;>intro h<;>try contradiction)|(refine aa ?_;intro g c')| refine ae ?_ | refine ai ?_ | exact ax |(refine aj rfl ?_;intro D lL)| refine af ?_ ?_ | refine ah ?_ ?_ ?_ | fail));(all_goals refine av ?_)
  refine je 0 ?_
  exact aD (some ⟨b1,o1,none⟩,i,i) rfl rfl (am _) bu
theorem Fg (h:DV n k d I L s dur cell):Zp Tryz.prog 35 [vI n,vA (aJ d),vA (aL cell),vA (bC k)] [] [Dm d I,Gs q] Sv (fun x=>x.2.1=n) (fun x=> .tuple #[.slice x.1 x.2.1 x.2.2,vI 0,vI 0]) (fun _=> []) (fun x=> [Sl ay x.1 x.2.1 x.2.2 dur]):=by
 have h1:=h.int.bl.1
 have h2:=h.int.bl.2
 refine ak fun G=> ?_
 (repeat' ((try refine aw ?_);(conv=>arg 4;whnf);first | refine az ?_ |(refine sN ?_;intro b)|(refine sC ?_ ?_<;>intro h)|(refine au ?_ ?_<;>intro h<;>try contradiction)|(refine aa ?_;intro g c')|(refine aA (JF h1 h2 h.sd) ?_;intro x hx;refine aH ?_)|(refine cw (J0 (q:=q) h) ?_;intro x hx;refine bV ?_)| refine ae ?_ | refine ai ?_ | exact ax |(refine aj rfl ?_;intro D lL)| refine af ?_ ?_ | refine ah ?_ ?_ ?_ | fail));(all_goals refine av ?_)
 exact aD x hx rfl (am _) bu
end
end Go.Proofs.YtbobhnldhpjdlaaGreatDoor
