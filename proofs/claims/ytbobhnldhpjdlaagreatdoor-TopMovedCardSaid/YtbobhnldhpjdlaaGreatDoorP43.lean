/- Lemmas and walks: what each function does, by its own code. No condition beyond those of each statement. -/
import Derived.Test.YtbobhnldhpjdlaaGreatDoorP37
import Derived.Test.YtbobhnldhpjdlaaGreatDoorP42
set_option linter.all false
set_option linter.unusedVariables false
namespace Go.Proofs.YtbobhnldhpjdlaaGreatDoor
open Go Go.RowKit Go.Cs Go.Cz
set_option maxRecDepth 100000
set_option maxHeartbeats 4000000
theorem lM {L:List Rec} {s:List Nat} {b:Nat}:∀{v:Nat},(dE L s b v).length≤v∧(∀k,k<(dE L s b v).length→(dE L s b v).getD k default=aK L s (v-1-k) (idx b (v-1-k))∧cx L (v-1-k) (idx b (v-1-k))=false)∧((dE L s b v).length<v→cx L (v-1-(dE L s b v).length) (idx b (v-1-(dE L s b v).length))=true)
 | 0=>⟨Nat.le_refl _,fun k hk=>by simp [dE] at hk,fun h=>by omega⟩
 | v+1=>by
  by_cases he:cx L v (idx b v)=true
  ·rw [od he]
   refine ⟨Nat.zero_le _,fun k hk=>by simp at hk,fun _=>by simpa using he⟩
  ·have he':cx L v (idx b v)=false:=by simpa using he
   rw [xq he']
   obtain ⟨h1,h2,h3⟩:=lM (L:=L) (s:=s) (b:=b) (v:=v)
   refine ⟨by simp only [List.length_cons];omega,fun k hk=> ?_,fun hlt=> ?_⟩
   ·cases k with
    | zero=>exact ⟨rfl,he'⟩
    | succ k=>
     simp only [List.length_cons] at hk
     have:=h2 k (by omega)
     rw [show v+1-1-(k+1)=v-1-k by omega]
     exact this
   ·simp only [List.length_cons] at hlt⊢
    have:=h3 (by omega)
    rw [show v+1-1-((dE L s b v).length+1)=v-1-(dE L s b v).length by omega]
    exact this
def dy (n:Nat) (L:List Rec) (s:List Nat) (b:Nat):List Nod:=aK L s (hgt n) 0::dE L s b (hgt n)
section
variable {n:Nat} {k:Key} {d:SDsk} {I:DI} {L:List Rec} {s:List Nat} {dur:List Dig} {cell:Cel} {q:Value×Value} {bi:Nat}
theorem m7:(dy n L s bi).length≤hgt n+1∧0<(dy n L s bi).length:=by
 have:=(lM (L:=L) (s:=s) (b:=bi) (v:=hgt n)).1
 unfold dy;simp only [List.length_cons];omega
theorem uy (h:DV n k d I L s dur cell) (hb:bi<n) {i:Nat} (hi:i<(dy n L s bi).length):(dy n L s bi).getD i default=aK L s (hgt n-i) (idx bi (hgt n-i)):=by
 cases i with
 | zero=>rw [Nat.sub_zero,fU h.int hb];rfl
 | succ i=>
  unfold dy at hi⊢
  simp only [List.length_cons] at hi
  have:=((lM (L:=L) (s:=s) (b:=bi) (v:=hgt n)).2.1 i (by omega)).1
  rw [show hgt n-(i+1)=hgt n-1-i by omega]
  exact this
theorem mg (hb:bi<n) {i:Nat} (hi:i<(dy n L s bi).length) (hi2:i+1<hgt n+1):cx L (hgt n-(i+1)) (idx bi (hgt n-(i+1)))=true↔i+1=(dy n L s bi).length:=by
 obtain ⟨h1,h2,h3⟩:=lM (L:=L) (s:=s) (b:=bi) (v:=hgt n)
 have hl:(dy n L s bi).length=(dE L s bi (hgt n)).length+1:=rfl
 rw [hl] at hi⊢
 rw [show hgt n-(i+1)=hgt n-1-i by omega]
 constructor
 ·intro he
  refine Classical.byContradiction fun hne=> ?_
  have:=(h2 i (by omega)).2
  rw [he] at this;cases this
 ·intro he
  have e:i=(dE L s bi (hgt n)).length:=by omega
  rw [e]
  exact h3 (by omega)
theorem IV {pb c ab:Nat} (h:DV n k d I L s dur cell) (hb:bi<n):Zp Tryz.prog 150 [vI n,vA (aE cell.root),vA (d9 ⟨bi,(some ⟨pb,0,none⟩,(dy n L s bi).length,c)⟩), .slice (some ⟨ab,0,none⟩) (hgt n+1) (hgt n+1)] [] [Sl a7 (some ⟨pb,0,none⟩) (dy n L s bi).length c (dy n L s bi),Sl de (some ⟨ab,0,none⟩) (hgt n+1) (hgt n+1) (e8 n bi),Gs q] Unit (fun _=>True) (fun _=> .nilIface) (fun _=> []) (fun _=> []):=by
 have h1:=h.int.bl.1
 have h2:=h.int.bl.2
 have h5:=bu n
 obtain ⟨hlp,hl0⟩:=m7 (n:=n) (L:=L) (s:=s) (bi:=bi)
 have hpl:=jK n bi
 have hnd:=fun i (hi:i<(dy n L s bi).length)=>uy h hb hi
 have hem:=fun i (hi:i<(dy n L s bi).length) (hi2:i+1<hgt n+1)=>mg (s:=s) (L:=L) hb hi hi2
 have h00:=hnd 0 hl0
 generalize hA:dy n L s bi=A at hlp hl0 hnd hem h00
 refine an fun G=> ?_
 (repeat' ((first | refine ci ?_ | refine a5 ?_ | skip);(conv=>arg 4;whnf);first |(refine ew ?_;first | refine aH ?_ | refine az ?_)|(refine ej ?_;first | refine bJ ?_ | refine bO ?_ | refine bX ?_ | refine bT ?_ | refine b0 ?_ | refine bZ ?_ | refine bM ?_ | refine bN ?_ | refine bH ?_ | refine bG ?_ | refine bK ?_ | refine bR ?_)|(refine ey ?_;first | refine sL ?_ | refine dX ?_ | refine dZ ?_ | refine dW ?_)|(refine er ?_;first | refine sS ?_ | refine dU ?_)|(refine em ?_;first | refine da ?_ |(refine sN ?_;intro b)|(refine sC ?_ ?_<;>intro h)|(refine aY ?_ ?_<;>intro h<;>try contradiction)|(refine aX ?_ ?_<;>intro h<;>try contradiction)|(refine aZ ?_ ?_<;>intro h<;>try contradiction)|(refine a6 ?_ ?_<;>intro h<;>try contradiction)| refine b6 ?_ | refine aU ?_ |(refine aa ?_;intro g c')| refine aW ?_)|(refine ek ?_;(conv=>arg 4;arg 5;ext C;whnf);first | refine dV ?_ | refine bw ?_ | refine d4 ?_)|(refine ez ?_;(conv=>arg 4;arg 6;ext C;whnf);first | refine dR ?_ | refine bU ?_ | refine dY ?_ | refine bW ?_)|(refine eo ?_;first | refine bL ?_ | refine aR ?_)|(refine ck ?_;first | refine ae ?_ | refine ai ?_)| refine bF ?_ | refine aT (by assumption) ?_ | exact aG () True.intro rfl (af _)|(refine ak rfl ?_;intro D lL)| refine bV (st:= .ready) ?_ | refine aS ?_ | refine bE ?_ | refine bS ?_ | refine bI ?_ | refine bP ?_ | refine bQ ?_ | refine ah ?_ ?_ | refine aj ?_ ?_ ?_ |(refine et ?_;first | refine aV ?_ |(refine bY ?_ ?_ (by first | exact fun _ h=>h | exact fun _ h=> .tail _ h | exact fun _ h=> .tail _ (.tail _ h)| exact fun _ h=> .tail _ (.tail _ (.tail _ h)));rotate_left;focus ((((repeat' (first | with_reducible exact am _ | exact af _ | refine aB ?_ ?_ | refine aD inferInstance ?_ | refine aI ?_))<;>(try with_reducible rfl)))<;>fail)))| fail));(all_goals ((conv=>arg 4;whnf);try ((first | refine aH ?_ | refine az ?_);conv=>arg 4;whnf)))
 rename_i rtb prb
 revert b;intro wb
 have hroot:cell.root=cq (aL (A.getD 0 default)):=by
  rw [h00,Nat.sub_zero,fU h.int hb];exact h.rootD.symm
 refine eA [wb] (X:=Nat×Dig) (fun x=> [(8, .nilIface),(19,vI x.1)]) (fun x=>x.1≤A.length∧(x.1<A.length→x.2=cq (aL (A.getD x.1 default)))) (fun x=> [iB wb (aE x.2) 66]) (fun x=>A.length-x.1) (0,cell.root) ⟨Nat.zero_le _,fun _=>hroot⟩ rfl (by ((repeat' (first | with_reducible exact am _ | exact af _ | refine aB ?_ ?_ | refine aD inferInstance ?_ | refine aI ?_))<;>(try with_reducible rfl))) ?_
 rintro ⟨i,wd⟩ ⟨hi,hwd⟩
 (conv=>arg 2;simp only [List.cons_append,List.nil_append])
 dsimp only at hi hwd⊢
 by_cases hlt:i<A.length
 ·obtain rfl:=hwd hlt
  have hAi:=hnd i hlt
  have hj:=bC hb (hgt n-i)
  obtain ⟨g1,g2,g3,g4⟩:=h.nd (l:=hgt n-i) (j:=idx bi (hgt n-i)) (by omega) hj
  rw [←hAi] at g1 g2 g3 g4
  have hpg:=mv (n:=n) (i:=bi) (k:=i) (by omega)
  have hpL:((e8 n bi).getD i default).Level=hgt n-i:=by rw [show (e8 n bi).getD i default=_ from hpg]
  have hpI:((e8 n bi).getD i default).Index=idx bi (hgt n-i):=by rw [show (e8 n bi).getD i default=_ from hpg]
  have hcn:=dx n (hgt n-i)
  by_cases hend:i+1=hgt n+1
  ·(repeat' ((first | refine ci ?_ | refine a5 ?_ | skip);(conv=>arg 4;whnf);first |(refine ew ?_;first | refine aH ?_ | refine az ?_)|(refine ej ?_;first | refine bJ ?_ | refine bO ?_ | refine bX ?_ | refine bT ?_ | refine b0 ?_ | refine bZ ?_ | refine bM ?_ | refine bN ?_ | refine bH ?_ | refine bG ?_ | refine bK ?_ | refine bR ?_)|(refine ey ?_;first | refine sL ?_ | refine dX ?_ | refine dZ ?_ | refine dW ?_)|(refine er ?_;first | refine sS ?_ | refine dU ?_)|(refine em ?_;first | refine da ?_ |(refine sN ?_;intro b)|(refine sC ?_ ?_<;>intro h)|(refine aY ?_ ?_<;>intro h<;>try contradiction)|(refine aX ?_ ?_<;>intro h<;>try contradiction)|(refine aZ ?_ ?_<;>intro h<;>try contradiction)|(refine a6 ?_ ?_<;>intro h<;>try contradiction)| refine b6 ?_ | refine aU ?_ |(refine aa ?_;intro g c')| refine aW ?_)|(refine ek ?_;(conv=>arg 4;arg 5;ext C;whnf);first | refine dV ?_ | refine bw ?_ | refine d4 ?_)|(refine ez ?_;(conv=>arg 4;arg 6;ext C;whnf);first | refine dR ?_ | refine bU ?_ | refine dY ?_ | refine bW ?_)|(refine eo ?_;first | refine bL ?_ | refine aR ?_)|(refine ck ?_;first |(refine ay (k4 (y:=A.getD i default) h1 h2 g4) ?_;intro x hx;try (conv=>arg 2;simp only [List.nil_append,List.cons_append]))|(refine ay (jI (q:=q) g1) ?_;intro x hx;try (conv=>arg 2;simp only [List.nil_append,List.cons_append]))| refine ae ?_ | refine ai ?_)| refine bF ?_ | refine aT (by assumption) ?_ | exact aG () True.intro rfl (af _)|(refine ak rfl ?_;intro D lL)| refine bV (st:= .ready) ?_ | refine aS ?_ | refine bE ?_ | refine bS ?_ | refine bI ?_ | refine eY rfl rfl ?_ |(refine dT ?_;(conv=>arg 4;whnf);refine d5 rfl ?_)| refine bP ?_ | refine bQ ?_ | refine ah ?_ ?_ | refine aj ?_ ?_ ?_ |(refine et ?_;first | refine aV ?_ |(refine bY ?_ ?_ (by first | exact fun _ h=>h | exact fun _ h=> .tail _ h | exact fun _ h=> .tail _ (.tail _ h)| exact fun _ h=> .tail _ (.tail _ (.tail _ h)));rotate_left;focus ((((repeat' (first | with_reducible exact am _ | exact af _ | refine aB ?_ ?_ | refine aD inferInstance ?_ | refine aI ?_))<;>(try with_reducible rfl)))<;>fail)))| fail));(all_goals ((conv=>arg 4;whnf);try ((first | refine aH ?_ | refine az ?_);conv=>arg 4;whnf)))
  ·have hee:=hem i hlt (by omega)
   obtain ⟨l,hl⟩:∃l,hgt n-i=l+1:=⟨hgt n-i-1,by omega⟩
   have hl2:hgt n-(i+1)=l:=by omega
   rw [hl2] at hee
   rw [hl] at hAi g2 g3 hpL hpI hj hcn
   have hpg2:=mv (n:=n) (i:=bi) (k:=i+1) (by omega)
   have hpI2:((e8 n bi).getD (i+1) default).Index=idx bi l:=by rw [show (e8 n bi).getD (i+1) default=_ from hpg2,hl2]
   have hcn2:=dx n l
   have hix:4*idx bi (l+1)+idx bi l%4=idx bi l:=io bi l
   have hE:=h.ent (l:=l) (j:=idx bi (l+1)) (w:=idx bi l%4) (by omega) hj (Nat.mod_lt _ (by decide)) (by rw [hix];exact bC hb l)
   rw [hix,←hAi] at hE
   have hjl:=bC hb l
   have hE2:(A.getD i default).es.l.getD (((e8 n bi).getD (i+1) default).Index%4) default=dK L s l (idx bi l):=by rw [hpI2];exact hE
   by_cases hlen:i+1=A.length
   ·have he:=hee.2 hlen
    have hst:((A.getD i default).es.l.getD (((e8 n bi).getD (i+1) default).Index%4) default).st=0:=by rw [hE2];exact (h.ent0 l _).2 he
    (repeat' ((first | refine ci ?_ | refine a5 ?_ | skip);(conv=>arg 4;whnf);first |(refine ew ?_;first | refine aH ?_ | refine az ?_)|(refine ej ?_;first | refine bJ ?_ | refine bO ?_ | refine bX ?_ | refine bT ?_ | refine b0 ?_ | refine bZ ?_ | refine bM ?_ | refine bN ?_ | refine bH ?_ | refine bG ?_ | refine bK ?_ | refine bR ?_)|(refine ey ?_;first | refine sL ?_ | refine dX ?_ | refine dZ ?_ | refine dW ?_)|(refine er ?_;first | refine sS ?_ | refine dU ?_)|(refine em ?_;first | refine da ?_ |(refine sN ?_;intro b)|(refine sC ?_ ?_<;>intro h)|(refine aY ?_ ?_<;>intro h<;>try contradiction)|(refine aX ?_ ?_<;>intro h<;>try contradiction)|(refine aZ ?_ ?_<;>intro h<;>try contradiction)|(refine a6 ?_ ?_<;>intro h<;>try contradiction)| refine b6 ?_ | refine aU ?_ |(refine aa ?_;intro g c')| refine aW ?_)|(refine ek ?_;(conv=>arg 4;arg 5;ext C;whnf);first | refine dV ?_ | refine bw ?_ | refine d4 ?_)|(refine ez ?_;(conv=>arg 4;arg 6;ext C;whnf);first | refine dR ?_ | refine bU ?_ | refine dY ?_ | refine bW ?_)|(refine eo ?_;first | refine bL ?_ | refine aR ?_)|(refine ck ?_;first |(refine ay (k4 (y:=A.getD i default) h1 h2 g4) ?_;intro x hx;try (conv=>arg 2;simp only [List.nil_append,List.cons_append]))|(refine ay (jI (q:=q) g1) ?_;intro x hx;try (conv=>arg 2;simp only [List.nil_append,List.cons_append]))| refine ae ?_ | refine ai ?_)| refine bF ?_ | refine aT (by assumption) ?_ | exact aG () True.intro rfl (af _)|(refine ak rfl ?_;intro D lL)| refine bV (st:= .ready) ?_ | refine aS ?_ | refine bE ?_ | refine bS ?_ | refine bI ?_ | refine eY rfl rfl ?_ |(refine dT ?_;(conv=>arg 4;whnf);refine d5 rfl ?_)| refine bP ?_ | refine bQ ?_ | refine ah ?_ ?_ | refine aj ?_ ?_ ?_ |(refine et ?_;first | refine aV ?_ |(refine bY ?_ ?_ (by first | exact fun _ h=>h | exact fun _ h=> .tail _ h | exact fun _ h=> .tail _ (.tail _ h)| exact fun _ h=> .tail _ (.tail _ (.tail _ h)));rotate_left;focus ((((repeat' (first | with_reducible exact am _ | exact af _ | refine aB ?_ ?_ | refine aD inferInstance ?_ | refine aI ?_))<;>(try with_reducible rfl)))<;>fail)))| fail));(all_goals ((conv=>arg 4;whnf);try ((first | refine aH ?_ | refine az ?_);conv=>arg 4;whnf)))
    exact jj (i+1,_) ⟨by omega,fun hh=>by dsimp only at hh;omega⟩ (by ((repeat' (first | with_reducible exact am _ | exact af _ | refine aB ?_ ?_ | refine aD inferInstance ?_ | refine aI ?_))<;>(try with_reducible rfl))) (by dsimp only;omega)
   ·have he:cx L l (idx bi l)=false:=by
     cases hq:cx L l (idx bi l) with
     | false=>rfl
     | true=>exact absurd (hee.1 hq) hlen
    obtain ⟨e1,e2,e3⟩:=h.ent1 he
    have hst:¬((A.getD i default).es.l.getD (((e8 n bi).getD (i+1) default).Index%4) default).st=0:=by rw [hE2,e1];omega
    have hdg:((A.getD i default).es.l.getD (((e8 n bi).getD (i+1) default).Index%4) default).dg=cq (aL (A.getD (i+1) default)):=by
     rw [hE2,e2,hnd (i+1) (by omega),hl2]
    (repeat' ((first | refine ci ?_ | refine a5 ?_ | skip);(conv=>arg 4;whnf);first |(refine ew ?_;first | refine aH ?_ | refine az ?_)|(refine ej ?_;first | refine bJ ?_ | refine bO ?_ | refine bX ?_ | refine bT ?_ | refine b0 ?_ | refine bZ ?_ | refine bM ?_ | refine bN ?_ | refine bH ?_ | refine bG ?_ | refine bK ?_ | refine bR ?_)|(refine ey ?_;first | refine sL ?_ | refine dX ?_ | refine dZ ?_ | refine dW ?_)|(refine er ?_;first | refine sS ?_ | refine dU ?_)|(refine em ?_;first | refine da ?_ |(refine sN ?_;intro b)|(refine sC ?_ ?_<;>intro h)|(refine aY ?_ ?_<;>intro h<;>try contradiction)|(refine aX ?_ ?_<;>intro h<;>try contradiction)|(refine aZ ?_ ?_<;>intro h<;>try contradiction)|(refine a6 ?_ ?_<;>intro h<;>try contradiction)| refine b6 ?_ | refine aU ?_ |(refine aa ?_;intro g c')| refine aW ?_)|(refine ek ?_;(conv=>arg 4;arg 5;ext C;whnf);first | refine dV ?_ | refine bw ?_ | refine d4 ?_)|(refine ez ?_;(conv=>arg 4;arg 6;ext C;whnf);first | refine dR ?_ | refine bU ?_ | refine dY ?_ | refine bW ?_)|(refine eo ?_;first | refine bL ?_ | refine aR ?_)|(refine ck ?_;first |(refine ay (k4 (y:=A.getD i default) h1 h2 g4) ?_;intro x hx;try (conv=>arg 2;simp only [List.nil_append,List.cons_append]))|(refine ay (jI (q:=q) g1) ?_;intro x hx;try (conv=>arg 2;simp only [List.nil_append,List.cons_append]))| refine ae ?_ | refine ai ?_)| refine bF ?_ | refine aT (by assumption) ?_ | exact aG () True.intro rfl (af _)|(refine ak rfl ?_;intro D lL)| refine bV (st:= .ready) ?_ | refine aS ?_ | refine bE ?_ | refine bS ?_ | refine bI ?_ | refine eY rfl rfl ?_ |(refine dT ?_;(conv=>arg 4;whnf);refine d5 rfl ?_)| refine bP ?_ | refine bQ ?_ | refine ah ?_ ?_ | refine aj ?_ ?_ ?_ |(refine et ?_;first | refine aV ?_ |(refine bY ?_ ?_ (by first | exact fun _ h=>h | exact fun _ h=> .tail _ h | exact fun _ h=> .tail _ (.tail _ h)| exact fun _ h=> .tail _ (.tail _ (.tail _ h)));rotate_left;focus ((((repeat' (first | with_reducible exact am _ | exact af _ | refine aB ?_ ?_ | refine aD inferInstance ?_ | refine aI ?_))<;>(try with_reducible rfl)))<;>fail)))| fail));(all_goals ((conv=>arg 4;whnf);try ((first | refine aH ?_ | refine az ?_);conv=>arg 4;whnf)))
    exact jj (i+1,_) ⟨by omega,fun _=>hdg⟩ (by ((repeat' (first | with_reducible exact am _ | exact af _ | refine aB ?_ ?_ | refine aD inferInstance ?_ | refine aI ?_))<;>(try with_reducible rfl))) (by dsimp only;omega)
 ·obtain rfl:i=A.length:=by omega
  (repeat' ((first | refine ci ?_ | refine a5 ?_ | skip);(conv=>arg 4;whnf);first |(refine ew ?_;first | refine aH ?_ | refine az ?_)|(refine ej ?_;first | refine bJ ?_ | refine bO ?_ | refine bX ?_ | refine bT ?_ | refine b0 ?_ | refine bZ ?_ | refine bM ?_ | refine bN ?_ | refine bH ?_ | refine bG ?_ | refine bK ?_ | refine bR ?_)|(refine ey ?_;first | refine sL ?_ | refine dX ?_ | refine dZ ?_ | refine dW ?_)|(refine er ?_;first | refine sS ?_ | refine dU ?_)|(refine em ?_;first | refine da ?_ |(refine sN ?_;intro b)|(refine sC ?_ ?_<;>intro h)|(refine aY ?_ ?_<;>intro h<;>try contradiction)|(refine aX ?_ ?_<;>intro h<;>try contradiction)|(refine aZ ?_ ?_<;>intro h<;>try contradiction)|(refine a6 ?_ ?_<;>intro h<;>try contradiction)| refine b6 ?_ | refine aU ?_ |(refine aa ?_;intro g c')| refine aW ?_)|(refine ek ?_;(conv=>arg 4;arg 5;ext C;whnf);first | refine dV ?_ | refine bw ?_ | refine d4 ?_)|(refine ez ?_;(conv=>arg 4;arg 6;ext C;whnf);first | refine dR ?_ | refine bU ?_ | refine dY ?_ | refine bW ?_)|(refine eo ?_;first | refine bL ?_ | refine aR ?_)|(refine ck ?_;first | refine ae ?_ | refine ai ?_)| refine bF ?_ | refine aT (by assumption) ?_ | exact aG () True.intro rfl (af _)|(refine ak rfl ?_;intro D lL)| refine bV (st:= .ready) ?_ | refine aS ?_ | refine bE ?_ | refine bS ?_ | refine bI ?_ | refine eY rfl rfl ?_ |(refine dT ?_;(conv=>arg 4;whnf);refine d5 rfl ?_)| refine bP ?_ | refine bQ ?_ | refine ah ?_ ?_ | refine aj ?_ ?_ ?_ |(refine et ?_;first | refine aV ?_ |(refine bY ?_ ?_ (by first | exact fun _ h=>h | exact fun _ h=> .tail _ h | exact fun _ h=> .tail _ (.tail _ h)| exact fun _ h=> .tail _ (.tail _ (.tail _ h)));rotate_left;focus ((((repeat' (first | with_reducible exact am _ | exact af _ | refine aB ?_ ?_ | refine aD inferInstance ?_ | refine aI ?_))<;>(try with_reducible rfl)))<;>fail)))| fail));(all_goals ((conv=>arg 4;whnf);try ((first | refine aH ?_ | refine az ?_);conv=>arg 4;whnf)))
end
end Go.Proofs.YtbobhnldhpjdlaaGreatDoor
