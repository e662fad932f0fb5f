/- Lemmas and walks: what each function does, by its own code. No condition beyond those of each statement. -/
import Derived.Test.YtbobhnldhpjdlaaGreatDoorP24
import Derived.Test.YtbobhnldhpjdlaaGreatDoorP37
set_option linter.all false
set_option linter.unusedVariables false
namespace Go.Proofs.YtbobhnldhpjdlaaGreatDoor
open Go Go.RowKit Go.Cs Go.Cz
set_option maxRecDepth 100000
set_option maxHeartbeats 4000000
theorem k6 {L:List Rec} {s:List Nat} {b:Nat}:∀{v:Nat},(cU L s b v).length≤v∧(∀k,k<(cU L s b v).length→(cU L s b v).getD k default=aK L s (v-1-k) (idx b (v-1-k))∧bK L (v-1-k) (idx b (v-1-k))=false)∧((cU L s b v).length<v→bK L (v-1-(cU L s b v).length) (idx b (v-1-(cU L s b v).length))=true)
 | 0=>⟨Nat.le_refl _,fun k hk=>by simp [cU] at hk,fun h=>by omega⟩
 | v+1=>by
  by_cases he:bK L v (idx b v)=true
  ·rw [og he]
   refine ⟨Nat.zero_le _,fun k hk=>by simp at hk,fun _=>by simpa using he⟩
  ·have he':bK L v (idx b v)=false:=by simpa using he
   rw [xu he']
   obtain ⟨h1,h2,h3⟩:=k6 (L:=L) (s:=s) (b:=b) (v:=v)
   refine ⟨by simp only [List.length_cons];omega,fun k hk=> ?_,fun hlt=> ?_⟩
   ·cases k with
    | zero=>exact ⟨rfl,he'⟩
    | succ k=>
     simp only [List.length_cons] at hk
     have:=h2 k (by omega)
     rw [show v+1-1-(k+1)=v-1-k by omega]
     exact this
   ·simp only [List.length_cons] at hlt⊢
    have:=h3 (by omega)
    rw [show v+1-1-((cU L s b v).length+1)=v-1-(cU L s b v).length by omega]
    exact this
def cK (n:Nat) (L:List Rec) (s:List Nat) (b:Nat):List Nod:=aK L s (hgt n) 0::cU L s b (hgt n)
section
variable {n:Nat} {k:Key} {d:SDsk} {I:DI} {L:List Rec} {s:List Nat} {dur:List Dig} {cell:Cel} {q:Value×Value} {bi:Nat}
theorem mz:(cK n L s bi).length≤hgt n+1∧0<(cK n L s bi).length:=by
 have:=(k6 (L:=L) (s:=s) (b:=bi) (v:=hgt n)).1
 unfold cK;simp only [List.length_cons];omega
theorem u6 (h:DV n k d I L s dur cell) (hb:bi<n) {i:Nat} (hi:i<(cK n L s bi).length):(cK n L s bi).getD i default=aK L s (hgt n-i) (idx bi (hgt n-i)):=by
 cases i with
 | zero=>rw [Nat.sub_zero,eV h.int hb];rfl
 | succ i=>
  unfold cK at hi⊢
  simp only [List.length_cons] at hi
  have:=((k6 (L:=L) (s:=s) (b:=bi) (v:=hgt n)).2.1 i (by omega)).1
  rw [show hgt n-(i+1)=hgt n-1-i by omega]
  exact this
theorem lQ (hb:bi<n) {i:Nat} (hi:i<(cK n L s bi).length) (hi2:i+1<hgt n+1):bK L (hgt n-(i+1)) (idx bi (hgt n-(i+1)))=true↔i+1=(cK n L s bi).length:=by
 obtain ⟨h1,h2,h3⟩:=k6 (L:=L) (s:=s) (b:=bi) (v:=hgt n)
 have hl:(cK n L s bi).length=(cU L s bi (hgt n)).length+1:=rfl
 rw [hl] at hi⊢
 rw [show hgt n-(i+1)=hgt n-1-i by omega]
 constructor
 ·intro he
  refine Classical.byContradiction fun hne=> ?_
  have:=(h2 i (by omega)).2
  rw [he] at this;cases this
 ·intro he
  have e:i=(cU L s bi (hgt n)).length:=by omega
  rw [e]
  exact h3 (by omega)
theorem HP {pb c ab:Nat} (h:DV n k d I L s dur cell) (hb:bi<n):Zp Tryz.prog 150 [vI n,vA (ay cell.root),vA (dy ⟨bi,(some ⟨pb,0,none⟩,(cK n L s bi).length,c)⟩), .slice (some ⟨ab,0,none⟩) (hgt n+1) (hgt n+1)] [] [Sl aU (some ⟨pb,0,none⟩) (cK n L s bi).length c (cK n L s bi),Sl co (some ⟨ab,0,none⟩) (hgt n+1) (hgt n+1) (ec n bi),Gs q] Unit (fun _=>True) (fun _=> .nilIface) (fun _=> []) (fun _=> []):=by
 have h1:=h.int.bl.1
 have h2:=h.int.bl.2
 have h5:=a8 n
 obtain ⟨hlp,hl0⟩:=mz (n:=n) (L:=L) (s:=s) (bi:=bi)
 have hpl:=jr n bi
 have hnd:=fun i (hi:i<(cK n L s bi).length)=>u6 h hb hi
 have hem:=fun i (hi:i<(cK n L s bi).length) (hi2:i+1<hgt n+1)=>lQ (s:=s) (L:=L) hb hi hi2
 have h00:=hnd 0 hl0
 generalize hA:cK n L s bi=A at hlp hl0 hnd hem h00
 refine ak fun G=> ?_
 (repeat' ((first | refine gC ?_ | refine dO ?_ | skip);(conv=>arg 4;whnf);first |(refine qa ?_;first | refine cu ?_ | refine bD ?_)|(refine pZ ?_;first | refine fD ?_ | refine fK ?_ | refine fx ?_ | refine fC ?_ | refine fA ?_ | refine fk ?_ | refine fI ?_ | refine ft ?_ | refine fF ?_ | fail)|(refine p8 ?_;first | refine sL ?_ | fail)|(refine p9 ?_;first | refine sS ?_ | fail)|(refine p5 ?_;first | refine ng ?_ |(refine sN ?_;intro b)|(refine dG ?_ ?_<;>intro h<;>try contradiction)| fail)|(refine p3 ?_;(conv=>arg 4;arg 5;ext C;whnf);first | refine cR ?_ | refine nc ?_)|(refine p4 ?_;(conv=>arg 4;arg 6;ext C;whnf);first | refine mc ?_ | fail)|(refine p6 ?_;first | refine fh ?_ | refine dw ?_)|(refine gN ?_;first | refine ai ?_)| exact aD () True.intro rfl (am _)| refine fi ?_ | refine fN ?_ |(refine p7 ?_;first |(refine fu ?_ ?_ (by first | exact fun _ h=>h | exact fun _ h=> .tail _ h | exact fun _ h=> .tail _ (.tail _ h)| exact fun _ h=> .tail _ (.tail _ (.tail _ h)));rotate_left;focus ((((repeat' (first | with_reducible exact ar _ | exact am _ | refine aE ?_ ?_ | fail))<;>(try with_reducible rfl)))<;>fail)))| fail));(all_goals ((conv=>arg 4;whnf);try ((first | refine cu ?_ | refine bD ?_);conv=>arg 4;whnf)))
 rename_i rtb prb
 revert b;intro wb
 have hroot:cell.root=bI (aM (A.getD 0 default)):=by
  rw [h00,Nat.sub_zero,eV h.int hb];exact h.rootD.symm
 refine dh [wb] (X:=Nat×Dig) (fun x=> [(8, .nilIface),(19,vI x.1)]) (fun x=>x.1≤A.length∧(x.1<A.length→x.2=bI (aM (A.getD x.1 default)))) (fun x=> [iB wb (ay x.2) 66]) (fun x=>A.length-x.1) (0,cell.root) ⟨Nat.zero_le _,fun _=>hroot⟩ rfl (by ((repeat' (first | with_reducible exact ar _ | exact am _ | refine aE ?_ ?_ | fail))<;>(try with_reducible rfl))) ?_
 rintro ⟨i,wd⟩ ⟨hi,hwd⟩
 (conv=>arg 2;simp only [List.cons_append,List.nil_append])
 dsimp only at hi hwd⊢
 by_cases hlt:i<A.length
 ·obtain rfl:=hwd hlt
  have hAi:=hnd i hlt
  have hj:=bm hb (hgt n-i)
  obtain ⟨g1,g2,g3,g4⟩:=h.nd (l:=hgt n-i) (j:=idx bi (hgt n-i)) (by omega) hj
  rw [←hAi] at g1 g2 g3 g4
  have hpg:=lR (n:=n) (i:=bi) (k:=i) (by omega)
  have hpL:((ec n bi).getD i default).Level=hgt n-i:=by rw [show (ec n bi).getD i default=_ from hpg]
  have hpI:((ec n bi).getD i default).Index=idx bi (hgt n-i):=by rw [show (ec n bi).getD i default=_ from hpg]
  have hcn:=cH n (hgt n-i)
  by_cases hend:i+1=hgt n+1
  ·(repeat' ((first | refine gC ?_ | refine dO ?_ | skip);(conv=>arg 4;whnf);first |(refine qa ?_;first | refine cu ?_ | refine bD ?_)|(refine pZ ?_;first | refine fD ?_ | refine fK ?_ | refine fx ?_ | refine fC ?_ | refine fA ?_ | refine fk ?_ | refine fI ?_ | refine ft ?_ | refine fF ?_ | fail)|(refine p8 ?_;first | refine sL ?_ | fail)|(refine p9 ?_;first | refine sS ?_ | fail)|(refine p5 ?_;first | refine ng ?_ |(refine sN ?_;intro b)|(refine dG ?_ ?_<;>intro h<;>try contradiction)| fail)|(refine p3 ?_;(conv=>arg 4;arg 5;ext C;whnf);first | refine cR ?_ | refine nc ?_)|(refine p4 ?_;(conv=>arg 4;arg 6;ext C;whnf);first | refine mc ?_ | fail)|(refine p6 ?_;first | refine fh ?_ | refine dw ?_)|(refine gN ?_;first |(refine aA (kI (y:=A.getD i default) h1 h2 g4) ?_;intro x hx;try (conv=>arg 2;simp only [List.nil_append,List.cons_append]))|(refine aA (jB (q:=q) g1) ?_;intro x hx;try (conv=>arg 2;simp only [List.nil_append,List.cons_append]))| fail)| exact aD () True.intro rfl (am _)|(refine bh ?_;(conv=>arg 4;whnf);refine bc rfl ?_)| refine fi ?_ | refine fN ?_ |(refine p7 ?_;first |(refine fu ?_ ?_ (by first | exact fun _ h=>h | exact fun _ h=> .tail _ h | exact fun _ h=> .tail _ (.tail _ h)| exact fun _ h=> .tail _ (.tail _ (.tail _ h)));rotate_left;focus ((((repeat' (first | with_reducible exact ar _ | exact am _ | refine aE ?_ ?_ | fail))<;>(try with_reducible rfl)))<;>fail)))| fail));(all_goals ((conv=>arg 4;whnf);try ((first | refine cu ?_ | refine bD ?_);conv=>arg 4;whnf)))
  ·have hee:=hem i hlt (by omega)
   obtain ⟨l,hl⟩:∃l,hgt n-i=l+1:=⟨hgt n-i-1,by omega⟩
   have hl2:hgt n-(i+1)=l:=by omega
   rw [hl2] at hee
   rw [hl] at hAi g2 g3 hpL hpI hj hcn
   have hpg2:=lR (n:=n) (i:=bi) (k:=i+1) (by omega)
   have hpI2:((ec n bi).getD (i+1) default).Index=idx bi l:=by rw [show (ec n bi).getD (i+1) default=_ from hpg2,hl2]
   have hcn2:=cH n l
   have hix:4*idx bi (l+1)+idx bi l%4=idx bi l:=hJ bi l
   have hE:=h.ent (l:=l) (j:=idx bi (l+1)) (w:=idx bi l%4) (by omega) hj (Nat.mod_lt _ (by decide)) (by rw [hix];exact bm hb l)
   rw [hix,←hAi] at hE
   have hjl:=bm hb l
   have hE2:(A.getD i default).es.l.getD (((ec n bi).getD (i+1) default).Index%4) default=cX L s l (idx bi l):=by rw [hpI2];exact hE
   by_cases hlen:i+1=A.length
   ·have he:=hee.2 hlen
    have hst:((A.getD i default).es.l.getD (((ec n bi).getD (i+1) default).Index%4) default).st=0:=by rw [hE2];exact (h.ent0 l _).2 he
    (repeat' ((first | refine gC ?_ | refine dO ?_ | skip);(conv=>arg 4;whnf);first |(refine qa ?_;first | refine cu ?_ | refine bD ?_)|(refine pZ ?_;first | refine fD ?_ | refine fK ?_ | refine fx ?_ | refine fC ?_ | refine fA ?_ | refine fk ?_ | refine fI ?_ | refine ft ?_ | refine fF ?_ | fail)|(refine p8 ?_;first | refine sL ?_ | fail)|(refine p9 ?_;first | refine sS ?_ | fail)|(refine p5 ?_;first | refine ng ?_ |(refine sN ?_;intro b)|(refine dG ?_ ?_<;>intro h<;>try contradiction)| fail)|(refine p3 ?_;(conv=>arg 4;arg 5;ext C;whnf);first | refine cR ?_ | refine nc ?_)|(refine p4 ?_;(conv=>arg 4;arg 6;ext C;whnf);first | refine mc ?_ | fail)|(refine p6 ?_;first | refine fh ?_ | refine dw ?_)|(refine gN ?_;first |(refine aA (kI (y:=A.getD i default) h1 h2 g4) ?_;intro x hx;try (conv=>arg 2;simp only [List.nil_append,List.cons_append]))|(refine aA (jB (q:=q) g1) ?_;intro x hx;try (conv=>arg 2;simp only [List.nil_append,List.cons_append]))| fail)| exact aD () True.intro rfl (am _)|(refine bh ?_;(conv=>arg 4;whnf);refine bc rfl ?_)| refine fi ?_ | refine fN ?_ |(refine p7 ?_;first |(refine fu ?_ ?_ (by first | exact fun _ h=>h | exact fun _ h=> .tail _ h | exact fun _ h=> .tail _ (.tail _ h)| exact fun _ h=> .tail _ (.tail _ (.tail _ h)));rotate_left;focus ((((repeat' (first | with_reducible exact ar _ | exact am _ | refine aE ?_ ?_ | fail))<;>(try with_reducible rfl)))<;>fail)))| fail));(all_goals ((conv=>arg 4;whnf);try ((first | refine cu ?_ | refine bD ?_);conv=>arg 4;whnf)))
    exact jV (i+1,_) ⟨by omega,fun hh=>by dsimp only at hh;omega⟩ (by ((repeat' (first | with_reducible exact ar _ | exact am _ | refine aE ?_ ?_ | fail))<;>(try with_reducible rfl))) (by dsimp only;omega)
   ·have he:bK L l (idx bi l)=false:=by
     cases hq:bK L l (idx bi l) with
     | false=>rfl
     | true=>exact absurd (hee.1 hq) hlen
    obtain ⟨e1,e2,e3⟩:=h.ent1 he
    have hst:¬((A.getD i default).es.l.getD (((ec n bi).getD (i+1) default).Index%4) default).st=0:=by rw [hE2,e1];omega
    have hdg:((A.getD i default).es.l.getD (((ec n bi).getD (i+1) default).Index%4) default).dg=bI (aM (A.getD (i+1) default)):=by
     rw [hE2,e2,hnd (i+1) (by omega),hl2]
    (repeat' ((first | refine gC ?_ | refine dO ?_ | skip);(conv=>arg 4;whnf);first |(refine qa ?_;first | refine cu ?_ | refine bD ?_)|(refine pZ ?_;first | refine fD ?_ | refine fK ?_ | refine fx ?_ | refine fC ?_ | refine fA ?_ | refine fk ?_ | refine fI ?_ | refine ft ?_ | refine fF ?_ | fail)|(refine p8 ?_;first | refine sL ?_ | fail)|(refine p9 ?_;first | refine sS ?_ | fail)|(refine p5 ?_;first | refine ng ?_ |(refine sN ?_;intro b)|(refine dG ?_ ?_<;>intro h<;>try contradiction)| fail)|(refine p3 ?_;(conv=>arg 4;arg 5;ext C;whnf);first | refine cR ?_ | refine nc ?_)|(refine p4 ?_;(conv=>arg 4;arg 6;ext C;whnf);first | refine mc ?_ | fail)|(refine p6 ?_;first | refine fh ?_ | refine dw ?_)|(refine gN ?_;first |(refine aA (kI (y:=A.getD i default) h1 h2 g4) ?_;intro x hx;try (conv=>arg 2;simp only [List.nil_append,List.cons_append]))|(refine aA (jB (q:=q) g1) ?_;intro x hx;try (conv=>arg 2;simp only [List.nil_append,List.cons_append]))| fail)| exact aD () True.intro rfl (am _)|(refine bh ?_;(conv=>arg 4;whnf);refine bc rfl ?_)| refine fi ?_ | refine fN ?_ |(refine p7 ?_;first |(refine fu ?_ ?_ (by first | exact fun _ h=>h | exact fun _ h=> .tail _ h | exact fun _ h=> .tail _ (.tail _ h)| exact fun _ h=> .tail _ (.tail _ (.tail _ h)));rotate_left;focus ((((repeat' (first | with_reducible exact ar _ | exact am _ | refine aE ?_ ?_ | fail))<;>(try with_reducible rfl)))<;>fail)))| fail));(all_goals ((conv=>arg 4;whnf);try ((first | refine cu ?_ | refine bD ?_);conv=>arg 4;whnf)))
    exact jV (i+1,_) ⟨by omega,fun _=>hdg⟩ (by ((repeat' (first | with_reducible exact ar _ | exact am _ | refine aE ?_ ?_ | fail))<;>(try with_reducible rfl))) (by dsimp only;omega)
 ·obtain rfl:i=A.length:=by omega
  (repeat' ((first | refine gC ?_ | refine dO ?_ | skip);(conv=>arg 4;whnf);first |(refine qa ?_;first | refine cu ?_ | refine bD ?_)|(refine pZ ?_;first | refine fD ?_ | refine fK ?_ | refine fx ?_ | refine fC ?_ | refine fA ?_ | refine fk ?_ | refine fI ?_ | refine ft ?_ | refine fF ?_ | fail)|(refine p8 ?_;first | refine sL ?_ | fail)|(refine p9 ?_;first | refine sS ?_ | fail)|(refine p5 ?_;first | refine ng ?_ |(refine sN ?_;intro b)|(refine dG ?_ ?_<;>intro h<;>try contradiction)| fail)|(refine p3 ?_;(conv=>arg 4;arg 5;ext C;whnf);first | refine cR ?_ | refine nc ?_)|(refine p4 ?_;(conv=>arg 4;arg 6;ext C;whnf);first | refine mc ?_ | fail)|(refine p6 ?_;first | refine fh ?_ | refine dw ?_)|(refine gN ?_;first | refine ai ?_)| exact aD () True.intro rfl (am _)|(refine bh ?_;(conv=>arg 4;whnf);refine bc rfl ?_)| refine fi ?_ | refine fN ?_ |(refine p7 ?_;first |(refine fu ?_ ?_ (by first | exact fun _ h=>h | exact fun _ h=> .tail _ h | exact fun _ h=> .tail _ (.tail _ h)| exact fun _ h=> .tail _ (.tail _ (.tail _ h)));rotate_left;focus ((((repeat' (first | with_reducible exact ar _ | exact am _ | refine aE ?_ ?_ | fail))<;>(try with_reducible rfl)))<;>fail)))| fail));(all_goals ((conv=>arg 4;whnf);try ((first | refine cu ?_ | refine bD ?_);conv=>arg 4;whnf)))
end
end Go.Proofs.YtbobhnldhpjdlaaGreatDoor
