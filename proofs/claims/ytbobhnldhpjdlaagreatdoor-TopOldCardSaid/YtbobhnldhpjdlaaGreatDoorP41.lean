/- Lemmas and walks: what each function does, by its own code. No condition beyond those of each statement. -/
import Derived.Test.YtbobhnldhpjdlaaGreatDoorP11
import Derived.Test.YtbobhnldhpjdlaaGreatDoorP15
import Derived.Test.YtbobhnldhpjdlaaGreatDoorP28
import Derived.Test.YtbobhnldhpjdlaaGreatDoorP36
import Derived.Test.YtbobhnldhpjdlaaGreatDoorP39
set_option linter.all false
set_option linter.unusedVariables false
namespace Go.Proofs.YtbobhnldhpjdlaaGreatDoor
open Go Go.RowKit Go.Cs Go.Cz
set_option maxRecDepth 100000
set_option maxHeartbeats 4000000
section
variable {α:Type} {n v j l i:Nat} {f:Nat→Nat→α} {z:α}
def C5 (f:Nat→Nat→α) (z:α) (v j:Nat):Nat→Nat→α:=fun l i=>if v≤l∨(l+1=v∧i<j) then f l i else z
def eC (n:Nat) (f:Nat→Nat→α) (z:α) (v j:Nat):List α:=TX n (C5 f z v j)
theorem qP:(eC n f z v j).length=tot n:=fT _ _
theorem B0 (d:α) (hl:l≤hgt n) (hj:i<cnt n l) (h:v≤l):(eC n f z v j).getD (num n l+i) d=f l i:=by
 rw [eC,e7 d hl hj];exact if_pos (.inl h)
theorem rE (hl:l≤hgt n) (hj:j<cnt n l):(eC n f z (l+1) j).set (num n l+j) (f l j)=eC n f z (l+1) (j+1):=by
 rw [eC,o3 z _ hl hj]
 refine eu z fun a b ha hb=> ?_
 unfold C5
 by_cases h:a=l∧b=j
 ·obtain ⟨rfl,rfl⟩:=h
  rw [if_pos ⟨rfl,rfl⟩,if_pos (.inr ⟨rfl,by omega⟩)]
 ·rw [if_neg h]
  by_cases h1:l+1≤a∨(a+1=l+1∧b<j)
  ·rw [if_pos h1,if_pos (by omega)]
  ·rw [if_neg h1,if_neg (by omega)]
theorem qq:eC n f z (l+1) (cnt n l)=eC n f z l 0:=eu z fun a b ha hb=>by
 unfold C5
 by_cases h1:l≤a
 ·by_cases h2:a=l
  ·subst h2;rw [if_pos (.inr ⟨rfl,hb⟩),if_pos (.inl (Nat.le_refl _))]
  ·rw [if_pos (.inl (by omega)),if_pos (.inl h1)]
 ·rw [if_neg (by omega),if_neg (by omega)]
theorem oq:eC n f z 0 0=TX n f:=eu z fun a b ha hb=>if_pos (.inl (Nat.zero_le _))
theorem rO (h1:cnt n (hgt n)=1):(List.replicate (tot n) z).set (num n (hgt n)) (f (hgt n) 0)=eC n f z (hgt n) 0:=by
 have e:List.replicate (tot n) z=TX n (fun _ _=>z):=i6 z (by simp) fun l j hl hj=>by
  simp only [List.getD_eq_getElem?_getD,List.getElem?_replicate];split<;>rfl
 have:=o3 (n:=n) (f:=fun _ _=>z) (l:=hgt n) (j:=0) z (f (hgt n) 0) (Nat.le_refl _) (by omega)
 rw [Nat.add_zero] at this
 rw [e,this]
 refine eu z fun a b ha hb=> ?_
 unfold C5
 by_cases h:a=hgt n
 ·subst h
  rw [if_pos ⟨rfl,by omega⟩,if_pos (.inl (Nat.le_refl _)),show b=0 by omega]
 ·rw [if_neg (fun hh=>h hh.1),if_neg (by omega)]
end
def rQ (L:List Rec) (s:List Nat) (l j:Nat):Nat:=if l≠hgt L.length∧bK L l j=true then 1 else s.getD (num L.length l+j) 0
def ra (L:List Rec) (s:List Nat):List Nat:=TX L.length (rQ L s)
theorem lh {L:List Rec} {s:List Nat}:(ra L s).length=tot L.length:=fT _ _
theorem vG {L:List Rec} {s:List Nat} {l j:Nat} (hl:l≤hgt L.length) (hj:j<cnt L.length l):(ra L s).getD (num L.length l+j) 0=rQ L s l j:=e7 0 hl hj
theorem kC {L:List Rec} {S S':List Nat}:∀{v j:Nat},(∀l k,l<v→k<cnt L.length l→bK L l k=false→S.getD (num L.length l+k) 0=S'.getD (num L.length l+k) 0)→aK L S v j=aK L S' v j
 | 0,j,h=>by rw [aP,aP];exact cg (fun i hi=>rfl) (fun i hi=>by simp)
 | v+1,j,h=>by
  rw [aP,aP]
  refine cg (fun i hi=>by simp) (fun i hi=> ?_)
  by_cases hp:i<prt L.length (v+1) j
  ·have hc:4*j+i<cnt L.length v:=(bM hi).1 hp
   rw [if_pos ⟨hp,by omega⟩,if_pos ⟨hp,by omega⟩,Nat.add_sub_cancel]
   unfold cX
   by_cases he:bK L v (4*j+i)=true
   ·rw [if_pos he,if_pos he]
   ·rw [if_neg he,if_neg he]
    refine Ent.ext' ?_ ?_
    ·show (S.getD (num L.length v+(4*j+i)) 0+1)%2^8=(S'.getD (num L.length v+(4*j+i)) 0+1)%2^8
     rw [h v _ (Nat.lt_succ_self v) hc (by simpa using he)]
    ·show bI (aM (aK L S v (4*j+i)))=bI (aM (aK L S' v (4*j+i)))
     rw [kC (fun l k h1 h2=>h l k (by omega) h2)]
  ·rw [if_neg (fun hh=>hp hh.1),if_neg (fun hh=>hp hh.1)]
theorem z7 {L:List Rec} {S:List Nat} {l j:Nat} (hO:OkM L S) (he:bK L l j=true):aK L S l j=Nod.mt l j:=by
 rw [aP]
 refine zJ (fun w hw=> ?_) fun w hw=> ?_
 ·by_cases h:w<prt L.length l j∧l=0
  ·rw [if_pos h]
   obtain ⟨_,rfl⟩:=h
   by_cases hi:4*j+w<L.length
   ·exact A0 (hO.rc _ hi) (a9.1 he _ hi (show (4*j+w)/4=j by omega))
   ·rw [List.getD_eq_getElem?_getD,List.getElem?_eq_none (by omega)];rfl
  ·rw [if_neg h]
 ·by_cases h:w<prt L.length l j∧l≠0
  ·rw [if_pos h]
   obtain ⟨k,rfl⟩:∃k,l=k+1:=⟨l-1,by omega⟩
   exact if_pos (nS.1 he w hw)
  ·rw [if_neg h]
theorem A8 {L:List Rec} {s:List Nat} {l j:Nat} (hl:l≤hgt L.length):aK L (ra L s) l j=aK L s l j:=kC fun v i hv hi he=>by
 rw [vG (by omega) hi]
 exact if_neg (by rw [he];simp)
theorem xg {L:List Rec} {s:List Nat} (h:OkM L s):OkM L (ra L s):=⟨h.n1,h.n2,h.rc,lh,fun i=>by
 by_cases hi:i<(ra L s).length
 ·have h0:=hi
  rw [lh] at h0
  obtain ⟨a,b,c⟩:=rT h0
  have e:=vG (s:=s) a c
  rw [show num L.length (B7 L.length i)+(i-num L.length (B7 L.length i))=i by omega] at e
  rw [e]
  unfold rQ
  split
  ·exact Nat.le_refl _
  ·exact h.sl _
 ·rw [List.getD_eq_getElem?_getD,List.getElem?_eq_none (by omega)];exact Nat.zero_le _⟩
theorem xH {L:List Rec} {s:List Nat}:bJ L (ra L s)=bJ L s:=eu Nod.zero fun a b ha hb=>A8 ha
section
variable {n:Nat} {k:Key} {d:SDsk} {I:DI} {L:List Rec} {s:List Nat} {dur:List Dig} {cell:Cel} {q:Value×Value}
theorem HG (h:DV n k d I L s dur cell):Zp Tryz.prog 42 [vI n,vA (aJ d),vA (aL cell)] [] [Dm d I,Gs q] (Nat×Nat) (fun _=>True) (fun x=> .tuple #[vA (cy ⟨n,(some ⟨x.1,0,none⟩,tot n,tot n)⟩), .slice (some ⟨x.2,0,none⟩) (tot n) (tot n),vA (bW SPrb.zero),vI 0]) (fun _=> []) (fun x=> [Sl aU (some ⟨x.1,0,none⟩) (tot n) (tot n) (bJ L s),Sl cI (some ⟨x.2,0,none⟩) (tot n) (tot n) (ra L s)]):=by
 have h1:=h.int.bl.1
 have h2:=h.int.bl.2
 have h5:=a8 n
 have htl:=b9 h2
 have hte:=eR h1 h2
 obtain ⟨f1,f2,f3,f4⟩:=h.nd (Nat.le_refl _) (dk h1 (hgt n))
 have hr:=Il (q:=q) (d:=d) h1 h2 h.ok h.sd h.si h.top f1 f2 f3 f4 h.rootD
 have hc1:cnt n (hgt n)=1:=eg h1 h2
 have hns:=cz h2 (l:=hgt n) (by omega)
 refine ak fun G=> ?_
 (repeat' ((first | refine gC ?_ | refine dO ?_ | skip);(conv=>arg 4;whnf);first |(refine qa ?_;first | refine cu ?_ | refine bD ?_)|(refine pZ ?_;first | refine fD ?_ | refine fK ?_ | refine fx ?_ | refine fC ?_ | refine fA ?_ | refine fk ?_ | refine fI ?_ | refine ft ?_ | refine fF ?_ | refine fy ?_ | refine fE ?_ | refine fH ?_)|(refine p8 ?_;first | refine sL ?_ | refine m9 ?_ | refine nk ?_ | refine nh ?_)|(refine p9 ?_;first | refine sS ?_ | refine nj ?_)|(refine p5 ?_;first | refine ng ?_ |(refine sN ?_;intro b)|(refine sC ?_ ?_<;>intro h)|(refine dJ ?_ ?_<;>intro h<;>try contradiction)|(refine dG ?_ ?_<;>intro h<;>try contradiction)|(refine dW ?_ ?_<;>intro h<;>try contradiction)|(refine dL ?_ ?_<;>intro h<;>try contradiction)| refine fO ?_ | refine dp ?_ |(refine aa ?_;intro g c')| refine dq ?_)|(refine p3 ?_;(conv=>arg 4;arg 5;ext C;whnf);first | refine m7 ?_ | refine cR ?_ | refine nc ?_)|(refine p4 ?_;(conv=>arg 4;arg 6;ext C;whnf);first | refine mc ?_ | refine fJ ?_ | refine m8 ?_ | refine fG ?_)|(refine p6 ?_;first | refine fh ?_ | refine dw ?_)|(refine gN ?_;first |(refine aA (hr) ?_;intro x hx;try (conv=>arg 2;simp only [List.nil_append,List.cons_append]))|(refine aA (Ii h1 h2) ?_;intro x hx;try (conv=>arg 2;simp only [List.nil_append,List.cons_append]))|(refine aA (nL) ?_;intro x hx;try (conv=>arg 2;simp only [List.nil_append,List.cons_append]))| refine ae ?_ | refine ai ?_)| refine fa ?_ | refine dm (by assumption) ?_ | exact aD () True.intro rfl (am _)|(refine aj rfl ?_;intro D lL)| refine fB (st:= .ready) ?_ | refine dv ?_ | refine fg ?_ | refine fq ?_ | refine fP ?_ | refine fi ?_ | refine fN ?_ | refine af ?_ ?_ | refine ah ?_ ?_ ?_ |(refine p7 ?_;first | refine du ?_ |(refine fu ?_ ?_ (by first | exact fun _ h=>h | exact fun _ h=> .tail _ h | exact fun _ h=> .tail _ (.tail _ h)| exact fun _ h=> .tail _ (.tail _ (.tail _ h)));rotate_left;focus ((((repeat' (first | with_reducible exact ar _ | exact am _ | refine aE ?_ ?_ | refine aG inferInstance ?_ | refine aX ?_))<;>(try with_reducible rfl)))<;>fail)))| fail));(all_goals ((conv=>arg 4;whnf);try ((first | refine cu ?_ | refine bD ?_);conv=>arg 4;whnf)))
 rename_i db ceb trb pb _ _ rtb nb
 revert b;intro sb
 refine dH [nb,sb] rfl ?_
 (repeat' ((first | refine gC ?_ | refine dO ?_ | skip);(conv=>arg 4;whnf);first |(refine qa ?_;first | refine cu ?_ | refine bD ?_)|(refine pZ ?_;first | refine fD ?_ | refine fK ?_ | refine fx ?_ | refine fC ?_ | refine fA ?_ | refine fk ?_ | refine fI ?_ | refine ft ?_ | refine fF ?_ | refine fy ?_ | refine fE ?_ | refine fH ?_)|(refine p8 ?_;first | refine sL ?_ | refine m9 ?_ | refine nk ?_ | refine nh ?_)|(refine p9 ?_;first | refine sS ?_ | refine nj ?_)|(refine p5 ?_;first | refine ng ?_ |(refine sN ?_;intro b)|(refine sC ?_ ?_<;>intro h)|(refine dJ ?_ ?_<;>intro h<;>try contradiction)|(refine dG ?_ ?_<;>intro h<;>try contradiction)|(refine dW ?_ ?_<;>intro h<;>try contradiction)|(refine dL ?_ ?_<;>intro h<;>try contradiction)| refine fO ?_ | refine dp ?_ |(refine aa ?_;intro g c')| refine dq ?_)|(refine p3 ?_;(conv=>arg 4;arg 5;ext C;whnf);first | refine m7 ?_ | refine cR ?_ | refine nc ?_)|(refine p4 ?_;(conv=>arg 4;arg 6;ext C;whnf);first | refine mc ?_ | refine fJ ?_ | refine m8 ?_ | refine fG ?_)|(refine p6 ?_;first | refine fh ?_ | refine dw ?_)|(refine gN ?_;first |(refine aA (nL) ?_;intro x hx;try (conv=>arg 2;simp only [List.nil_append,List.cons_append]))| refine ae ?_ | refine ai ?_)| refine fa ?_ | refine dm (by assumption) ?_ | exact aD () True.intro rfl (am _)|(refine aj rfl ?_;intro D lL)| refine fB (st:= .ready) ?_ | refine dv ?_ | refine fg ?_ | refine fq ?_ | refine fP ?_ | refine fi ?_ | refine fN ?_ | refine af ?_ ?_ | refine ah ?_ ?_ ?_ |(refine p7 ?_;first | refine du ?_ |(refine fu ?_ ?_ (by first | exact fun _ h=>h | exact fun _ h=> .tail _ h | exact fun _ h=> .tail _ (.tail _ h)| exact fun _ h=> .tail _ (.tail _ (.tail _ h)));rotate_left;focus ((((repeat' (first | with_reducible exact ar _ | exact am _ | refine aE ?_ ?_ | refine aG inferInstance ?_ | refine aX ?_))<;>(try with_reducible rfl)))<;>fail)))| fail));(all_goals ((conv=>arg 4;whnf);try ((first | refine cu ?_ | refine bD ?_);conv=>arg 4;whnf)))
 have hlt0:(aK L s (hgt n) 0).lv≤5:=by rw [f2];exact h5
 refine nF (EH (by omega)) ?_
 rw [f2]
 have hll:=h.int.ll
 have hsl0:rQ L s (hgt n) 0=cell.ep%2:=by
  unfold rQ;rw [hll,if_neg (fun hh=>hh.1 rfl),Nat.add_zero];exact h.int.slot.symm
 rw [show tot n-1=num n (hgt n) by omega,rO (f:=aK L s) hc1,←hsl0,rO (f:=rQ L s) hc1]
 (repeat' ((first | refine gC ?_ | refine dO ?_ | skip);(conv=>arg 4;whnf);first |(refine qa ?_;first | refine cu ?_ | refine bD ?_)|(refine pZ ?_;first | refine fD ?_ | refine fK ?_ | refine fx ?_ | refine fC ?_ | refine fA ?_ | refine fk ?_ | refine fI ?_ | refine ft ?_ | refine fF ?_ | refine fy ?_ | refine fE ?_ | refine fH ?_)|(refine p8 ?_;first | refine sL ?_ | refine m9 ?_ | refine nk ?_ | refine nh ?_)|(refine p9 ?_;first | refine sS ?_ | refine nj ?_)|(refine p5 ?_;first | refine ng ?_ |(refine sN ?_;intro b)|(refine sC ?_ ?_<;>intro h)|(refine dJ ?_ ?_<;>intro h<;>try contradiction)|(refine dG ?_ ?_<;>intro h<;>try contradiction)|(refine dW ?_ ?_<;>intro h<;>try contradiction)|(refine dL ?_ ?_<;>intro h<;>try contradiction)| refine fO ?_ | refine dp ?_ |(refine aa ?_;intro g c')| refine dq ?_)|(refine p3 ?_;(conv=>arg 4;arg 5;ext C;whnf);first | refine m7 ?_ | refine cR ?_ | refine nc ?_)|(refine p4 ?_;(conv=>arg 4;arg 6;ext C;whnf);first | refine mc ?_ | refine fJ ?_ | refine m8 ?_ | refine fG ?_)|(refine p6 ?_;first | refine fh ?_ | refine dw ?_)|(refine gN ?_;first | refine ae ?_ | refine ai ?_)| refine fa ?_ | refine dm (by assumption) ?_ | exact aD () True.intro rfl (am _)|(refine aj rfl ?_;intro D lL)| refine fB (st:= .ready) ?_ | refine dv ?_ | refine fg ?_ | refine fq ?_ | refine fP ?_ | refine fi ?_ | refine fN ?_ | refine af ?_ ?_ | refine ah ?_ ?_ ?_ |(refine p7 ?_;first | refine du ?_ |(refine fu ?_ ?_ (by first | exact fun _ h=>h | exact fun _ h=> .tail _ h | exact fun _ h=> .tail _ (.tail _ h)| exact fun _ h=> .tail _ (.tail _ (.tail _ h)));rotate_left;focus ((((repeat' (first | with_reducible exact ar _ | exact am _ | refine aE ?_ ?_ | refine aG inferInstance ?_ | refine aX ?_))<;>(try with_reducible rfl)))<;>fail)))| fail));(all_goals ((conv=>arg 4;whnf);try ((first | refine cu ?_ | refine bD ?_);conv=>arg 4;whnf)))
 apply q4 [nb,sb,pb] (X:=Nat) (fun v=> [(7, .slice (some ⟨sb,0,none⟩) (tot n) (tot n)),(9,vI 0),(13,vI (num n v)),(14, .int .i64 ((v:Int)-1))]) (fun v=>v≤hgt n) (fun v=> [iB nb ((eC n (aK L s) Nod.zero v 0).flatMap aU) 217,iB sb ((eC n (rQ L s) 0 v 0).flatMap cI) 3,iB pb (bW SPrb.zero) 105]) (fun v=>v) (hgt n)
 ·exact Nat.le_refl _
 ·rfl
 ·((repeat' (first | with_reducible exact ar _ | exact am _ | refine aE ?_ ?_ | refine aG inferInstance ?_ | refine aX ?_))<;>(try with_reducible rfl))
 ·intro K H v hv
  (conv=>arg 2;simp only [List.cons_append,List.nil_append])
  by_cases hv0:v=0
  ·subst hv0
   (repeat' ((first | refine gC ?_ | refine dO ?_ | skip);(conv=>arg 4;whnf);first |(refine qa ?_;first | refine cu ?_ | refine bD ?_)|(refine pZ ?_;first | refine fD ?_ | refine fK ?_ | refine fx ?_ | refine fC ?_ | refine fA ?_ | refine fk ?_ | refine fI ?_ | refine ft ?_ | refine fF ?_ | refine fy ?_ | refine fE ?_ | refine fH ?_)|(refine p8 ?_;first | refine sL ?_ | refine m9 ?_ | refine nk ?_ | refine nh ?_)|(refine p9 ?_;first | refine sS ?_ | refine nj ?_)|(refine p5 ?_;first | refine ng ?_ |(refine sN ?_;intro b)|(refine sC ?_ ?_<;>intro h)|(refine dJ ?_ ?_<;>intro h<;>try contradiction)|(refine dG ?_ ?_<;>intro h<;>try contradiction)|(refine dW ?_ ?_<;>intro h<;>try contradiction)|(refine dL ?_ ?_<;>intro h<;>try contradiction)| refine fO ?_ | refine dp ?_ |(refine aa ?_;intro g c')| refine dq ?_)|(refine p3 ?_;(conv=>arg 4;arg 5;ext C;whnf);first | refine m7 ?_ | refine cR ?_ | refine nc ?_)|(refine p4 ?_;(conv=>arg 4;arg 6;ext C;whnf);first | refine mc ?_ | refine fJ ?_ | refine m8 ?_ | refine fG ?_)|(refine p6 ?_;first | refine fh ?_ | refine dw ?_)|(refine gN ?_;first | refine ae ?_ | refine ai ?_)| refine fa ?_ | refine dm (by assumption) ?_ | exact aD () True.intro rfl (am _)|(refine aj rfl ?_;intro D lL)| refine fB (st:= .ready) ?_ | refine dv ?_ | refine fg ?_ | refine fq ?_ | refine fP ?_ | refine fi ?_ | refine fN ?_ | refine af ?_ ?_ | refine ah ?_ ?_ ?_ |(refine p7 ?_;first | refine du ?_ |(refine fu ?_ ?_ (by first | exact fun _ h=>h | exact fun _ h=> .tail _ h | exact fun _ h=> .tail _ (.tail _ h)| exact fun _ h=> .tail _ (.tail _ (.tail _ h)));rotate_left;focus ((((repeat' (first | with_reducible exact ar _ | exact am _ | refine aE ?_ ?_ | refine aG inferInstance ?_ | refine aX ?_))<;>(try with_reducible rfl)))<;>fail)))| fail));(all_goals ((conv=>arg 4;whnf);try ((first | refine cu ?_ | refine bD ?_);conv=>arg 4;whnf)))
   exact H.go
  ·obtain ⟨l,rfl⟩:∃l,v=l+1:=⟨v-1,by omega⟩
   rw [show (((l+1:Nat):Int)-1)=((l:Nat):Int) by omega]
   have hcn:=cH n l
   have hnm:num n (l+1)=num n l+cnt n l:=rfl
   have hnl:=c7 n (l:=l+1) (m:=hgt n) hv
   (repeat' ((first | refine gC ?_ | refine dO ?_ | skip);(conv=>arg 4;whnf);first |(refine qa ?_;first | refine cu ?_ | refine bD ?_)|(refine pZ ?_;first | refine fD ?_ | refine fK ?_ | refine fx ?_ | refine fC ?_ | refine fA ?_ | refine fk ?_ | refine fI ?_ | refine ft ?_ | refine fF ?_ | refine fy ?_ | refine fE ?_ | refine fH ?_)|(refine p8 ?_;first | refine sL ?_ | refine m9 ?_ | refine nk ?_ | refine nh ?_)|(refine p9 ?_;first | refine sS ?_ | refine nj ?_)|(refine p5 ?_;first | refine ng ?_ |(refine sN ?_;intro b)|(refine sC ?_ ?_<;>intro h)|(refine dJ ?_ ?_<;>intro h<;>try contradiction)|(refine dG ?_ ?_<;>intro h<;>try contradiction)|(refine dW ?_ ?_<;>intro h<;>try contradiction)|(refine dL ?_ ?_<;>intro h<;>try contradiction)| refine fO ?_ | refine dp ?_ |(refine aa ?_;intro g c')| refine dq ?_)|(refine p3 ?_;(conv=>arg 4;arg 5;ext C;whnf);first | refine m7 ?_ | refine cR ?_ | refine nc ?_)|(refine p4 ?_;(conv=>arg 4;arg 6;ext C;whnf);first | refine mc ?_ | refine fJ ?_ | refine m8 ?_ | refine fG ?_)|(refine p6 ?_;first | refine fh ?_ | refine dw ?_)|(refine gN ?_;first |(refine aA (B1 h1 h2 (Nat.le_of_succ_le hv)) ?_;intro x hx;try (conv=>arg 2;simp only [List.nil_append,List.cons_append]))| refine ae ?_ | refine ai ?_)| refine fa ?_ | refine dm (by assumption) ?_ | exact aD () True.intro rfl (am _)|(refine aj rfl ?_;intro D lL)| refine fB (st:= .ready) ?_ | refine dv ?_ | refine fg ?_ | refine fq ?_ | refine fP ?_ | refine fi ?_ | refine fN ?_ | refine af ?_ ?_ | refine ah ?_ ?_ ?_ |(refine p7 ?_;first | refine du ?_ |(refine fu ?_ ?_ (by first | exact fun _ h=>h | exact fun _ h=> .tail _ h | exact fun _ h=> .tail _ (.tail _ h)| exact fun _ h=> .tail _ (.tail _ (.tail _ h)));rotate_left;focus ((((repeat' (first | with_reducible exact ar _ | exact am _ | refine aE ?_ ?_ | refine aG inferInstance ?_ | refine aX ?_))<;>(try with_reducible rfl)))<;>fail)))| fail));(all_goals ((conv=>arg 4;whnf);try ((first | refine cu ?_ | refine bD ?_);conv=>arg 4;whnf)))
   rw [show num n (l+1)-cnt n l=num n l by omega]
   apply q4 [nb,sb,pb] (X:=Nat) (fun j=> [(7, .slice (some ⟨sb,0,none⟩) (tot n) (tot n)),(9,vI 0),(79,vI j)]) (fun j=>j≤cnt n l) (fun j=> [iB nb ((eC n (aK L s) Nod.zero (l+1) j).flatMap aU) 217,iB sb ((eC n (rQ L s) 0 (l+1) j).flatMap cI) 3,iB pb (bW SPrb.zero) 105]) (fun j=>cnt n l-j) 0
   ·exact Nat.zero_le _
   ·rfl
   ·((repeat' (first | with_reducible exact ar _ | exact am _ | refine aE ?_ ?_ | refine aG inferInstance ?_ | refine aX ?_))<;>(try with_reducible rfl))
   ·intro K2 H2 j hj
    (conv=>arg 2;simp only [List.cons_append,List.nil_append])
    by_cases hlt:j<cnt n l
    ·have hupc:j/4<cnt n (l+1):=by show j/4<jR (cnt n l);unfold jR;omega
     have hpar:(eC n (aK L s) Nod.zero (l+1) j).getD (num n (l+1)+j/4) default=aK L s (l+1) (j/4):=B0 _ hv hupc (Nat.le_refl _)
     have hpl:=d7 (n:=n) (l:=l) (j:=j) (by omega) hlt
     have hpp:=d7 (n:=n) (l:=l+1) (j:=j/4) hv hupc
     have hw4:4*(j/4)+j%4=j:=by omega
     have hE:=h.ent (l:=l) (j:=j/4) (w:=j%4) hv hupc (Nat.mod_lt _ (by decide)) (by rw [hw4];exact hlt)
     rw [hw4] at hE
     have hset1:=rE (f:=aK L s) (z:=Nod.zero) (n:=n) (l:=l) (j:=j) (by omega) hlt
     have hset2:=rE (f:=rQ L s) (z:=0) (n:=n) (l:=l) (j:=j) (by omega) hlt
     have hlU:(eC n (aK L s) Nod.zero (l+1) j).length=tot n:=qP
     have hlV:(eC n (rQ L s) 0 (l+1) j).length=tot n:=qP
     by_cases he:bK L l j=true
     ·have hst:((aK L s (l+1) (j/4)).es.l.getD (j%4) default).st=0:=by
       show ((aK L s (l+1) (j/4)).es.get (j%4)).st=0
       rw [hE];exact (h.ent0 l _).2 he
      have hmt:Nod.mt l j=aK L s l j:=(z7 h.int.ok he).symm
      have hs1:rQ L s l j=1:=if_pos ⟨by rw [hll];omega,he⟩
      rw [←hpar] at hst
      rw [hs1] at hset2
      rw [←hmt] at hset1
      generalize eC n (aK L s) Nod.zero (l+1) j=U at*
      generalize eC n (rQ L s) 0 (l+1) j=V at*
      (repeat' ((first | refine gC ?_ | refine dO ?_ | skip);(conv=>arg 4;whnf);first |(refine qa ?_;first | refine cu ?_ | refine bD ?_)|(refine pZ ?_;first | refine fD ?_ | refine fK ?_ | refine fx ?_ | refine fC ?_ | refine fA ?_ | refine fk ?_ | refine fI ?_ | refine ft ?_ | refine fF ?_ | refine fy ?_ | refine fE ?_ | refine fH ?_)|(refine p8 ?_;first | refine sL ?_ | refine m9 ?_ | refine nk ?_ | refine nh ?_)|(refine p9 ?_;first | refine sS ?_ | refine nj ?_)|(refine p5 ?_;first | refine ng ?_ |(refine sN ?_;intro b)|(refine sC ?_ ?_<;>intro h)|(refine dJ ?_ ?_<;>intro h<;>try contradiction)|(refine dG ?_ ?_<;>intro h<;>try contradiction)|(refine dW ?_ ?_<;>intro h<;>try contradiction)|(refine dL ?_ ?_<;>intro h<;>try contradiction)| refine fO ?_ | refine dp ?_ |(refine aa ?_;intro g c')| refine dq ?_)|(refine p3 ?_;(conv=>arg 4;arg 5;ext C;whnf);first | refine m7 ?_ | refine cR ?_ | refine nc ?_)|(refine p4 ?_;(conv=>arg 4;arg 6;ext C;whnf);first | refine mc ?_ | refine fJ ?_ | refine m8 ?_ | refine fG ?_)|(refine p6 ?_;first | refine fh ?_ | refine dw ?_)|(refine gN ?_;first |(refine aA (wZ (lv:=l) (ix:=j) (by omega) (by omega)) ?_;intro x hx;try (conv=>arg 2;simp only [List.nil_append,List.cons_append]))|(refine aA (wH hst) ?_;intro x hx;try (conv=>arg 2;simp only [List.nil_append,List.cons_append]))| refine ae ?_ | refine ai ?_)| refine fa ?_ | refine dm (by assumption) ?_ | exact aD () True.intro rfl (am _)|(refine aj rfl ?_;intro D lL)| refine fB (st:= .ready) ?_ | refine dv ?_ | refine fg ?_ | refine fq ?_ | refine fP ?_ | refine fi ?_ | refine fN ?_ | refine af ?_ ?_ | refine ah ?_ ?_ ?_ |(refine p7 ?_;first | refine du ?_ |(refine fu ?_ ?_ (by first | exact fun _ h=>h | exact fun _ h=> .tail _ h | exact fun _ h=> .tail _ (.tail _ h)| exact fun _ h=> .tail _ (.tail _ (.tail _ h)));rotate_left;focus ((((repeat' (first | with_reducible exact ar _ | exact am _ | refine aE ?_ ?_ | refine aG inferInstance ?_ | refine aX ?_))<;>(try with_reducible rfl)))<;>fail)))| fail));(all_goals ((conv=>arg 4;whnf);try ((first | refine cu ?_ | refine bD ?_);conv=>arg 4;whnf)))
      refine a5 (j+1) rfl (by omega) ?_ (by omega)
      rw [←hset1,←hset2]
      ((repeat' (first | with_reducible exact ar _ | exact am _ | refine aE ?_ ?_ | refine aG inferInstance ?_ | refine aX ?_))<;>(try with_reducible rfl))
      all_goals rfl
     ·have he':bK L l j=false:=by simpa using he
      obtain ⟨e1,e2,e3⟩:=h.ent1 he'
      have hst:((aK L s (l+1) (j/4)).es.l.getD (j%4) default).st=s.getD (num n l+j) 0+1:=by
       show ((aK L s (l+1) (j/4)).es.get (j%4)).st=_
       rw [hE];exact e1
      have hch:=HU (q:=q) h (l:=l) (j:=j/4) (w:=j%4) hv hupc (Nat.mod_lt _ (by decide)) (by rw [hw4];exact hlt) (by rw [hw4];exact he')
      rw [hw4] at hch
      have hs1:rQ L s l j=s.getD (num n l+j) 0:=by unfold rQ;rw [hll];exact if_neg (by rw [he'];simp)
      rw [←hpar] at hst hch
      have hsl:=kt (st:=(((eC n (aK L s) Nod.zero (l+1) j).getD (num n (l+1)+j/4) default).es.l.getD (j%4) default).st) (by omega) (by omega)
      rw [hs1,show s.getD (num n l+j) 0=(((eC n (aK L s) Nod.zero (l+1) j).getD (num n (l+1)+j/4) default).es.l.getD (j%4) default).st-1 by omega] at hset2
      generalize eC n (aK L s) Nod.zero (l+1) j=U at*
      generalize eC n (rQ L s) 0 (l+1) j=V at*
      (repeat' ((first | refine gC ?_ | refine dO ?_ | skip);(conv=>arg 4;whnf);first |(refine qa ?_;first | refine cu ?_ | refine bD ?_)|(refine pZ ?_;first | refine fD ?_ | refine fK ?_ | refine fx ?_ | refine fC ?_ | refine fA ?_ | refine fk ?_ | refine fI ?_ | refine ft ?_ | refine fF ?_ | refine fy ?_ | refine fE ?_ | refine fH ?_)|(refine p8 ?_;first | refine sL ?_ | refine m9 ?_ | refine nk ?_ | refine nh ?_)|(refine p9 ?_;first | refine sS ?_ | refine nj ?_)|(refine p5 ?_;first | refine ng ?_ |(refine sN ?_;intro b)|(refine sC ?_ ?_<;>intro h)|(refine dJ ?_ ?_<;>intro h<;>try contradiction)|(refine dG ?_ ?_<;>intro h<;>try contradiction)|(refine dW ?_ ?_<;>intro h<;>try contradiction)|(refine dL ?_ ?_<;>intro h<;>try contradiction)| refine fO ?_ | refine dp ?_ |(refine aa ?_;intro g c')| refine dq ?_)|(refine p3 ?_;(conv=>arg 4;arg 5;ext C;whnf);first | refine m7 ?_ | refine cR ?_ | refine nc ?_)|(refine p4 ?_;(conv=>arg 4;arg 6;ext C;whnf);first | refine mc ?_ | refine fJ ?_ | refine m8 ?_ | refine fG ?_)|(refine p6 ?_;first | refine fh ?_ | refine dw ?_)|(refine gN ?_;first |(refine aA (wZ (lv:=l) (ix:=j) (by omega) (by omega)) ?_;intro x hx;try (conv=>arg 2;simp only [List.nil_append,List.cons_append]))|(refine aA (hsl) ?_;intro x hx;try (conv=>arg 2;simp only [List.nil_append,List.cons_append]))|(refine aA (hch) ?_;intro x hx;try (conv=>arg 2;simp only [List.nil_append,List.cons_append]))| refine ae ?_ | refine ai ?_)| refine fa ?_ | refine dm (by assumption) ?_ | exact aD () True.intro rfl (am _)|(refine aj rfl ?_;intro D lL)| refine fB (st:= .ready) ?_ | refine dv ?_ | refine fg ?_ | refine fq ?_ | refine fP ?_ | refine fi ?_ | refine fN ?_ | refine af ?_ ?_ | refine ah ?_ ?_ ?_ |(refine p7 ?_;first | refine du ?_ |(refine fu ?_ ?_ (by first | exact fun _ h=>h | exact fun _ h=> .tail _ h | exact fun _ h=> .tail _ (.tail _ h)| exact fun _ h=> .tail _ (.tail _ (.tail _ h)));rotate_left;focus ((((repeat' (first | with_reducible exact ar _ | exact am _ | refine aE ?_ ?_ | refine aG inferInstance ?_ | refine aX ?_))<;>(try with_reducible rfl)))<;>fail)))| fail));(all_goals ((conv=>arg 4;whnf);try ((first | refine cu ?_ | refine bD ?_);conv=>arg 4;whnf)))
      refine a5 (j+1) rfl (by omega) ?_ (by omega)
      rw [←hset1,←hset2]
      ((repeat' (first | with_reducible exact ar _ | exact am _ | refine aE ?_ ?_ | refine aG inferInstance ?_ | refine aX ?_))<;>(try with_reducible rfl))
      all_goals rfl
    ·obtain rfl:j=cnt n l:=by omega
     (repeat' ((first | refine gC ?_ | refine dO ?_ | skip);(conv=>arg 4;whnf);first |(refine qa ?_;first | refine cu ?_ | refine bD ?_)|(refine pZ ?_;first | refine fD ?_ | refine fK ?_ | refine fx ?_ | refine fC ?_ | refine fA ?_ | refine fk ?_ | refine fI ?_ | refine ft ?_ | refine fF ?_ | refine fy ?_ | refine fE ?_ | refine fH ?_)|(refine p8 ?_;first | refine sL ?_ | refine m9 ?_ | refine nk ?_ | refine nh ?_)|(refine p9 ?_;first | refine sS ?_ | refine nj ?_)|(refine p5 ?_;first | refine ng ?_ |(refine sN ?_;intro b)|(refine sC ?_ ?_<;>intro h)|(refine dJ ?_ ?_<;>intro h<;>try contradiction)|(refine dG ?_ ?_<;>intro h<;>try contradiction)|(refine dW ?_ ?_<;>intro h<;>try contradiction)|(refine dL ?_ ?_<;>intro h<;>try contradiction)| refine fO ?_ | refine dp ?_ |(refine aa ?_;intro g c')| refine dq ?_)|(refine p3 ?_;(conv=>arg 4;arg 5;ext C;whnf);first | refine m7 ?_ | refine cR ?_ | refine nc ?_)|(refine p4 ?_;(conv=>arg 4;arg 6;ext C;whnf);first | refine mc ?_ | refine fJ ?_ | refine m8 ?_ | refine fG ?_)|(refine p6 ?_;first | refine fh ?_ | refine dw ?_)|(refine gN ?_;first | refine ae ?_ | refine ai ?_)| refine fa ?_ | refine dm (by assumption) ?_ | exact aD () True.intro rfl (am _)|(refine aj rfl ?_;intro D lL)| refine fB (st:= .ready) ?_ | refine dv ?_ | refine fg ?_ | refine fq ?_ | refine fP ?_ | refine fi ?_ | refine fN ?_ | refine af ?_ ?_ | refine ah ?_ ?_ ?_ |(refine p7 ?_;first | refine du ?_ |(refine fu ?_ ?_ (by first | exact fun _ h=>h | exact fun _ h=> .tail _ h | exact fun _ h=> .tail _ (.tail _ h)| exact fun _ h=> .tail _ (.tail _ (.tail _ h)));rotate_left;focus ((((repeat' (first | with_reducible exact ar _ | exact am _ | refine aE ?_ ?_ | refine aG inferInstance ?_ | refine aX ?_))<;>(try with_reducible rfl)))<;>fail)))| fail));(all_goals ((conv=>arg 4;whnf);try ((first | refine cu ?_ | refine bD ?_);conv=>arg 4;whnf)))
     exact H2.go
   ·rw [qq,qq]
    (repeat' ((first | refine gC ?_ | refine dO ?_ | skip);(conv=>arg 4;whnf);first |(refine qa ?_;first | refine cu ?_ | refine bD ?_)|(refine pZ ?_;first | refine fD ?_ | refine fK ?_ | refine fx ?_ | refine fC ?_ | refine fA ?_ | refine fk ?_ | refine fI ?_ | refine ft ?_ | refine fF ?_ | refine fy ?_ | refine fE ?_ | refine fH ?_)|(refine p8 ?_;first | refine sL ?_ | refine m9 ?_ | refine nk ?_ | refine nh ?_)|(refine p9 ?_;first | refine sS ?_ | refine nj ?_)|(refine p5 ?_;first | refine ng ?_ |(refine sN ?_;intro b)|(refine sC ?_ ?_<;>intro h)|(refine dJ ?_ ?_<;>intro h<;>try contradiction)|(refine dG ?_ ?_<;>intro h<;>try contradiction)|(refine dW ?_ ?_<;>intro h<;>try contradiction)|(refine dL ?_ ?_<;>intro h<;>try contradiction)| refine fO ?_ | refine dp ?_ |(refine aa ?_;intro g c')| refine dq ?_)|(refine p3 ?_;(conv=>arg 4;arg 5;ext C;whnf);first | refine m7 ?_ | refine cR ?_ | refine nc ?_)|(refine p4 ?_;(conv=>arg 4;arg 6;ext C;whnf);first | refine mc ?_ | refine fJ ?_ | refine m8 ?_ | refine fG ?_)|(refine p6 ?_;first | refine fh ?_ | refine dw ?_)|(refine gN ?_;first | refine ae ?_ | refine ai ?_)| refine fa ?_ | refine dm (by assumption) ?_ | exact aD () True.intro rfl (am _)|(refine aj rfl ?_;intro D lL)| refine fB (st:= .ready) ?_ | refine dv ?_ | refine fg ?_ | refine fq ?_ | refine fP ?_ | refine fi ?_ | refine fN ?_ | refine af ?_ ?_ | refine ah ?_ ?_ ?_ |(refine p7 ?_;first | refine du ?_ |(refine fu ?_ ?_ (by first | exact fun _ h=>h | exact fun _ h=> .tail _ h | exact fun _ h=> .tail _ (.tail _ h)| exact fun _ h=> .tail _ (.tail _ (.tail _ h)));rotate_left;focus ((((repeat' (first | with_reducible exact ar _ | exact am _ | refine aE ?_ ?_ | refine aG inferInstance ?_ | refine aX ?_))<;>(try with_reducible rfl)))<;>fail)))| fail));(all_goals ((conv=>arg 4;whnf);try ((first | refine cu ?_ | refine bD ?_);conv=>arg 4;whnf)))
    refine nF (EH (by omega)) ?_
    (repeat' ((first | refine gC ?_ | refine dO ?_ | skip);(conv=>arg 4;whnf);first |(refine qa ?_;first | refine cu ?_ | refine bD ?_)|(refine pZ ?_;first | refine fD ?_ | refine fK ?_ | refine fx ?_ | refine fC ?_ | refine fA ?_ | refine fk ?_ | refine fI ?_ | refine ft ?_ | refine fF ?_ | refine fy ?_ | refine fE ?_ | refine fH ?_)|(refine p8 ?_;first | refine sL ?_ | refine m9 ?_ | refine nk ?_ | refine nh ?_)|(refine p9 ?_;first | refine sS ?_ | refine nj ?_)|(refine p5 ?_;first | refine ng ?_ |(refine sN ?_;intro b)|(refine sC ?_ ?_<;>intro h)|(refine dJ ?_ ?_<;>intro h<;>try contradiction)|(refine dG ?_ ?_<;>intro h<;>try contradiction)|(refine dW ?_ ?_<;>intro h<;>try contradiction)|(refine dL ?_ ?_<;>intro h<;>try contradiction)| refine fO ?_ | refine dp ?_ |(refine aa ?_;intro g c')| refine dq ?_)|(refine p3 ?_;(conv=>arg 4;arg 5;ext C;whnf);first | refine m7 ?_ | refine cR ?_ | refine nc ?_)|(refine p4 ?_;(conv=>arg 4;arg 6;ext C;whnf);first | refine mc ?_ | refine fJ ?_ | refine m8 ?_ | refine fG ?_)|(refine p6 ?_;first | refine fh ?_ | refine dw ?_)|(refine gN ?_;first | refine ae ?_ | refine ai ?_)| refine fa ?_ | refine dm (by assumption) ?_ | exact aD () True.intro rfl (am _)|(refine aj rfl ?_;intro D lL)| refine fB (st:= .ready) ?_ | refine dv ?_ | refine fg ?_ | refine fq ?_ | refine fP ?_ | refine fi ?_ | refine fN ?_ | refine af ?_ ?_ | refine ah ?_ ?_ ?_ |(refine p7 ?_;first | refine du ?_ |(refine fu ?_ ?_ (by first | exact fun _ h=>h | exact fun _ h=> .tail _ h | exact fun _ h=> .tail _ (.tail _ h)| exact fun _ h=> .tail _ (.tail _ (.tail _ h)));rotate_left;focus ((((repeat' (first | with_reducible exact ar _ | exact am _ | refine aE ?_ ?_ | refine aG inferInstance ?_ | refine aX ?_))<;>(try with_reducible rfl)))<;>fail)))| fail));(all_goals ((conv=>arg 4;whnf);try ((first | refine cu ?_ | refine bD ?_);conv=>arg 4;whnf)))
    exact a5 l rfl (by omega) (by ((repeat' (first | with_reducible exact ar _ | exact am _ | refine aE ?_ ?_ | refine aG inferInstance ?_ | refine aX ?_))<;>(try with_reducible rfl))) (by omega)
 ·have eT:eC n (aK L s) Nod.zero 0 0=bJ L s:=by rw [oq,bJ,hll]
  have eS:eC n (rQ L s) 0 0 0=ra L s:=by rw [oq,ra,hll]
  have hTl:(bJ L s).length=tot n:=by rw [nZ,hll]
  have hSl:(ra L s).length=tot n:=by rw [lh,hll]
  have hmc:=zh (q:=q) (ts:=bJ L s) (tb:=nb) (to:=0) (m:=tot n) (c:=tot n) h1 h2 hTl (by rw [←hll];exact mS h.int.ok)
  rw [eT,eS]
  refine eK (K:=aU) nb (tot n) (tot n) ?_ (hn:=⟨hTl.symm,Nat.le_refl _,by omega⟩)
  refine eK (K:=cI) sb (tot n) (tot n) ?_ (hn:=⟨hSl.symm,Nat.le_refl _,by omega⟩)
  (repeat' ((first | refine gC ?_ | refine dO ?_ | skip);(conv=>arg 4;whnf);first |(refine qa ?_;first | refine cu ?_ | refine bD ?_)|(refine pZ ?_;first | refine fD ?_ | refine fK ?_ | refine fx ?_ | refine fC ?_ | refine fA ?_ | refine fk ?_ | refine fI ?_ | refine ft ?_ | refine fF ?_ | refine fy ?_ | refine fE ?_ | refine fH ?_)|(refine p8 ?_;first | refine sL ?_ | refine m9 ?_ | refine nk ?_ | refine nh ?_)|(refine p9 ?_;first | refine sS ?_ | refine nj ?_)|(refine p5 ?_;first | refine ng ?_ |(refine sN ?_;intro b)|(refine sC ?_ ?_<;>intro h)|(refine dJ ?_ ?_<;>intro h<;>try contradiction)|(refine dG ?_ ?_<;>intro h<;>try contradiction)|(refine dW ?_ ?_<;>intro h<;>try contradiction)|(refine dL ?_ ?_<;>intro h<;>try contradiction)| refine fO ?_ | refine dp ?_ |(refine aa ?_;intro g c')| refine dq ?_)|(refine p3 ?_;(conv=>arg 4;arg 5;ext C;whnf);first | refine m7 ?_ | refine cR ?_ | refine nc ?_)|(refine p4 ?_;(conv=>arg 4;arg 6;ext C;whnf);first | refine mc ?_ | refine fJ ?_ | refine m8 ?_ | refine fG ?_)|(refine p6 ?_;first | refine fh ?_ | refine dw ?_)|(refine gN ?_;first |(refine aA (hmc) ?_;intro x hx;try (conv=>arg 2;simp only [List.nil_append,List.cons_append]))| refine ae ?_ | refine ai ?_)| refine fa ?_ | refine dm (by assumption) ?_ | exact aD () True.intro rfl (am _)|(refine aj rfl ?_;intro D lL)| refine fB (st:= .ready) ?_ | refine dv ?_ | refine fg ?_ | refine fq ?_ | refine fP ?_ | refine fi ?_ | refine fN ?_ | refine af ?_ ?_ | refine ah ?_ ?_ ?_ |(refine p7 ?_;first | refine du ?_ |(refine fu ?_ ?_ (by first | exact fun _ h=>h | exact fun _ h=> .tail _ h | exact fun _ h=> .tail _ (.tail _ h)| exact fun _ h=> .tail _ (.tail _ (.tail _ h)));rotate_left;focus ((((repeat' (first | with_reducible exact ar _ | exact am _ | refine aE ?_ ?_ | refine aG inferInstance ?_ | refine aX ?_))<;>(try with_reducible rfl)))<;>fail)))| fail));(all_goals ((conv=>arg 4;whnf);try ((first | refine cu ?_ | refine bD ?_);conv=>arg 4;whnf)))
  refine BD [6,7,8,9] ?_
  (conv=>arg 4;whnf)
  refine eD (X:=Unit) (fun x=> [(6,vP trb 0),(7, .slice (some ⟨sb,0,none⟩) (tot n) (tot n)),(8,vP pb 0),(9,vI 0)]) (fun _=>True) (fun x=> [iB pb (bW SPrb.zero) 105,iB trb (cy ⟨n,(some ⟨nb,0,none⟩,tot n,tot n)⟩) 128]) (fun _=> []) ?_ ?_
  ·intro K4
   refine uy rfl ?_
   (repeat' ((first | refine gC ?_ | refine dO ?_ | skip);(conv=>arg 4;whnf);first |(refine qa ?_;first | refine cu ?_ | refine bD ?_)|(refine pZ ?_;first | refine fD ?_ | refine fK ?_ | refine fx ?_ | refine fC ?_ | refine fA ?_ | refine fk ?_ | refine fI ?_ | refine ft ?_ | refine fF ?_ | refine fy ?_ | refine fE ?_ | refine fH ?_)|(refine p8 ?_;first | refine sL ?_ | refine m9 ?_ | refine nk ?_ | refine nh ?_)|(refine p9 ?_;first | refine sS ?_ | refine nj ?_)|(refine p5 ?_;first | refine ng ?_ |(refine sN ?_;intro b)|(refine sC ?_ ?_<;>intro h)|(refine dJ ?_ ?_<;>intro h<;>try contradiction)|(refine dG ?_ ?_<;>intro h<;>try contradiction)|(refine dW ?_ ?_<;>intro h<;>try contradiction)|(refine dL ?_ ?_<;>intro h<;>try contradiction)| refine fO ?_ | refine dp ?_ |(refine aa ?_;intro g c')| refine dq ?_)|(refine p3 ?_;(conv=>arg 4;arg 5;ext C;whnf);first | refine m7 ?_ | refine cR ?_ | refine nc ?_)|(refine p4 ?_;(conv=>arg 4;arg 6;ext C;whnf);first | refine mc ?_ | refine fJ ?_ | refine m8 ?_ | refine fG ?_)|(refine p6 ?_;first | refine fh ?_ | refine dw ?_)|(refine MJ ?_;first | refine A5 ?_ | refine q5 ?_)|(refine gN ?_;first | refine ae ?_ | refine ai ?_)| refine fa ?_ | refine dm (by assumption) ?_ | exact aD () True.intro rfl (am _)|(refine aj rfl ?_;intro D lL)| refine fB (st:= .ready) ?_ | refine dv ?_ | refine fg ?_ | refine fq ?_ | refine fP ?_ | refine fi ?_ | refine fN ?_ | refine af ?_ ?_ | refine ah ?_ ?_ ?_ |(refine p7 ?_;first | refine du ?_ |(refine fu ?_ ?_ (by first | exact fun _ h=>h | exact fun _ h=> .tail _ h | exact fun _ h=> .tail _ (.tail _ h)| exact fun _ h=> .tail _ (.tail _ (.tail _ h)));rotate_left;focus ((((repeat' (first | with_reducible exact ar _ | exact am _ | refine aE ?_ ?_ | refine aG inferInstance ?_ | refine aX ?_))<;>(try with_reducible rfl)))<;>fail)))| fail));(all_goals ((conv=>arg 4;whnf);try ((first | refine cu ?_ | refine bD ?_);conv=>arg 4;whnf)))
   all_goals exact d9 () True.intro (by ((repeat' (first | with_reducible exact ar _ | exact am _ | refine aE ?_ ?_ | refine aG inferInstance ?_ | refine aX ?_))<;>(try with_reducible rfl))) (by (repeat' (first | exact fun _ h=>absurd h List.not_mem_nil | refine List.forall_mem_cons.2 ⟨?_, ?_⟩))<;>(try dsimp only)<;>(repeat (first | with_reducible exact List.mem_cons_self | with_reducible apply List.mem_cons_of_mem)))
  intro _ _
  (conv=>arg 2;simp only [List.cons_append,List.nil_append])
  (conv=>arg 3;simp only [List.cons_append,List.nil_append])
  (repeat' ((first | refine gC ?_ | refine dO ?_ | skip);(conv=>arg 4;whnf);first |(refine qa ?_;first | refine cu ?_ | refine bD ?_)|(refine pZ ?_;first | refine fD ?_ | refine fK ?_ | refine fx ?_ | refine fC ?_ | refine fA ?_ | refine fk ?_ | refine fI ?_ | refine ft ?_ | refine fF ?_ | refine fy ?_ | refine fE ?_ | refine fH ?_)|(refine p8 ?_;first | refine sL ?_ | refine m9 ?_ | refine nk ?_ | refine nh ?_)|(refine p9 ?_;first | refine sS ?_ | refine nj ?_)|(refine p5 ?_;first | refine ng ?_ |(refine sN ?_;intro b)|(refine sC ?_ ?_<;>intro h)|(refine dJ ?_ ?_<;>intro h<;>try contradiction)|(refine dG ?_ ?_<;>intro h<;>try contradiction)|(refine dW ?_ ?_<;>intro h<;>try contradiction)|(refine dL ?_ ?_<;>intro h<;>try contradiction)| refine fO ?_ | refine dp ?_ |(refine aa ?_;intro g c')| refine dq ?_)|(refine p3 ?_;(conv=>arg 4;arg 5;ext C;whnf);first | refine m7 ?_ | refine cR ?_ | refine nc ?_)|(refine p4 ?_;(conv=>arg 4;arg 6;ext C;whnf);first | refine mc ?_ | refine fJ ?_ | refine m8 ?_ | refine fG ?_)|(refine p6 ?_;first | refine fh ?_ | refine dw ?_)|(refine gN ?_;first | refine ae ?_ | refine ai ?_)| refine fa ?_ | refine dm (by assumption) ?_ | exact aD () True.intro rfl (am _)|(refine aj rfl ?_;intro D lL)| refine fB (st:= .ready) ?_ | refine dv ?_ | refine fg ?_ | refine fq ?_ | refine fP ?_ | refine bF rfl rfl ?_ |(refine bh ?_;(conv=>arg 4;whnf);refine bc rfl ?_)| refine fi ?_ | refine fN ?_ | refine af ?_ ?_ | refine ah ?_ ?_ ?_ |(refine p7 ?_;first | refine du ?_ |(refine fu ?_ ?_ (by first | exact fun _ h=>h | exact fun _ h=> .tail _ h | exact fun _ h=> .tail _ (.tail _ h)| exact fun _ h=> .tail _ (.tail _ (.tail _ h)));rotate_left;focus ((((repeat' (first | with_reducible exact ar _ | exact am _ | refine aE ?_ ?_ | refine aG inferInstance ?_ | refine aX ?_))<;>(try with_reducible rfl)))<;>fail)))| fail));(all_goals ((conv=>arg 4;whnf);try ((first | refine cu ?_ | refine bD ?_);conv=>arg 4;whnf)))
  exact aD (nb,sb) True.intro rfl (am _) (by (repeat' (first | exact fun _ h=>absurd h List.not_mem_nil | refine List.forall_mem_cons.2 ⟨?_, ?_⟩))<;>(try dsimp only)<;>(repeat (first | with_reducible exact List.mem_cons_self | with_reducible apply List.mem_cons_of_mem)))
end
end Go.Proofs.YtbobhnldhpjdlaaGreatDoor
namespace Go.Proofs.YtbobhnldhpjdlaaGreatDoor
open Go Go.RowKit Go.Cs Go.Cz
set_option maxRecDepth 100000
set_option maxHeartbeats 4000000
section
variable {n:Nat} {k:Key} {d:SDsk} {I:DI} {L:List Rec} {s:List Nat} {dur:List Dig} {cell:Cel} {q:Value×Value}
theorem rV {L:List Rec} {s:List Nat} {n:Nat} (hO:OkM L s) (hll:L.length=n):Ei (tot n) (bJ L s) ((ra L s).map fun (x:Nat)=>(x:Int))=treW L (fls n) (ra L s):=by
 subst hll
 rw [←xH (s:=s)]
 exact ya (xg hO)
theorem Hy (h:DV n k d I L s dur cell):Zp Tryz.prog 39 [vI n,vA (aJ d),vA (aL cell)] [] [Dm d I,Gs q] Nat (fun _=>True) (fun x=> .tuple #[vA (aV ⟨n,(some ⟨x,0,none⟩,tot n,tot n)⟩),vA (bW SPrb.zero),vI 0]) (fun _=> []) (fun x=> [Sl a7 (some ⟨x,0,none⟩) (tot n) (tot n) (treW L (fls n) (ra L s))]):=by
 have h1:=h.int.bl.1
 have h2:=h.int.bl.2
 have hll:=h.int.ll
 have hTl:(bJ L s).length=tot n:=by rw [nZ,hll]
 have hSl:(ra L s).length=tot n:=by rw [lh,hll]
 have hO:=xg h.int.ok
 have hU:UOk n (treW L (fls n) (ra L s)):=by rw [←hll];exact UOk.treW (OkW.fls hO) rfl
 have hof:=fun (a b:Nat)=>H7 (q:=q) (ts:=bJ L s) (s:=ra L s) (tb:=a) (to:=0) (m:=tot n) (c:=tot n) (sb:=b) (so:=0) (ms:=tot n) (cs:=tot n) h1 h2 hTl (by rw [←hll];exact mS h.int.ok) hSl (fun i _=>hO.sl i) (by rw [hTl,rV h.int.ok hll];exact hU)
 rw [hTl,rV h.int.ok hll] at hof
 refine ak fun G=> ?_
 (repeat' ((try refine aw ?_);(conv=>arg 4;whnf);first | refine aO ?_ |(refine sN ?_;intro b)|(refine sC ?_ ?_<;>intro h)|(refine au ?_ ?_<;>intro h<;>try contradiction)|(refine aa ?_;intro g c')|(refine cw (HG (q:=q) h) ?_;intro x hx;refine bV ?_)| refine ai ?_ | exact ax |(refine aj rfl ?_;intro D lL)| refine af ?_ ?_ | refine ah ?_ ?_ ?_ | fail));(all_goals refine av ?_)
 obtain ⟨a,b⟩:=x
 dsimp only
 have hof1:=hof a b
 (repeat' ((try refine aw ?_);(conv=>arg 4;whnf);first | refine aO ?_ |(refine sN ?_;intro b)|(refine sC ?_ ?_<;>intro h)|(refine au ?_ ?_<;>intro h<;>try contradiction)|(refine aa ?_;intro g c')|(refine cw hof1 ?_;intro x hx;refine bV ?_)| refine ae ?_ | refine ai ?_ | exact ax |(refine aj rfl ?_;intro D lL)| refine af ?_ ?_ | refine ah ?_ ?_ ?_ | fail));(all_goals refine av ?_)
 trace_state
 (repeat' ((try refine aw ?_);(conv=>arg 4;whnf);first | refine az ?_ |(refine sN ?_;intro b)|(refine sC ?_ ?_<;>intro h)|(refine au ?_ ?_<;>intro h<;>try contradiction)|(refine aa ?_;intro g c')| refine ae ?_ | refine ai ?_ | exact ax |(refine aj rfl ?_;intro D lL)| refine af ?_ ?_ | refine ah ?_ ?_ ?_ | fail));(all_goals refine av ?_)
 exact aD x True.intro rfl (am _) bu
end
end Go.Proofs.YtbobhnldhpjdlaaGreatDoor
