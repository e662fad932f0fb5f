/- Lemmas and walks: what each function does, by its own code. No condition beyond those of each statement. -/
import Derived.Test.YtbobhnldhpjdlaaGreatDoorP10
import Derived.Test.YtbobhnldhpjdlaaGreatDoorP25
import Derived.Test.YtbobhnldhpjdlaaGreatDoorP36
import Derived.Test.YtbobhnldhpjdlaaGreatDoorP40
import Derived.Test.YtbobhnldhpjdlaaGreatDoorP42
set_option linter.all false
set_option linter.unusedVariables false
namespace Go.Proofs.YtbobhnldhpjdlaaGreatDoor
open Go Go.RowKit Go.Cs Go.Cz
set_option maxRecDepth 100000
set_option maxHeartbeats 4000000
section
variable {α:Type} {n v j l i:Nat} {f:Nat→Nat→α} {z:α}
def B5 (f:Nat→Nat→α) (z:α) (v j:Nat):Nat→Nat→α:=fun l i=>if v≤l∨(l+1=v∧i<j) then f l i else z
def ft (n:Nat) (f:Nat→Nat→α) (z:α) (v j:Nat):List α:=TX n (B5 f z v j)
theorem qv:(ft n f z v j).length=tot n:=gr _ _
theorem zX (d:α) (hl:l≤hgt n) (hj:i<cnt n l) (h:v≤l):(ft n f z v j).getD (num n l+i) d=f l i:=by
 rw [ft,fT d hl hj];exact if_pos (.inl h)
theorem q4 (hl:l≤hgt n) (hj:j<cnt n l):(ft n f z (l+1) j).set (num n l+j) (f l j)=ft n f z (l+1) (j+1):=by
 rw [ft,pT z _ hl hj]
 refine fc z fun a b ha hb=> ?_
 unfold B5
 by_cases h:a=l∧b=j
 ·obtain ⟨rfl,rfl⟩:=h
  rw [if_pos ⟨rfl,rfl⟩,if_pos (.inr ⟨rfl,by omega⟩)]
 ·rw [if_neg h]
  by_cases h1:l+1≤a∨(a+1=l+1∧b<j)
  ·rw [if_pos h1,if_pos (by omega)]
  ·rw [if_neg h1,if_neg (by omega)]
theorem qU:ft n f z (l+1) (cnt n l)=ft n f z l 0:=fc z fun a b ha hb=>by
 unfold B5
 by_cases h1:l≤a
 ·by_cases h2:a=l
  ·subst h2;rw [if_pos (.inr ⟨rfl,hb⟩),if_pos (.inl (Nat.le_refl _))]
  ·rw [if_pos (.inl (by omega)),if_pos (.inl h1)]
 ·rw [if_neg (by omega),if_neg (by omega)]
theorem og:ft n f z 0 0=TX n f:=fc z fun a b ha hb=>if_pos (.inl (Nat.zero_le _))
theorem qC (h1:cnt n (hgt n)=1):(List.replicate (tot n) z).set (num n (hgt n)) (f (hgt n) 0)=ft n f z (hgt n) 0:=by
 have e:List.replicate (tot n) z=TX n (fun _ _=>z):=jp z (by simp) fun l j hl hj=>by
  simp only [List.getD_eq_getElem?_getD,List.getElem?_replicate];split<;>rfl
 have:=pT (n:=n) (f:=fun _ _=>z) (l:=hgt n) (j:=0) z (f (hgt n) 0) (Nat.le_refl _) (by omega)
 rw [Nat.add_zero] at this
 rw [e,this]
 refine fc z fun a b ha hb=> ?_
 unfold B5
 by_cases h:a=hgt n
 ·subst h
  rw [if_pos ⟨rfl,by omega⟩,if_pos (.inl (Nat.le_refl _)),show b=0 by omega]
 ·rw [if_neg (fun hh=>h hh.1),if_neg (by omega)]
end
def r5 (L:List Rec) (s:List Nat) (l j:Nat):Nat:=if l≠hgt L.length∧cx L l j=true then 1 else s.getD (num L.length l+j) 0
def qz (L:List Rec) (s:List Nat):List Nat:=TX L.length (r5 L s)
theorem lK {L:List Rec} {s:List Nat}:(qz L s).length=tot L.length:=gr _ _
theorem uA {L:List Rec} {s:List Nat} {l j:Nat} (hl:l≤hgt L.length) (hj:j<cnt L.length l):(qz L s).getD (num L.length l+j) 0=r5 L s l j:=fT 0 hl hj
theorem kY {L:List Rec} {S S':List Nat}:∀{v j:Nat},(∀l k,l<v→k<cnt L.length l→cx L l k=false→S.getD (num L.length l+k) 0=S'.getD (num L.length l+k) 0)→aK L S v j=aK L S' v j
 | 0,j,h=>by rw [aP,aP];exact c5 (fun i hi=>rfl) (fun i hi=>by simp)
 | v+1,j,h=>by
  rw [aP,aP]
  refine c5 (fun i hi=>by simp) (fun i hi=> ?_)
  by_cases hp:i<prt L.length (v+1) j
  ·have hc:4*j+i<cnt L.length v:=(cy hi).1 hp
   rw [if_pos ⟨hp,by omega⟩,if_pos ⟨hp,by omega⟩,Nat.add_sub_cancel]
   unfold dK
   by_cases he:cx L v (4*j+i)=true
   ·rw [if_pos he,if_pos he]
   ·rw [if_neg he,if_neg he]
    refine Ent.ext' ?_ ?_
    ·show (S.getD (num L.length v+(4*j+i)) 0+1)%2^8=(S'.getD (num L.length v+(4*j+i)) 0+1)%2^8
     rw [h v _ (Nat.lt_succ_self v) hc (by simpa using he)]
    ·show cq (aL (aK L S v (4*j+i)))=cq (aL (aK L S' v (4*j+i)))
     rw [kY (fun l k h1 h2=>h l k (by omega) h2)]
  ·rw [if_neg (fun hh=>hp hh.1),if_neg (fun hh=>hp hh.1)]
theorem By {L:List Rec} {S:List Nat} {l j:Nat} (hO:OkM L S) (he:cx L l j=true):aK L S l j=Nod.mt l j:=by
 rw [aP]
 refine yS (fun w hw=> ?_) fun w hw=> ?_
 ·by_cases h:w<prt L.length l j∧l=0
  ·rw [if_pos h]
   obtain ⟨_,rfl⟩:=h
   by_cases hi:4*j+w<L.length
   ·exact zp (hO.rc _ hi) (bB.1 he _ hi (show (4*j+w)/4=j by omega))
   ·rw [List.getD_eq_getElem?_getD,List.getElem?_eq_none (by omega)];rfl
  ·rw [if_neg h]
 ·by_cases h:w<prt L.length l j∧l≠0
  ·rw [if_pos h]
   obtain ⟨k,rfl⟩:∃k,l=k+1:=⟨l-1,by omega⟩
   exact if_pos (oz.1 he w hw)
  ·rw [if_neg h]
theorem Am {L:List Rec} {s:List Nat} {l j:Nat} (hl:l≤hgt L.length):aK L (qz L s) l j=aK L s l j:=kY fun v i hv hi he=>by
 rw [uA (by omega) hi]
 exact if_neg (by rw [he];simp)
theorem xj {L:List Rec} {s:List Nat} (h:OkM L s):OkM L (qz L s):=⟨h.n1,h.n2,h.rc,lK,fun i=>by
 by_cases hi:i<(qz L s).length
 ·have h0:=hi
  rw [lK] at h0
  obtain ⟨a,b,c⟩:=qV h0
  have e:=uA (s:=s) a c
  rw [show num L.length (BU L.length i)+(i-num L.length (BU L.length i))=i by omega] at e
  rw [e]
  unfold r5
  split
  ·exact Nat.le_refl _
  ·exact h.sl _
 ·rw [List.getD_eq_getElem?_getD,List.getElem?_eq_none (by omega)];exact Nat.zero_le _⟩
theorem yu {L:List Rec} {s:List Nat}:cw L (qz L s)=cw L s:=fc Nod.zero fun a b ha hb=>Am ha
section
variable {n:Nat} {k:Key} {d:SDsk} {I:DI} {L:List Rec} {s:List Nat} {dur:List Dig} {cell:Cel} {q:Value×Value}
theorem I0 (h:DV n k d I L s dur cell):Zp Tryz.prog 42 [vI n,vA (aJ d),vA (aM cell)] [] [Dm d I,Gs q] (Nat×Nat) (fun _=>True) (fun x=> .tuple #[vA (di ⟨n,(some ⟨x.1,0,none⟩,tot n,tot n)⟩), .slice (some ⟨x.2,0,none⟩) (tot n) (tot n),vA (cJ SPrb.zero),vI 0]) (fun _=> []) (fun x=> [Sl a7 (some ⟨x.1,0,none⟩) (tot n) (tot n) (cw L s),Sl cI (some ⟨x.2,0,none⟩) (tot n) (tot n) (qz L s)]):=by
 have h1:=h.int.bl.1
 have h2:=h.int.bl.2
 have h5:=bu n
 have htl:=cV h2
 have hte:=fY h1 h2
 obtain ⟨f1,f2,f3,f4⟩:=h.nd (Nat.le_refl _) (dS h1 (hgt n))
 have hr:=Jl (q:=q) (d:=d) h1 h2 h.ok h.sd h.si h.top f1 f2 f3 f4 h.rootD
 have hc1:cnt n (hgt n)=1:=fa h1 h2
 have hns:=dk h2 (l:=hgt n) (by omega)
 refine an fun G=> ?_
 (repeat' ((first | refine ci ?_ | refine a5 ?_ | skip);(conv=>arg 4;whnf);first |(refine ew ?_;first | refine aH ?_ | refine az ?_)|(refine ej ?_;first | refine bJ ?_ | refine bO ?_ | refine bX ?_ | refine bT ?_ | refine b0 ?_ | refine bZ ?_ | refine bM ?_ | refine bN ?_ | refine bH ?_ | refine bG ?_ | refine bK ?_ | refine bR ?_)|(refine ey ?_;first | refine sL ?_ | refine dX ?_ | refine dZ ?_ | refine dW ?_)|(refine er ?_;first | refine sS ?_ | refine dU ?_)|(refine em ?_;first | refine da ?_ |(refine sN ?_;intro b)|(refine sC ?_ ?_<;>intro h)|(refine aY ?_ ?_<;>intro h<;>try contradiction)|(refine aX ?_ ?_<;>intro h<;>try contradiction)|(refine aZ ?_ ?_<;>intro h<;>try contradiction)|(refine a6 ?_ ?_<;>intro h<;>try contradiction)| refine b6 ?_ | refine aU ?_ |(refine aa ?_;intro g c')| refine aW ?_)|(refine ek ?_;(conv=>arg 4;arg 5;ext C;whnf);first | refine dV ?_ | refine bw ?_ | refine d4 ?_)|(refine ez ?_;(conv=>arg 4;arg 6;ext C;whnf);first | refine dR ?_ | refine bU ?_ | refine dY ?_ | refine bW ?_)|(refine eo ?_;first | refine bL ?_ | refine aR ?_)|(refine ck ?_;first |(refine ay (hr) ?_;intro x hx;try (conv=>arg 2;simp only [List.nil_append,List.cons_append]))|(refine ay (HT h1 h2) ?_;intro x hx;try (conv=>arg 2;simp only [List.nil_append,List.cons_append]))|(refine ay (nO) ?_;intro x hx;try (conv=>arg 2;simp only [List.nil_append,List.cons_append]))| refine ae ?_ | refine ai ?_)| refine bF ?_ | refine aT (by assumption) ?_ | exact aG () True.intro rfl (af _)|(refine ak rfl ?_;intro D lL)| refine bV (st:= .ready) ?_ | refine aS ?_ | refine bE ?_ | refine bS ?_ | refine bI ?_ | refine bP ?_ | refine bQ ?_ | refine ah ?_ ?_ | refine aj ?_ ?_ ?_ |(refine et ?_;first | refine aV ?_ |(refine bY ?_ ?_ (by first | exact fun _ h=>h | exact fun _ h=> .tail _ h | exact fun _ h=> .tail _ (.tail _ h)| exact fun _ h=> .tail _ (.tail _ (.tail _ h)));rotate_left;focus ((((repeat' (first | with_reducible exact am _ | exact af _ | refine aB ?_ ?_ | refine aD inferInstance ?_ | refine aI ?_))<;>(try with_reducible rfl)))<;>fail)))| fail));(all_goals ((conv=>arg 4;whnf);try ((first | refine aH ?_ | refine az ?_);conv=>arg 4;whnf)))
 rename_i db ceb trb pb _ _ rtb nb
 revert b;intro sb
 refine fy [nb,sb] rfl ?_
 (repeat' ((first | refine ci ?_ | refine a5 ?_ | skip);(conv=>arg 4;whnf);first |(refine ew ?_;first | refine aH ?_ | refine az ?_)|(refine ej ?_;first | refine bJ ?_ | refine bO ?_ | refine bX ?_ | refine bT ?_ | refine b0 ?_ | refine bZ ?_ | refine bM ?_ | refine bN ?_ | refine bH ?_ | refine bG ?_ | refine bK ?_ | refine bR ?_)|(refine ey ?_;first | refine sL ?_ | refine dX ?_ | refine dZ ?_ | refine dW ?_)|(refine er ?_;first | refine sS ?_ | refine dU ?_)|(refine em ?_;first | refine da ?_ |(refine sN ?_;intro b)|(refine sC ?_ ?_<;>intro h)|(refine aY ?_ ?_<;>intro h<;>try contradiction)|(refine aX ?_ ?_<;>intro h<;>try contradiction)|(refine aZ ?_ ?_<;>intro h<;>try contradiction)|(refine a6 ?_ ?_<;>intro h<;>try contradiction)| refine b6 ?_ | refine aU ?_ |(refine aa ?_;intro g c')| refine aW ?_)|(refine ek ?_;(conv=>arg 4;arg 5;ext C;whnf);first | refine dV ?_ | refine bw ?_ | refine d4 ?_)|(refine ez ?_;(conv=>arg 4;arg 6;ext C;whnf);first | refine dR ?_ | refine bU ?_ | refine dY ?_ | refine bW ?_)|(refine eo ?_;first | refine bL ?_ | refine aR ?_)|(refine ck ?_;first |(refine ay (nO) ?_;intro x hx;try (conv=>arg 2;simp only [List.nil_append,List.cons_append]))| refine ae ?_ | refine ai ?_)| refine bF ?_ | refine aT (by assumption) ?_ | exact aG () True.intro rfl (af _)|(refine ak rfl ?_;intro D lL)| refine bV (st:= .ready) ?_ | refine aS ?_ | refine bE ?_ | refine bS ?_ | refine bI ?_ | refine bP ?_ | refine bQ ?_ | refine ah ?_ ?_ | refine aj ?_ ?_ ?_ |(refine et ?_;first | refine aV ?_ |(refine bY ?_ ?_ (by first | exact fun _ h=>h | exact fun _ h=> .tail _ h | exact fun _ h=> .tail _ (.tail _ h)| exact fun _ h=> .tail _ (.tail _ (.tail _ h)));rotate_left;focus ((((repeat' (first | with_reducible exact am _ | exact af _ | refine aB ?_ ?_ | refine aD inferInstance ?_ | refine aI ?_))<;>(try with_reducible rfl)))<;>fail)))| fail));(all_goals ((conv=>arg 4;whnf);try ((first | refine aH ?_ | refine az ?_);conv=>arg 4;whnf)))
 have hlt0:(aK L s (hgt n) 0).lv≤5:=by rw [f2];exact h5
 refine nK (Em (by omega)) ?_
 rw [f2]
 have hll:=h.int.ll
 have hsl0:r5 L s (hgt n) 0=cell.ep%2:=by
  unfold r5;rw [hll,if_neg (fun hh=>hh.1 rfl),Nat.add_zero];exact h.int.slot.symm
 rw [show tot n-1=num n (hgt n) by omega,qC (f:=aK L s) hc1,←hsl0,qC (f:=r5 L s) hc1]
 (repeat' ((first | refine ci ?_ | refine a5 ?_ | skip);(conv=>arg 4;whnf);first |(refine ew ?_;first | refine aH ?_ | refine az ?_)|(refine ej ?_;first | refine bJ ?_ | refine bO ?_ | refine bX ?_ | refine bT ?_ | refine b0 ?_ | refine bZ ?_ | refine bM ?_ | refine bN ?_ | refine bH ?_ | refine bG ?_ | refine bK ?_ | refine bR ?_)|(refine ey ?_;first | refine sL ?_ | refine dX ?_ | refine dZ ?_ | refine dW ?_)|(refine er ?_;first | refine sS ?_ | refine dU ?_)|(refine em ?_;first | refine da ?_ |(refine sN ?_;intro b)|(refine sC ?_ ?_<;>intro h)|(refine aY ?_ ?_<;>intro h<;>try contradiction)|(refine aX ?_ ?_<;>intro h<;>try contradiction)|(refine aZ ?_ ?_<;>intro h<;>try contradiction)|(refine a6 ?_ ?_<;>intro h<;>try contradiction)| refine b6 ?_ | refine aU ?_ |(refine aa ?_;intro g c')| refine aW ?_)|(refine ek ?_;(conv=>arg 4;arg 5;ext C;whnf);first | refine dV ?_ | refine bw ?_ | refine d4 ?_)|(refine ez ?_;(conv=>arg 4;arg 6;ext C;whnf);first | refine dR ?_ | refine bU ?_ | refine dY ?_ | refine bW ?_)|(refine eo ?_;first | refine bL ?_ | refine aR ?_)|(refine ck ?_;first | refine ae ?_ | refine ai ?_)| refine bF ?_ | refine aT (by assumption) ?_ | exact aG () True.intro rfl (af _)|(refine ak rfl ?_;intro D lL)| refine bV (st:= .ready) ?_ | refine aS ?_ | refine bE ?_ | refine bS ?_ | refine bI ?_ | refine bP ?_ | refine bQ ?_ | refine ah ?_ ?_ | refine aj ?_ ?_ ?_ |(refine et ?_;first | refine aV ?_ |(refine bY ?_ ?_ (by first | exact fun _ h=>h | exact fun _ h=> .tail _ h | exact fun _ h=> .tail _ (.tail _ h)| exact fun _ h=> .tail _ (.tail _ (.tail _ h)));rotate_left;focus ((((repeat' (first | with_reducible exact am _ | exact af _ | refine aB ?_ ?_ | refine aD inferInstance ?_ | refine aI ?_))<;>(try with_reducible rfl)))<;>fail)))| fail));(all_goals ((conv=>arg 4;whnf);try ((first | refine aH ?_ | refine az ?_);conv=>arg 4;whnf)))
 apply sq [nb,sb,pb] (X:=Nat) (fun v=> [(7, .slice (some ⟨sb,0,none⟩) (tot n) (tot n)),(9,vI 0),(13,vI (num n v)),(14, .int .i64 ((v:Int)-1))]) (fun v=>v≤hgt n) (fun v=> [iB nb ((ft n (aK L s) Nod.zero v 0).flatMap a7) 217,iB sb ((ft n (r5 L s) 0 v 0).flatMap cI) 3,iB pb (cJ SPrb.zero) 105]) (fun v=>v) (hgt n)
 ·exact Nat.le_refl _
 ·rfl
 ·((repeat' (first | with_reducible exact am _ | exact af _ | refine aB ?_ ?_ | refine aD inferInstance ?_ | refine aI ?_))<;>(try with_reducible rfl))
 ·intro K H v hv
  (conv=>arg 2;simp only [List.cons_append,List.nil_append])
  by_cases hv0:v=0
  ·subst hv0
   (repeat' ((first | refine ci ?_ | refine a5 ?_ | skip);(conv=>arg 4;whnf);first |(refine ew ?_;first | refine aH ?_ | refine az ?_)|(refine ej ?_;first | refine bJ ?_ | refine bO ?_ | refine bX ?_ | refine bT ?_ | refine b0 ?_ | refine bZ ?_ | refine bM ?_ | refine bN ?_ | refine bH ?_ | refine bG ?_ | refine bK ?_ | refine bR ?_)|(refine ey ?_;first | refine sL ?_ | refine dX ?_ | refine dZ ?_ | refine dW ?_)|(refine er ?_;first | refine sS ?_ | refine dU ?_)|(refine em ?_;first | refine da ?_ |(refine sN ?_;intro b)|(refine sC ?_ ?_<;>intro h)|(refine aY ?_ ?_<;>intro h<;>try contradiction)|(refine aX ?_ ?_<;>intro h<;>try contradiction)|(refine aZ ?_ ?_<;>intro h<;>try contradiction)|(refine a6 ?_ ?_<;>intro h<;>try contradiction)| refine b6 ?_ | refine aU ?_ |(refine aa ?_;intro g c')| refine aW ?_)|(refine ek ?_;(conv=>arg 4;arg 5;ext C;whnf);first | refine dV ?_ | refine bw ?_ | refine d4 ?_)|(refine ez ?_;(conv=>arg 4;arg 6;ext C;whnf);first | refine dR ?_ | refine bU ?_ | refine dY ?_ | refine bW ?_)|(refine eo ?_;first | refine bL ?_ | refine aR ?_)|(refine ck ?_;first | refine ae ?_ | refine ai ?_)| refine bF ?_ | refine aT (by assumption) ?_ | exact aG () True.intro rfl (af _)|(refine ak rfl ?_;intro D lL)| refine bV (st:= .ready) ?_ | refine aS ?_ | refine bE ?_ | refine bS ?_ | refine bI ?_ | refine bP ?_ | refine bQ ?_ | refine ah ?_ ?_ | refine aj ?_ ?_ ?_ |(refine et ?_;first | refine aV ?_ |(refine bY ?_ ?_ (by first | exact fun _ h=>h | exact fun _ h=> .tail _ h | exact fun _ h=> .tail _ (.tail _ h)| exact fun _ h=> .tail _ (.tail _ (.tail _ h)));rotate_left;focus ((((repeat' (first | with_reducible exact am _ | exact af _ | refine aB ?_ ?_ | refine aD inferInstance ?_ | refine aI ?_))<;>(try with_reducible rfl)))<;>fail)))| fail));(all_goals ((conv=>arg 4;whnf);try ((first | refine aH ?_ | refine az ?_);conv=>arg 4;whnf)))
   exact H.go
  ·obtain ⟨l,rfl⟩:∃l,v=l+1:=⟨v-1,by omega⟩
   rw [show (((l+1:Nat):Int)-1)=((l:Nat):Int) by omega]
   have hcn:=dx n l
   have hnm:num n (l+1)=num n l+cnt n l:=rfl
   have hnl:=dL n (l:=l+1) (m:=hgt n) hv
   (repeat' ((first | refine ci ?_ | refine a5 ?_ | skip);(conv=>arg 4;whnf);first |(refine ew ?_;first | refine aH ?_ | refine az ?_)|(refine ej ?_;first | refine bJ ?_ | refine bO ?_ | refine bX ?_ | refine bT ?_ | refine b0 ?_ | refine bZ ?_ | refine bM ?_ | refine bN ?_ | refine bH ?_ | refine bG ?_ | refine bK ?_ | refine bR ?_)|(refine ey ?_;first | refine sL ?_ | refine dX ?_ | refine dZ ?_ | refine dW ?_)|(refine er ?_;first | refine sS ?_ | refine dU ?_)|(refine em ?_;first | refine da ?_ |(refine sN ?_;intro b)|(refine sC ?_ ?_<;>intro h)|(refine aY ?_ ?_<;>intro h<;>try contradiction)|(refine aX ?_ ?_<;>intro h<;>try contradiction)|(refine aZ ?_ ?_<;>intro h<;>try contradiction)|(refine a6 ?_ ?_<;>intro h<;>try contradiction)| refine b6 ?_ | refine aU ?_ |(refine aa ?_;intro g c')| refine aW ?_)|(refine ek ?_;(conv=>arg 4;arg 5;ext C;whnf);first | refine dV ?_ | refine bw ?_ | refine d4 ?_)|(refine ez ?_;(conv=>arg 4;arg 6;ext C;whnf);first | refine dR ?_ | refine bU ?_ | refine dY ?_ | refine bW ?_)|(refine eo ?_;first | refine bL ?_ | refine aR ?_)|(refine ck ?_;first |(refine ay (AW h1 h2 (Nat.le_of_succ_le hv)) ?_;intro x hx;try (conv=>arg 2;simp only [List.nil_append,List.cons_append]))| refine ae ?_ | refine ai ?_)| refine bF ?_ | refine aT (by assumption) ?_ | exact aG () True.intro rfl (af _)|(refine ak rfl ?_;intro D lL)| refine bV (st:= .ready) ?_ | refine aS ?_ | refine bE ?_ | refine bS ?_ | refine bI ?_ | refine bP ?_ | refine bQ ?_ | refine ah ?_ ?_ | refine aj ?_ ?_ ?_ |(refine et ?_;first | refine aV ?_ |(refine bY ?_ ?_ (by first | exact fun _ h=>h | exact fun _ h=> .tail _ h | exact fun _ h=> .tail _ (.tail _ h)| exact fun _ h=> .tail _ (.tail _ (.tail _ h)));rotate_left;focus ((((repeat' (first | with_reducible exact am _ | exact af _ | refine aB ?_ ?_ | refine aD inferInstance ?_ | refine aI ?_))<;>(try with_reducible rfl)))<;>fail)))| fail));(all_goals ((conv=>arg 4;whnf);try ((first | refine aH ?_ | refine az ?_);conv=>arg 4;whnf)))
   rw [show num n (l+1)-cnt n l=num n l by omega]
   apply sq [nb,sb,pb] (X:=Nat) (fun j=> [(7, .slice (some ⟨sb,0,none⟩) (tot n) (tot n)),(9,vI 0),(79,vI j)]) (fun j=>j≤cnt n l) (fun j=> [iB nb ((ft n (aK L s) Nod.zero (l+1) j).flatMap a7) 217,iB sb ((ft n (r5 L s) 0 (l+1) j).flatMap cI) 3,iB pb (cJ SPrb.zero) 105]) (fun j=>cnt n l-j) 0
   ·exact Nat.zero_le _
   ·rfl
   ·((repeat' (first | with_reducible exact am _ | exact af _ | refine aB ?_ ?_ | refine aD inferInstance ?_ | refine aI ?_))<;>(try with_reducible rfl))
   ·intro K2 H2 j hj
    (conv=>arg 2;simp only [List.cons_append,List.nil_append])
    by_cases hlt:j<cnt n l
    ·have hupc:j/4<cnt n (l+1):=by show j/4<kc (cnt n l);unfold kc;omega
     have hpar:(ft n (aK L s) Nod.zero (l+1) j).getD (num n (l+1)+j/4) default=aK L s (l+1) (j/4):=zX _ hv hupc (Nat.le_refl _)
     have hpl:=e7 (n:=n) (l:=l) (j:=j) (by omega) hlt
     have hpp:=e7 (n:=n) (l:=l+1) (j:=j/4) hv hupc
     have hw4:4*(j/4)+j%4=j:=by omega
     have hE:=h.ent (l:=l) (j:=j/4) (w:=j%4) hv hupc (Nat.mod_lt _ (by decide)) (by rw [hw4];exact hlt)
     rw [hw4] at hE
     have hset1:=q4 (f:=aK L s) (z:=Nod.zero) (n:=n) (l:=l) (j:=j) (by omega) hlt
     have hset2:=q4 (f:=r5 L s) (z:=0) (n:=n) (l:=l) (j:=j) (by omega) hlt
     have hlU:(ft n (aK L s) Nod.zero (l+1) j).length=tot n:=qv
     have hlV:(ft n (r5 L s) 0 (l+1) j).length=tot n:=qv
     by_cases he:cx L l j=true
     ·have hst:((aK L s (l+1) (j/4)).es.l.getD (j%4) default).st=0:=by
       show ((aK L s (l+1) (j/4)).es.get (j%4)).st=0
       rw [hE];exact (h.ent0 l _).2 he
      have hmt:Nod.mt l j=aK L s l j:=(By h.int.ok he).symm
      have hs1:r5 L s l j=1:=if_pos ⟨by rw [hll];omega,he⟩
      rw [←hpar] at hst
      rw [hs1] at hset2
      rw [←hmt] at hset1
      generalize ft n (aK L s) Nod.zero (l+1) j=U at*
      generalize ft n (r5 L s) 0 (l+1) j=V at*
      (repeat' ((first | refine ci ?_ | refine a5 ?_ | skip);(conv=>arg 4;whnf);first |(refine ew ?_;first | refine aH ?_ | refine az ?_)|(refine ej ?_;first | refine bJ ?_ | refine bO ?_ | refine bX ?_ | refine bT ?_ | refine b0 ?_ | refine bZ ?_ | refine bM ?_ | refine bN ?_ | refine bH ?_ | refine bG ?_ | refine bK ?_ | refine bR ?_)|(refine ey ?_;first | refine sL ?_ | refine dX ?_ | refine dZ ?_ | refine dW ?_)|(refine er ?_;first | refine sS ?_ | refine dU ?_)|(refine em ?_;first | refine da ?_ |(refine sN ?_;intro b)|(refine sC ?_ ?_<;>intro h)|(refine aY ?_ ?_<;>intro h<;>try contradiction)|(refine aX ?_ ?_<;>intro h<;>try contradiction)|(refine aZ ?_ ?_<;>intro h<;>try contradiction)|(refine a6 ?_ ?_<;>intro h<;>try contradiction)| refine b6 ?_ | refine aU ?_ |(refine aa ?_;intro g c')| refine aW ?_)|(refine ek ?_;(conv=>arg 4;arg 5;ext C;whnf);first | refine dV ?_ | refine bw ?_ | refine d4 ?_)|(refine ez ?_;(conv=>arg 4;arg 6;ext C;whnf);first | refine dR ?_ | refine bU ?_ | refine dY ?_ | refine bW ?_)|(refine eo ?_;first | refine bL ?_ | refine aR ?_)|(refine ck ?_;first |(refine ay (uL (lv:=l) (ix:=j) (by omega) (by omega)) ?_;intro x hx;try (conv=>arg 2;simp only [List.nil_append,List.cons_append]))|(refine ay (uB hst) ?_;intro x hx;try (conv=>arg 2;simp only [List.nil_append,List.cons_append]))| refine ae ?_ | refine ai ?_)| refine bF ?_ | refine aT (by assumption) ?_ | exact aG () True.intro rfl (af _)|(refine ak rfl ?_;intro D lL)| refine bV (st:= .ready) ?_ | refine aS ?_ | refine bE ?_ | refine bS ?_ | refine bI ?_ | refine bP ?_ | refine bQ ?_ | refine ah ?_ ?_ | refine aj ?_ ?_ ?_ |(refine et ?_;first | refine aV ?_ |(refine bY ?_ ?_ (by first | exact fun _ h=>h | exact fun _ h=> .tail _ h | exact fun _ h=> .tail _ (.tail _ h)| exact fun _ h=> .tail _ (.tail _ (.tail _ h)));rotate_left;focus ((((repeat' (first | with_reducible exact am _ | exact af _ | refine aB ?_ ?_ | refine aD inferInstance ?_ | refine aI ?_))<;>(try with_reducible rfl)))<;>fail)))| fail));(all_goals ((conv=>arg 4;whnf);try ((first | refine aH ?_ | refine az ?_);conv=>arg 4;whnf)))
      refine bj (j+1) rfl (by omega) ?_ (by omega)
      rw [←hset1,←hset2]
      ((repeat' (first | with_reducible exact am _ | exact af _ | refine aB ?_ ?_ | refine aD inferInstance ?_ | refine aI ?_))<;>(try with_reducible rfl))
      all_goals rfl
     ·have he':cx L l j=false:=by simpa using he
      obtain ⟨e1,e2,e3⟩:=h.ent1 he'
      have hst:((aK L s (l+1) (j/4)).es.l.getD (j%4) default).st=s.getD (num n l+j) 0+1:=by
       show ((aK L s (l+1) (j/4)).es.get (j%4)).st=_
       rw [hE];exact e1
      have hch:=IE (q:=q) h (l:=l) (j:=j/4) (w:=j%4) hv hupc (Nat.mod_lt _ (by decide)) (by rw [hw4];exact hlt) (by rw [hw4];exact he')
      rw [hw4] at hch
      have hs1:r5 L s l j=s.getD (num n l+j) 0:=by unfold r5;rw [hll];exact if_neg (by rw [he'];simp)
      rw [←hpar] at hst hch
      have hsl:=j6 (st:=(((ft n (aK L s) Nod.zero (l+1) j).getD (num n (l+1)+j/4) default).es.l.getD (j%4) default).st) (by omega) (by omega)
      rw [hs1,show s.getD (num n l+j) 0=(((ft n (aK L s) Nod.zero (l+1) j).getD (num n (l+1)+j/4) default).es.l.getD (j%4) default).st-1 by omega] at hset2
      generalize ft n (aK L s) Nod.zero (l+1) j=U at*
      generalize ft n (r5 L s) 0 (l+1) j=V at*
      (repeat' ((first | refine ci ?_ | refine a5 ?_ | skip);(conv=>arg 4;whnf);first |(refine ew ?_;first | refine aH ?_ | refine az ?_)|(refine ej ?_;first | refine bJ ?_ | refine bO ?_ | refine bX ?_ | refine bT ?_ | refine b0 ?_ | refine bZ ?_ | refine bM ?_ | refine bN ?_ | refine bH ?_ | refine bG ?_ | refine bK ?_ | refine bR ?_)|(refine ey ?_;first | refine sL ?_ | refine dX ?_ | refine dZ ?_ | refine dW ?_)|(refine er ?_;first | refine sS ?_ | refine dU ?_)|(refine em ?_;first | refine da ?_ |(refine sN ?_;intro b)|(refine sC ?_ ?_<;>intro h)|(refine aY ?_ ?_<;>intro h<;>try contradiction)|(refine aX ?_ ?_<;>intro h<;>try contradiction)|(refine aZ ?_ ?_<;>intro h<;>try contradiction)|(refine a6 ?_ ?_<;>intro h<;>try contradiction)| refine b6 ?_ | refine aU ?_ |(refine aa ?_;intro g c')| refine aW ?_)|(refine ek ?_;(conv=>arg 4;arg 5;ext C;whnf);first | refine dV ?_ | refine bw ?_ | refine d4 ?_)|(refine ez ?_;(conv=>arg 4;arg 6;ext C;whnf);first | refine dR ?_ | refine bU ?_ | refine dY ?_ | refine bW ?_)|(refine eo ?_;first | refine bL ?_ | refine aR ?_)|(refine ck ?_;first |(refine ay (uL (lv:=l) (ix:=j) (by omega) (by omega)) ?_;intro x hx;try (conv=>arg 2;simp only [List.nil_append,List.cons_append]))|(refine ay (hsl) ?_;intro x hx;try (conv=>arg 2;simp only [List.nil_append,List.cons_append]))|(refine ay (hch) ?_;intro x hx;try (conv=>arg 2;simp only [List.nil_append,List.cons_append]))| refine ae ?_ | refine ai ?_)| refine bF ?_ | refine aT (by assumption) ?_ | exact aG () True.intro rfl (af _)|(refine ak rfl ?_;intro D lL)| refine bV (st:= .ready) ?_ | refine aS ?_ | refine bE ?_ | refine bS ?_ | refine bI ?_ | refine bP ?_ | refine bQ ?_ | refine ah ?_ ?_ | refine aj ?_ ?_ ?_ |(refine et ?_;first | refine aV ?_ |(refine bY ?_ ?_ (by first | exact fun _ h=>h | exact fun _ h=> .tail _ h | exact fun _ h=> .tail _ (.tail _ h)| exact fun _ h=> .tail _ (.tail _ (.tail _ h)));rotate_left;focus ((((repeat' (first | with_reducible exact am _ | exact af _ | refine aB ?_ ?_ | refine aD inferInstance ?_ | refine aI ?_))<;>(try with_reducible rfl)))<;>fail)))| fail));(all_goals ((conv=>arg 4;whnf);try ((first | refine aH ?_ | refine az ?_);conv=>arg 4;whnf)))
      refine bj (j+1) rfl (by omega) ?_ (by omega)
      rw [←hset1,←hset2]
      ((repeat' (first | with_reducible exact am _ | exact af _ | refine aB ?_ ?_ | refine aD inferInstance ?_ | refine aI ?_))<;>(try with_reducible rfl))
      all_goals rfl
    ·obtain rfl:j=cnt n l:=by omega
     (repeat' ((first | refine ci ?_ | refine a5 ?_ | skip);(conv=>arg 4;whnf);first |(refine ew ?_;first | refine aH ?_ | refine az ?_)|(refine ej ?_;first | refine bJ ?_ | refine bO ?_ | refine bX ?_ | refine bT ?_ | refine b0 ?_ | refine bZ ?_ | refine bM ?_ | refine bN ?_ | refine bH ?_ | refine bG ?_ | refine bK ?_ | refine bR ?_)|(refine ey ?_;first | refine sL ?_ | refine dX ?_ | refine dZ ?_ | refine dW ?_)|(refine er ?_;first | refine sS ?_ | refine dU ?_)|(refine em ?_;first | refine da ?_ |(refine sN ?_;intro b)|(refine sC ?_ ?_<;>intro h)|(refine aY ?_ ?_<;>intro h<;>try contradiction)|(refine aX ?_ ?_<;>intro h<;>try contradiction)|(refine aZ ?_ ?_<;>intro h<;>try contradiction)|(refine a6 ?_ ?_<;>intro h<;>try contradiction)| refine b6 ?_ | refine aU ?_ |(refine aa ?_;intro g c')| refine aW ?_)|(refine ek ?_;(conv=>arg 4;arg 5;ext C;whnf);first | refine dV ?_ | refine bw ?_ | refine d4 ?_)|(refine ez ?_;(conv=>arg 4;arg 6;ext C;whnf);first | refine dR ?_ | refine bU ?_ | refine dY ?_ | refine bW ?_)|(refine eo ?_;first | refine bL ?_ | refine aR ?_)|(refine ck ?_;first | refine ae ?_ | refine ai ?_)| refine bF ?_ | refine aT (by assumption) ?_ | exact aG () True.intro rfl (af _)|(refine ak rfl ?_;intro D lL)| refine bV (st:= .ready) ?_ | refine aS ?_ | refine bE ?_ | refine bS ?_ | refine bI ?_ | refine bP ?_ | refine bQ ?_ | refine ah ?_ ?_ | refine aj ?_ ?_ ?_ |(refine et ?_;first | refine aV ?_ |(refine bY ?_ ?_ (by first | exact fun _ h=>h | exact fun _ h=> .tail _ h | exact fun _ h=> .tail _ (.tail _ h)| exact fun _ h=> .tail _ (.tail _ (.tail _ h)));rotate_left;focus ((((repeat' (first | with_reducible exact am _ | exact af _ | refine aB ?_ ?_ | refine aD inferInstance ?_ | refine aI ?_))<;>(try with_reducible rfl)))<;>fail)))| fail));(all_goals ((conv=>arg 4;whnf);try ((first | refine aH ?_ | refine az ?_);conv=>arg 4;whnf)))
     exact H2.go
   ·rw [qU,qU]
    (repeat' ((first | refine ci ?_ | refine a5 ?_ | skip);(conv=>arg 4;whnf);first |(refine ew ?_;first | refine aH ?_ | refine az ?_)|(refine ej ?_;first | refine bJ ?_ | refine bO ?_ | refine bX ?_ | refine bT ?_ | refine b0 ?_ | refine bZ ?_ | refine bM ?_ | refine bN ?_ | refine bH ?_ | refine bG ?_ | refine bK ?_ | refine bR ?_)|(refine ey ?_;first | refine sL ?_ | refine dX ?_ | refine dZ ?_ | refine dW ?_)|(refine er ?_;first | refine sS ?_ | refine dU ?_)|(refine em ?_;first | refine da ?_ |(refine sN ?_;intro b)|(refine sC ?_ ?_<;>intro h)|(refine aY ?_ ?_<;>intro h<;>try contradiction)|(refine aX ?_ ?_<;>intro h<;>try contradiction)|(refine aZ ?_ ?_<;>intro h<;>try contradiction)|(refine a6 ?_ ?_<;>intro h<;>try contradiction)| refine b6 ?_ | refine aU ?_ |(refine aa ?_;intro g c')| refine aW ?_)|(refine ek ?_;(conv=>arg 4;arg 5;ext C;whnf);first | refine dV ?_ | refine bw ?_ | refine d4 ?_)|(refine ez ?_;(conv=>arg 4;arg 6;ext C;whnf);first | refine dR ?_ | refine bU ?_ | refine dY ?_ | refine bW ?_)|(refine eo ?_;first | refine bL ?_ | refine aR ?_)|(refine ck ?_;first | refine ae ?_ | refine ai ?_)| refine bF ?_ | refine aT (by assumption) ?_ | exact aG () True.intro rfl (af _)|(refine ak rfl ?_;intro D lL)| refine bV (st:= .ready) ?_ | refine aS ?_ | refine bE ?_ | refine bS ?_ | refine bI ?_ | refine bP ?_ | refine bQ ?_ | refine ah ?_ ?_ | refine aj ?_ ?_ ?_ |(refine et ?_;first | refine aV ?_ |(refine bY ?_ ?_ (by first | exact fun _ h=>h | exact fun _ h=> .tail _ h | exact fun _ h=> .tail _ (.tail _ h)| exact fun _ h=> .tail _ (.tail _ (.tail _ h)));rotate_left;focus ((((repeat' (first | with_reducible exact am _ | exact af _ | refine aB ?_ ?_ | refine aD inferInstance ?_ | refine aI ?_))<;>(try with_reducible rfl)))<;>fail)))| fail));(all_goals ((conv=>arg 4;whnf);try ((first | refine aH ?_ | refine az ?_);conv=>arg 4;whnf)))
    refine nK (Em (by omega)) ?_
    (repeat' ((first | refine ci ?_ | refine a5 ?_ | skip);(conv=>arg 4;whnf);first |(refine ew ?_;first | refine aH ?_ | refine az ?_)|(refine ej ?_;first | refine bJ ?_ | refine bO ?_ | refine bX ?_ | refine bT ?_ | refine b0 ?_ | refine bZ ?_ | refine bM ?_ | refine bN ?_ | refine bH ?_ | refine bG ?_ | refine bK ?_ | refine bR ?_)|(refine ey ?_;first | refine sL ?_ | refine dX ?_ | refine dZ ?_ | refine dW ?_)|(refine er ?_;first | refine sS ?_ | refine dU ?_)|(refine em ?_;first | refine da ?_ |(refine sN ?_;intro b)|(refine sC ?_ ?_<;>intro h)|(refine aY ?_ ?_<;>intro h<;>try contradiction)|(refine aX ?_ ?_<;>intro h<;>try contradiction)|(refine aZ ?_ ?_<;>intro h<;>try contradiction)|(refine a6 ?_ ?_<;>intro h<;>try contradiction)| refine b6 ?_ | refine aU ?_ |(refine aa ?_;intro g c')| refine aW ?_)|(refine ek ?_;(conv=>arg 4;arg 5;ext C;whnf);first | refine dV ?_ | refine bw ?_ | refine d4 ?_)|(refine ez ?_;(conv=>arg 4;arg 6;ext C;whnf);first | refine dR ?_ | refine bU ?_ | refine dY ?_ | refine bW ?_)|(refine eo ?_;first | refine bL ?_ | refine aR ?_)|(refine ck ?_;first | refine ae ?_ | refine ai ?_)| refine bF ?_ | refine aT (by assumption) ?_ | exact aG () True.intro rfl (af _)|(refine ak rfl ?_;intro D lL)| refine bV (st:= .ready) ?_ | refine aS ?_ | refine bE ?_ | refine bS ?_ | refine bI ?_ | refine bP ?_ | refine bQ ?_ | refine ah ?_ ?_ | refine aj ?_ ?_ ?_ |(refine et ?_;first | refine aV ?_ |(refine bY ?_ ?_ (by first | exact fun _ h=>h | exact fun _ h=> .tail _ h | exact fun _ h=> .tail _ (.tail _ h)| exact fun _ h=> .tail _ (.tail _ (.tail _ h)));rotate_left;focus ((((repeat' (first | with_reducible exact am _ | exact af _ | refine aB ?_ ?_ | refine aD inferInstance ?_ | refine aI ?_))<;>(try with_reducible rfl)))<;>fail)))| fail));(all_goals ((conv=>arg 4;whnf);try ((first | refine aH ?_ | refine az ?_);conv=>arg 4;whnf)))
    exact bj l rfl (by omega) (by ((repeat' (first | with_reducible exact am _ | exact af _ | refine aB ?_ ?_ | refine aD inferInstance ?_ | refine aI ?_))<;>(try with_reducible rfl))) (by omega)
 ·have eT:ft n (aK L s) Nod.zero 0 0=cw L s:=by rw [og,cw,hll]
  have eS:ft n (r5 L s) 0 0 0=qz L s:=by rw [og,qz,hll]
  have hTl:(cw L s).length=tot n:=by rw [oq,hll]
  have hSl:(qz L s).length=tot n:=by rw [lK,hll]
  have hmc:=BQ (q:=q) (ts:=cw L s) (tb:=nb) (to:=0) (m:=tot n) (c:=tot n) h1 h2 hTl (by rw [←hll];exact mX h.int.ok)
  rw [eT,eS]
  refine gh (K:=a7) nb (tot n) (tot n) ?_ (hn:=⟨hTl.symm,Nat.le_refl _,by omega⟩)
  refine gh (K:=cI) sb (tot n) (tot n) ?_ (hn:=⟨hSl.symm,Nat.le_refl _,by omega⟩)
  (repeat' ((first | refine ci ?_ | refine a5 ?_ | skip);(conv=>arg 4;whnf);first |(refine ew ?_;first | refine aH ?_ | refine az ?_)|(refine ej ?_;first | refine bJ ?_ | refine bO ?_ | refine bX ?_ | refine bT ?_ | refine b0 ?_ | refine bZ ?_ | refine bM ?_ | refine bN ?_ | refine bH ?_ | refine bG ?_ | refine bK ?_ | refine bR ?_)|(refine ey ?_;first | refine sL ?_ | refine dX ?_ | refine dZ ?_ | refine dW ?_)|(refine er ?_;first | refine sS ?_ | refine dU ?_)|(refine em ?_;first | refine da ?_ |(refine sN ?_;intro b)|(refine sC ?_ ?_<;>intro h)|(refine aY ?_ ?_<;>intro h<;>try contradiction)|(refine aX ?_ ?_<;>intro h<;>try contradiction)|(refine aZ ?_ ?_<;>intro h<;>try contradiction)|(refine a6 ?_ ?_<;>intro h<;>try contradiction)| refine b6 ?_ | refine aU ?_ |(refine aa ?_;intro g c')| refine aW ?_)|(refine ek ?_;(conv=>arg 4;arg 5;ext C;whnf);first | refine dV ?_ | refine bw ?_ | refine d4 ?_)|(refine ez ?_;(conv=>arg 4;arg 6;ext C;whnf);first | refine dR ?_ | refine bU ?_ | refine dY ?_ | refine bW ?_)|(refine eo ?_;first | refine bL ?_ | refine aR ?_)|(refine ck ?_;first |(refine ay (hmc) ?_;intro x hx;try (conv=>arg 2;simp only [List.nil_append,List.cons_append]))| refine ae ?_ | refine ai ?_)| refine bF ?_ | refine aT (by assumption) ?_ | exact aG () True.intro rfl (af _)|(refine ak rfl ?_;intro D lL)| refine bV (st:= .ready) ?_ | refine aS ?_ | refine bE ?_ | refine bS ?_ | refine bI ?_ | refine bP ?_ | refine bQ ?_ | refine ah ?_ ?_ | refine aj ?_ ?_ ?_ |(refine et ?_;first | refine aV ?_ |(refine bY ?_ ?_ (by first | exact fun _ h=>h | exact fun _ h=> .tail _ h | exact fun _ h=> .tail _ (.tail _ h)| exact fun _ h=> .tail _ (.tail _ (.tail _ h)));rotate_left;focus ((((repeat' (first | with_reducible exact am _ | exact af _ | refine aB ?_ ?_ | refine aD inferInstance ?_ | refine aI ?_))<;>(try with_reducible rfl)))<;>fail)))| fail));(all_goals ((conv=>arg 4;whnf);try ((first | refine aH ?_ | refine az ?_);conv=>arg 4;whnf)))
  refine yV [6,7,8,9] ?_
  (conv=>arg 4;whnf)
  refine fS (X:=Unit) (fun x=> [(6,vP trb 0),(7, .slice (some ⟨sb,0,none⟩) (tot n) (tot n)),(8,vP pb 0),(9,vI 0)]) (fun _=>True) (fun x=> [iB pb (cJ SPrb.zero) 105,iB trb (di ⟨n,(some ⟨nb,0,none⟩,tot n,tot n)⟩) 128]) (fun _=> []) ?_ ?_
  ·intro K4
   refine z9 rfl ?_
   (repeat' ((first | refine ci ?_ | refine a5 ?_ | skip);(conv=>arg 4;whnf);first |(refine ew ?_;first | refine aH ?_ | refine az ?_)|(refine ej ?_;first | refine bJ ?_ | refine bO ?_ | refine bX ?_ | refine bT ?_ | refine b0 ?_ | refine bZ ?_ | refine bM ?_ | refine bN ?_ | refine bH ?_ | refine bG ?_ | refine bK ?_ | refine bR ?_)|(refine ey ?_;first | refine sL ?_ | refine dX ?_ | refine dZ ?_ | refine dW ?_)|(refine er ?_;first | refine sS ?_ | refine dU ?_)|(refine em ?_;first | refine da ?_ |(refine sN ?_;intro b)|(refine sC ?_ ?_<;>intro h)|(refine aY ?_ ?_<;>intro h<;>try contradiction)|(refine aX ?_ ?_<;>intro h<;>try contradiction)|(refine aZ ?_ ?_<;>intro h<;>try contradiction)|(refine a6 ?_ ?_<;>intro h<;>try contradiction)| refine b6 ?_ | refine aU ?_ |(refine aa ?_;intro g c')| refine aW ?_)|(refine ek ?_;(conv=>arg 4;arg 5;ext C;whnf);first | refine dV ?_ | refine bw ?_ | refine d4 ?_)|(refine ez ?_;(conv=>arg 4;arg 6;ext C;whnf);first | refine dR ?_ | refine bU ?_ | refine dY ?_ | refine bW ?_)|(refine eo ?_;first | refine bL ?_ | refine aR ?_)|(refine L2 ?_;first | refine yX ?_ | refine qG ?_)|(refine ck ?_;first | refine ae ?_ | refine ai ?_)| refine bF ?_ | refine aT (by assumption) ?_ | exact aG () True.intro rfl (af _)|(refine ak rfl ?_;intro D lL)| refine bV (st:= .ready) ?_ | refine aS ?_ | refine bE ?_ | refine bS ?_ | refine bI ?_ | refine bP ?_ | refine bQ ?_ | refine ah ?_ ?_ | refine aj ?_ ?_ ?_ |(refine et ?_;first | refine aV ?_ |(refine bY ?_ ?_ (by first | exact fun _ h=>h | exact fun _ h=> .tail _ h | exact fun _ h=> .tail _ (.tail _ h)| exact fun _ h=> .tail _ (.tail _ (.tail _ h)));rotate_left;focus ((((repeat' (first | with_reducible exact am _ | exact af _ | refine aB ?_ ?_ | refine aD inferInstance ?_ | refine aI ?_))<;>(try with_reducible rfl)))<;>fail)))| fail));(all_goals ((conv=>arg 4;whnf);try ((first | refine aH ?_ | refine az ?_);conv=>arg 4;whnf)))
   all_goals exact fh () True.intro (by ((repeat' (first | with_reducible exact am _ | exact af _ | refine aB ?_ ?_ | refine aD inferInstance ?_ | refine aI ?_))<;>(try with_reducible rfl))) (by (repeat' (first | exact fun _ h=>absurd h List.not_mem_nil | refine List.forall_mem_cons.2 ⟨?_, ?_⟩))<;>(try dsimp only)<;>(repeat (first | with_reducible exact List.mem_cons_self | with_reducible apply List.mem_cons_of_mem)))
  intro _ _
  (conv=>arg 2;simp only [List.cons_append,List.nil_append])
  (conv=>arg 3;simp only [List.cons_append,List.nil_append])
  (repeat' ((first | refine ci ?_ | refine a5 ?_ | skip);(conv=>arg 4;whnf);first |(refine ew ?_;first | refine aH ?_ | refine az ?_)|(refine ej ?_;first | refine bJ ?_ | refine bO ?_ | refine bX ?_ | refine bT ?_ | refine b0 ?_ | refine bZ ?_ | refine bM ?_ | refine bN ?_ | refine bH ?_ | refine bG ?_ | refine bK ?_ | refine bR ?_)|(refine ey ?_;first | refine sL ?_ | refine dX ?_ | refine dZ ?_ | refine dW ?_)|(refine er ?_;first | refine sS ?_ | refine dU ?_)|(refine em ?_;first | refine da ?_ |(refine sN ?_;intro b)|(refine sC ?_ ?_<;>intro h)|(refine aY ?_ ?_<;>intro h<;>try contradiction)|(refine aX ?_ ?_<;>intro h<;>try contradiction)|(refine aZ ?_ ?_<;>intro h<;>try contradiction)|(refine a6 ?_ ?_<;>intro h<;>try contradiction)| refine b6 ?_ | refine aU ?_ |(refine aa ?_;intro g c')| refine aW ?_)|(refine ek ?_;(conv=>arg 4;arg 5;ext C;whnf);first | refine dV ?_ | refine bw ?_ | refine d4 ?_)|(refine ez ?_;(conv=>arg 4;arg 6;ext C;whnf);first | refine dR ?_ | refine bU ?_ | refine dY ?_ | refine bW ?_)|(refine eo ?_;first | refine bL ?_ | refine aR ?_)|(refine ck ?_;first | refine ae ?_ | refine ai ?_)| refine bF ?_ | refine aT (by assumption) ?_ | exact aG () True.intro rfl (af _)|(refine ak rfl ?_;intro D lL)| refine bV (st:= .ready) ?_ | refine aS ?_ | refine bE ?_ | refine bS ?_ | refine bI ?_ | refine eY rfl rfl ?_ |(refine dT ?_;(conv=>arg 4;whnf);refine d5 rfl ?_)| refine bP ?_ | refine bQ ?_ | refine ah ?_ ?_ | refine aj ?_ ?_ ?_ |(refine et ?_;first | refine aV ?_ |(refine bY ?_ ?_ (by first | exact fun _ h=>h | exact fun _ h=> .tail _ h | exact fun _ h=> .tail _ (.tail _ h)| exact fun _ h=> .tail _ (.tail _ (.tail _ h)));rotate_left;focus ((((repeat' (first | with_reducible exact am _ | exact af _ | refine aB ?_ ?_ | refine aD inferInstance ?_ | refine aI ?_))<;>(try with_reducible rfl)))<;>fail)))| fail));(all_goals ((conv=>arg 4;whnf);try ((first | refine aH ?_ | refine az ?_);conv=>arg 4;whnf)))
  exact aG (nb,sb) True.intro rfl (af _) (by (repeat' (first | exact fun _ h=>absurd h List.not_mem_nil | refine List.forall_mem_cons.2 ⟨?_, ?_⟩))<;>(try dsimp only)<;>(repeat (first | with_reducible exact List.mem_cons_self | with_reducible apply List.mem_cons_of_mem)))
end
end Go.Proofs.YtbobhnldhpjdlaaGreatDoor
namespace Go.Proofs.YtbobhnldhpjdlaaGreatDoor
open Go Go.RowKit Go.Cs Go.Cz
set_option maxRecDepth 100000
set_option maxHeartbeats 4000000
section
variable {n:Nat} {k:Key} {d:SDsk} {I:DI} {L:List Rec} {s:List Nat} {dur:List Dig} {cell:Cel} {q:Value×Value}
theorem rI {L:List Rec} {s:List Nat} {n:Nat} (hO:OkM L s) (hll:L.length=n):DS (tot n) (cw L s) ((qz L s).map fun (x:Nat)=>(x:Int))=treW L (fls n) (qz L s):=by
 subst hll
 rw [←yu (s:=s)]
 exact xQ (xj hO)
theorem H0 (h:DV n k d I L s dur cell):Zp Tryz.prog 39 [vI n,vA (aJ d),vA (aM cell)] [] [Dm d I,Gs q] Nat (fun _=>True) (fun x=> .tuple #[vA (a9 ⟨n,(some ⟨x,0,none⟩,tot n,tot n)⟩),vA (cJ SPrb.zero),vI 0]) (fun _=> []) (fun x=> [Sl br (some ⟨x,0,none⟩) (tot n) (tot n) (treW L (fls n) (qz L s))]):=by
 have h1:=h.int.bl.1
 have h2:=h.int.bl.2
 have hll:=h.int.ll
 have hTl:(cw L s).length=tot n:=by rw [oq,hll]
 have hSl:(qz L s).length=tot n:=by rw [lK,hll]
 have hO:=xj h.int.ok
 have hU:UOk n (treW L (fls n) (qz L s)):=by rw [←hll];exact UOk.treW (OkW.fls hO) rfl
 have hof:=fun (a b:Nat)=>IB (q:=q) (ts:=cw L s) (s:=qz L s) (tb:=a) (to:=0) (m:=tot n) (c:=tot n) (sb:=b) (so:=0) (ms:=tot n) (cs:=tot n) h1 h2 hTl (by rw [←hll];exact mX h.int.ok) hSl (fun i _=>hO.sl i) (by rw [hTl,rI h.int.ok hll];exact hU)
 rw [hTl,rI h.int.ok hll] at hof
 refine an fun G=> ?_
 (repeat' ((try refine au ?_);(conv=>arg 4;whnf);first | refine cp ?_ |(refine sN ?_;intro b)|(refine sC ?_ ?_<;>intro h)|(refine ar ?_ ?_<;>intro h<;>try contradiction)|(refine aa ?_;intro g c')|(refine dD (I0 (q:=q) h) ?_;intro x hx;refine c9 ?_)| refine ai ?_ | exact aw |(refine ak rfl ?_;intro D lL)| refine ah ?_ ?_ | refine aj ?_ ?_ ?_ | fail));(all_goals refine av ?_)
 obtain ⟨a,b⟩:=x
 dsimp only
 have hof1:=hof a b
 (repeat' ((try refine au ?_);(conv=>arg 4;whnf);first | refine cp ?_ |(refine sN ?_;intro b)|(refine sC ?_ ?_<;>intro h)|(refine ar ?_ ?_<;>intro h<;>try contradiction)|(refine aa ?_;intro g c')|(refine dD hof1 ?_;intro x hx;refine c9 ?_)| refine ae ?_ | refine ai ?_ | exact aw |(refine ak rfl ?_;intro D lL)| refine ah ?_ ?_ | refine aj ?_ ?_ ?_ | fail));(all_goals refine av ?_)
 trace_state
 (repeat' ((try refine au ?_);(conv=>arg 4;whnf);first | refine ax ?_ |(refine sN ?_;intro b)|(refine sC ?_ ?_<;>intro h)|(refine ar ?_ ?_<;>intro h<;>try contradiction)|(refine aa ?_;intro g c')| refine ae ?_ | refine ai ?_ | exact aw |(refine ak rfl ?_;intro D lL)| refine ah ?_ ?_ | refine aj ?_ ?_ ?_ | fail));(all_goals refine av ?_)
 exact aG x True.intro rfl (af _) cR
end
end Go.Proofs.YtbobhnldhpjdlaaGreatDoor
