/- Lemmas and walks: what each function does, by its own code. No condition beyond those of each statement. -/
import Derived.Test.YtbobhnldhpjdlaaGreatDoorP8
import Derived.Test.YtbobhnldhpjdlaaGreatDoorP9
import Derived.Test.YtbobhnldhpjdlaaGreatDoorP14
import Derived.Test.YtbobhnldhpjdlaaGreatDoorP16
import Derived.Test.YtbobhnldhpjdlaaGreatDoorP24
import Derived.Test.YtbobhnldhpjdlaaGreatDoorP25
set_option linter.all false
set_option linter.unusedVariables false
namespace Go.Cz
open Go Go.RowKit Go.Cs
variable {P:Program} {G:Gc} {O:List It} {F:List Pt} {C:Value→Pt} {T E i o m:Nat} {cs vs:List Value} {v:Value} {p:Prop}
section
variable {x y:Operand} {us:List Value} {b:Prop}
theorem IK [h:Eqc P T vs us b] (hb:¬b):Yv P O F (Ak.bin .neq T x y (vA vs) (vA us)) (.bool true):=by
 obtain ⟨r,h1,h2⟩:=h.eq
 have hr:r=false:=by cases r with
  | false=>rfl
  | true=>exact absurd (h2.1 rfl) hb
 subst hr
 exact aC fun w=>gE (h1 w) h.gd
end
end Go.Cz
namespace Go.Proofs.YtbobhnldhpjdlaaGreatDoor
open Go Go.RowKit Go.Cs Go.Cz
set_option maxRecDepth 100000
set_option maxHeartbeats 4000000
section
variable {n bi:Nat} {d:SDsk} {I:DI} {cell:Cel} {k:Key} {r:Rec} {p:Nat×Nat} {y:Dig} {q:Value×Value}
theorem Jz (h:AnD n d I) (hb:bi<n) (hr:bS r=0) (he:LD I.pv k bi r=(p,y)) (hp:¬p.2=0):Zp Tryz.prog 48 [vI n,vA (aJ d),vA (bC k),vI bi,vA (bY r)] [] [Dm d I,Gs q] Unit (fun _=>True)
  (fun x=> .tuple #[vA (ay Dig.zero),vA (bW ⟨p.1,p.2⟩),vI 9]) (fun _=> []) (fun x=> []):=by
 unfold LD at he
 by_cases h0:r.st=0
 ·rw [if_pos h0] at he;cases he;exact absurd rfl hp
 ·rw [if_neg h0] at he
  cases hpv:I.pv (2*bi+(r.st-1)) with
  | none=>rw [hpv] at he;cases he;exact LA h hb hr h0 hpv
  | some L=>
   rw [hpv] at he
   dsimp only at he
   unfold Mj at he
   by_cases hl:L.length=32
   ·rw [dif_pos hl] at he
    by_cases ht:il k bi r.non ⟨L,hl⟩=r.tag
    ·rw [if_pos ht] at he;cases he;exact absurd rfl hp
    ·rw [if_neg ht] at he;cases he;exact HF (y:=⟨L,hl⟩) h.n1 h.n2 hb h.ok h.sd h.si hr h0 hpv ht
   ·rw [dif_neg hl] at he;cases he;exact MI h hb hr h0 hpv hl
theorem Kk (h:AnD n d I) (hb:bi<n) (hr:bS r=0) (he:LD I.pv k bi r=(p,y)) (hp:p.2=0):p=(0,0)∧Zp Tryz.prog 48 [vI n,vA (aJ d),vA (bC k),vI bi,vA (bY r)] [] [Dm d I,Gs q] Unit (fun _=>True)
  (fun x=> .tuple #[vA (ay y),vA (bW SPrb.zero),vI 0]) (fun _=> []) (fun x=> []):=by
 unfold LD at he
 by_cases h0:r.st=0
 ·rw [if_pos h0] at he;cases he;exact ⟨rfl,JT (If h.n1 h.n2 hb h.sd hr h0) (fun f hf=>by cases hf)⟩
 ·rw [if_neg h0] at he
  cases hpv:I.pv (2*bi+(r.st-1)) with
  | none=>rw [hpv] at he;cases he;cases hp
  | some L=>
   rw [hpv] at he
   dsimp only at he
   unfold Mj at he
   by_cases hl:L.length=32
   ·rw [dif_pos hl] at he
    by_cases ht:il k bi r.non ⟨L,hl⟩=r.tag
    ·rw [if_pos ht] at he;cases he;exact ⟨rfl,Ee (y:=⟨L,hl⟩) h.n1 h.n2 hb h.ok h.sd h.si hr h0 hpv ht⟩
    ·rw [if_neg ht] at he;cases he;cases hp
   ·rw [dif_neg hl] at he;cases he;cases hp
end
def lO (p:Nat×Nat):SPrb:=⟨p.1,p.2⟩
theorem Hz {n bi:Nat} {d:SDsk} {I:DI} {cell:Cel} {k:Key} {q:Value×Value} (h:AnD n d I) (hb:bi<n):Zp Tryz.prog 205 [vI n,vA (aJ d),vA (aL cell),vA (bC k),vI bi] [] [Dm d I,Gs q] (Dig×Nat) (fun _=>True)
  (fun x=> .tuple #[vA (ay x.1),vA (bW (lO (Me n I.pv cell k bi).1)),vI x.2]) (fun _=> []) (fun x=> []):=by
 obtain ⟨⟨rp,rr⟩,hR⟩:∃z,qS n I.pv cell bi=z:=⟨_,rfl⟩
 have hck:=w9 hR
 unfold Me
 rw [hR]
 by_cases h0:rp.2=0
 ·rw [if_neg (fun g=>g h0)]
  have hr:=MH (q:=q) h hb hR h0
  obtain ⟨⟨p,y⟩,he⟩:∃z,LD I.pv k bi rr=z:=⟨_,rfl⟩
  dsimp only
  rw [he]
  by_cases hp:p.2=0
  ·obtain ⟨e0,hdt⟩:=Kk (q:=q) h hb hck he hp
   subst e0
   refine ak fun G=> ?_
   (repeat' ((try refine aw ?_);(conv=>arg 4;whnf);first | refine az ?_ |(refine sN ?_;intro b)|((first | refine aA hr ?_ | refine aA hdt ?_);intro x hx;refine aH ?_)| fail));(all_goals refine av ?_)
   exact aD ((y,0):Dig×Nat) True.intro rfl (am _) bu
  ·have hdt:=Jz (q:=q) h hb hck he hp
   refine ak fun G=> ?_
   (repeat' ((try refine aw ?_);(conv=>arg 4;whnf);first | refine az ?_ |(refine sN ?_;intro b)|((first | refine aA hr ?_ | refine aA hdt ?_);intro x hx;refine aH ?_)| fail));(all_goals refine av ?_)
   exact aD ((Dig.zero,9):Dig×Nat) True.intro rfl (am _) bu
 ·rw [if_pos h0]
  have hr:=Jt (q:=q) h hb hR h0
  refine ak fun G=> ?_
  (repeat' ((try refine aw ?_);(conv=>arg 4;whnf);first | refine az ?_ |(refine sN ?_;intro b)|(refine aA hr ?_;intro x hx;refine aH ?_)| fail));(all_goals refine av ?_)
  exact aD ((Dig.zero,9):Dig×Nat) True.intro rfl (am _) bu
theorem JV {P:Program} {O:List It} {F:List Pt} {T:TypeId} {x y:Operand} {vs us zs:List Value} {b:Prop} [hz:Zt P T zs] [h:Eqc P T vs zs b] (hb:¬b) (hu:us=zs:=by rfl):Yv P O F (.bin .neq T x y (vA vs) (vA us)) (.bool true):=by
 subst hu;exact IK hb
theorem Mc {i:Nat} {y:Dig}:Zp Tryz.prog 114 [vI i,vA (ay y),vA (bW SPrb.zero)] [] [] Unit (fun _=>True) (fun _=> .tuple #[vI i, .bool false, .bool false]) (fun _=> []) (fun _=> []):=by
 refine ak fun G=> ?_
 (repeat' ((try refine aw ?_);(conv=>arg 4;whnf);first | refine aO ?_ |(refine sN ?_;intro b)| exact ax | fail));(all_goals refine av ?_)
 refine bh ?_
 (conv=>arg 4;whnf)
 refine bc rfl ?_
 (repeat' ((try refine aw ?_);(conv=>arg 4;whnf);first | refine aO ?_ |(refine sN ?_;intro b)| exact ax | fail));(all_goals refine av ?_)
 (conv=>arg 4;arg 5;ext C;whnf)
 refine cR ?_ (yV rfl)
 (repeat' ((try refine aw ?_);(conv=>arg 4;whnf);first | refine az ?_ |(refine sN ?_;intro b)| exact ax | fail));(all_goals refine av ?_)
theorem MX {i:Nat} {y:Dig} {p:SPrb} (hp:¬p=SPrb.zero):Zp Tryz.prog 114 [vI i,vA (ay y),vA (bW p)] [] [] Unit (fun _=>True) (fun _=> .tuple #[vI i, .bool true, .bool false]) (fun _=> []) (fun _=> []):=by
 refine ak fun G=> ?_
 (repeat' ((try refine aw ?_);(conv=>arg 4;whnf);first | refine aO ?_ |(refine sN ?_;intro b)| exact ax | fail));(all_goals refine av ?_)
 refine bh ?_
 (conv=>arg 4;whnf)
 refine bc rfl ?_
 (repeat' ((try refine aw ?_);(conv=>arg 4;whnf);first | refine aO ?_ |(refine sN ?_;intro b)| exact ax | fail));(all_goals refine av ?_)
 (conv=>arg 4;arg 5;ext C;whnf)
 refine cR ?_ (JV hp)
 (repeat' ((try refine aw ?_);(conv=>arg 4;whnf);first | refine az ?_ |(refine sN ?_;intro b)| exact ax | fail));(all_goals refine av ?_)
theorem MY {i:Nat} {y:Dig} {p:SPrb}:Zp Tryz.prog 116 [vI i,vA (ay y),vA (bW p)] [] [] Unit (fun _=>True) (fun _=> .tuple #[vA (bW p), .bool true, .bool false]) (fun _=> []) (fun _=> []):=by
 refine ak fun G=> ?_
 (repeat' ((try refine aw ?_);(conv=>arg 4;whnf);first | refine az ?_ |(refine sN ?_;intro b)| exact ax | fail));(all_goals refine av ?_)
instance:DecidableEq SPrb:=fun a b=>decidable_of_iff (a.Sector=b.Sector∧a.Fault=b.Fault) ⟨fun h=>by obtain ⟨a1,a2⟩:=a;obtain ⟨b1,b2⟩:=b;obtain ⟨rfl,rfl⟩:=h;rfl,fun h=>h▸⟨rfl,rfl⟩⟩
def ew (n:Nat) (pv:Pv) (c:Cel) (k:Key) (i:Nat):List Nat:=(List.range i).filter fun j=>decide ¬(lO (Me n pv c k j).1=SPrb.zero)
def gU (n:Nat) (pv:Pv) (c:Cel) (k:Key) (i:Nat):List SPrb:=(List.range i).map fun j=>lO (Me n pv c k j).1
theorem oF {n:Nat} {pv:Pv} {c:Cel} {k:Key} {i:Nat} (h:lO (Me n pv c k i).1=SPrb.zero):ew n pv c k (i+1)=ew n pv c k i:=by
 unfold ew;rw [List.range_succ,List.filter_append];simp [h]
theorem r8 {n:Nat} {pv:Pv} {c:Cel} {k:Key} {i:Nat} (h:¬lO (Me n pv c k i).1=SPrb.zero):ew n pv c k (i+1)=ew n pv c k i++ [i]:=by
 unfold ew;rw [List.range_succ,List.filter_append];simp [h]
theorem lg (n:Nat) (pv:Pv) (c:Cel) (k:Key) (i:Nat):(ew n pv c k i).length≤i:=Nat.le_trans (List.length_filter_le _ _) (by simp)
theorem F7 {n:Nat} {pv:Pv} {c:Cel} {k:Key} {i:Nat}:gU n pv c k (i+1)=gU n pv c k i++ [lO (Me n pv c k i).1]:=by
 unfold gU;rw [List.range_succ,List.map_append];rfl
@[simp] theorem wS (n:Nat) (pv:Pv) (c:Cel) (k:Key) (i:Nat):(gU n pv c k i).length=i:=by simp [gU]
section
variable {n:Nat} {d:SDsk} {I:DI} {cell:Cel} {k:Key} {q:Value×Value}
theorem KM (h:AnD n d I):Zp Tryz.prog 115 [vA (bO ⟨n,d,cell,k⟩), .func (.func 116) #[] #[]] [] [Dm d I,Gs q] Sv (fun x=>x.2.1=n) (fun x=> .slice x.1 x.2.1 x.2.2) (fun _=> []) (fun x=> [Sl bW x.1 x.2.1 x.2.2 (gU n I.pv cell k n)]):=by
 have h1:=h.n1
 have h2:=h.n2
 refine ak fun G=> ?_
 (repeat' ((try refine aw ?_);(conv=>arg 4;whnf);first | refine az ?_ |(refine sN ?_;intro b)|(refine aa ?_;intro g c')| refine ae ?_ | fail));(all_goals refine av ?_)
 refine dh [] (X:=Nat×Option Addr×Nat) (fun x=> [(5, .slice x.2.1 x.1 x.2.2),(15,vI x.1)]) (fun x=>x.1≤n) (fun x=> [iN bW 2 x.2.1 x.1 x.2.2 105 (gU n I.pv cell k x.1)]) (fun x=>n-x.1) (0,none,0) (Nat.zero_le _) rfl (by ((repeat' (first | with_reducible exact ar _ | exact am _ | refine aE ?_ ?_ | refine aX ?_ | refine qT rfl ?_))<;>(try with_reducible rfl))) ?_
 rintro ⟨i,a,c⟩ hi
 (conv=>arg 2;simp only [List.cons_append,List.nil_append])
 dsimp only at hi⊢
 by_cases hlt:i<n
 ·have hbk:=Hz (q:=q) (cell:=cell) (k:=k) h hlt
  obtain ⟨P,hP⟩:∃P,P=lO (Me n I.pv cell k i).1:=⟨_,rfl⟩
  rw [←hP] at hbk
  (repeat' ((try refine aw ?_);(conv=>arg 4;whnf);first | refine az ?_ |(refine sN ?_;intro b)|(refine aa ?_;intro g c')|((first | refine aA hbk ?_ | refine aA MY ?_);intro x hx;refine aH ?_)| refine ae ?_ | fail));(all_goals refine av ?_)
  refine a5 (i+1,some ⟨g,0,none⟩,c') rfl hlt ?_ (by dsimp only;omega)
  dsimp only
  rw [F7,←hP]
  ((repeat' (first | with_reducible exact ar _ | exact am _ | refine aE ?_ ?_ | refine aX ?_))<;>(try with_reducible rfl))
 ·obtain rfl:i=n:=by omega
  have hsl:=wS i I.pv cell k i
  refine eE (m:=2) (e:=105) bW a i c ?_
  refine aS 0 ?_
  intro _ hc0 hm0 ha0
  obtain ⟨b1,o1,rfl⟩:=ha0 (by omega) (by decide)
  (repeat' ((try refine aw ?_);(conv=>arg 4;whnf);first | refine az ?_ |(refine sN ?_;intro b)|(refine aa ?_;intro g c')| refine ae ?_ | fail));(all_goals refine av ?_)
  refine je 0 ?_
  exact aD (some ⟨b1,o1,none⟩,i,i) rfl rfl (am _) bu
theorem Mt (h:AnD n d I):Zp Tryz.prog 30 [vI n,vA (aJ d),vA (aL cell),vA (bC k)] [] [Dm d I,Gs q] Sv (fun x=>x.2.1=n) (fun x=> .tuple #[.slice x.1 x.2.1 x.2.2,vI 0]) (fun _=> []) (fun x=> [Sl bW x.1 x.2.1 x.2.2 (gU n I.pv cell k n)]):=by
 have h1:=h.n1
 have h2:=h.n2
 refine ak fun G=> ?_
 (repeat' ((try refine aw ?_);(conv=>arg 4;whnf);first | refine az ?_ |(refine sN ?_;intro b)|(refine aA (JF h1 h2 h.sd) ?_;intro x hx;refine aH ?_)|(refine cw (KM (q:=q) h) ?_;intro x hx;refine bV ?_)| fail));(all_goals refine av ?_)
 exact aD x hx rfl (am _) bu
theorem Lf (h:AnD n d I):Zp Tryz.prog 113 [vA (bO ⟨n,d,cell,k⟩), .func (.func 114) #[] #[]] [] [Dm d I,Gs q] Sv (fun x=>x.2.1=(ew n I.pv cell k n).length) (fun x=> .slice x.1 x.2.1 x.2.2) (fun _=> []) (fun x=> []):=by
 have h1:=h.n1
 have h2:=h.n2
 refine ak fun G=> ?_
 (repeat' ((try refine aw ?_);(conv=>arg 4;whnf);first | refine az ?_ |(refine sN ?_;intro b)|(refine aa ?_;intro g c')| refine ae ?_ | fail));(all_goals refine av ?_)
 refine dh [] (X:=Nat×Option Addr×Nat×Nat) (fun x=> [(5, .slice x.2.1 x.2.2.1 x.2.2.2),(15,vI x.1)]) (fun x=>x.1≤n∧x.2.2.1=(ew n I.pv cell k x.1).length) (fun x=> [iN cI 1 x.2.1 x.2.2.1 x.2.2.2 3 (ew n I.pv cell k x.1)]) (fun x=>n-x.1) (0,none,0,0) ⟨Nat.zero_le _,rfl⟩ rfl (by ((repeat' (first | with_reducible exact ar _ | exact am _ | refine aE ?_ ?_ | refine aX ?_ | refine qT rfl ?_))<;>(try with_reducible rfl))) ?_
 rintro ⟨i,a,m,c⟩ ⟨hi,hm⟩
 (conv=>arg 2;simp only [List.cons_append,List.nil_append])
 dsimp only at hi hm⊢
 have hle:=lg n I.pv cell k i
 by_cases hlt:i<n
 ·have hbk:=Hz (q:=q) (cell:=cell) (k:=k) h hlt
  by_cases h0:lO (Me n I.pv cell k i).1=SPrb.zero
  ·have e:=oF h0
   rw [h0] at hbk
   (repeat' ((try refine aw ?_);(conv=>arg 4;whnf);first | refine az ?_ |(refine sN ?_;intro b)|(refine aa ?_;intro g c')|((first | refine aA hbk ?_ | refine aA Mc ?_);intro x hx;refine aH ?_)| refine ae ?_ | fail));(all_goals refine av ?_)
   refine a5 (i+1,a,m,c) rfl ⟨hlt,by dsimp only;rw [e];exact hm⟩ ?_ (by dsimp only;omega)
   dsimp only
   rw [e]
   ((repeat' (first | with_reducible exact ar _ | exact am _ | refine aE ?_ ?_ | refine aX ?_))<;>(try with_reducible rfl))
  ·have e:=r8 h0
   obtain ⟨P,hP⟩:∃P,P=lO (Me n I.pv cell k i).1:=⟨_,rfl⟩
   rw [←hP] at hbk h0
   (repeat' ((try refine aw ?_);(conv=>arg 4;whnf);first | refine az ?_ |(refine sN ?_;intro b)|(refine aa ?_;intro g c')|((first | refine aA hbk ?_ | refine aA (MX h0) ?_);intro x hx;refine aH ?_)| refine ae ?_ | fail));(all_goals refine av ?_)
   refine a5 (i+1,some ⟨g,0,none⟩,m+1,c') rfl ⟨hlt,by dsimp only;rw [e];simp [hm]⟩ ?_ (by dsimp only;omega)
   dsimp only
   rw [e]
   ((repeat' (first | with_reducible exact ar _ | exact am _ | refine aE ?_ ?_ | refine aX ?_))<;>(try with_reducible rfl))
 ·obtain rfl:i=n:=by omega
  refine eE (m:=1) (e:=3) cI a m c ?_
  refine aS 0 ?_
  intro _ hc0 hm0 ha0
  rcases Nat.eq_zero_or_pos m with hz | hz
  ·cases a with
   | none=>
    refine f5 (p:=m=0∧c=0) (fun w _ h=>(h _ (.head _)).2.imp_right (fun h=>h.1)) fun h0=> ?_
    obtain ⟨rfl,rfl⟩:=h0
    (repeat' ((try refine aw ?_);(conv=>arg 4;whnf);first | refine az ?_ |(refine sN ?_;intro b)|(refine aa ?_;intro g c')| refine ae ?_ | fail));(all_goals refine av ?_)
    exact aD (none,0,0) hm rfl (am _) bu
   | some ad=>
    subst hz
    (repeat' ((try refine aw ?_);(conv=>arg 4;whnf);first | refine az ?_ |(refine sN ?_;intro b)|(refine aa ?_;intro g c')| refine ae ?_ | fail));(all_goals refine av ?_)
    exact aD (some ad,0,0) hm rfl (am _) bu
  ·obtain ⟨b1,o1,rfl⟩:=ha0 hz (by decide)
   (repeat' ((try refine aw ?_);(conv=>arg 4;whnf);first | refine az ?_ |(refine sN ?_;intro b)|(refine aa ?_;intro g c')| refine ae ?_ | fail));(all_goals refine av ?_)
   exact aD (some ⟨b1,o1,none⟩,m,m) hm rfl (am _) bu
theorem HI (h:AnD n d I):Zp Tryz.prog 28 [vI n,vA (aJ d),vA (aL cell),vA (bC k)] [] [Dm d I,Gs q] Sv (fun x=>x.2.1=(ew n I.pv cell k n).length) (fun x=> .tuple #[.slice x.1 x.2.1 x.2.2,vI 0]) (fun _=> []) (fun x=> []):=by
 have h1:=h.n1
 have h2:=h.n2
 refine ak fun G=> ?_
 (repeat' ((try refine aw ?_);(conv=>arg 4;whnf);first | refine az ?_ |(refine sN ?_;intro b)|((first | refine aA (JF h1 h2 h.sd) ?_ | refine aA (Lf (q:=q) h) ?_);intro x hx;refine aH ?_)| fail));(all_goals refine av ?_)
 exact aD x hx rfl (am _) bu
end
end Go.Proofs.YtbobhnldhpjdlaaGreatDoor
