/- Lemmas and walks: what each function does, by its own code. No condition beyond those of each statement. -/
import Derived.Test.YtbobhnldhpjdlaaGreatDoorP19
import Derived.Test.YtbobhnldhpjdlaaGreatDoorP23
set_option linter.all false
set_option linter.unusedVariables false
namespace Go.Proofs.YtbobhnldhpjdlaaGreatDoor
open Go Go.RowKit Go.Cs Go.Cz
set_option maxRecDepth 100000
set_option maxHeartbeats 1000000
theorem dP (key:B16) (k:Nat):(ez key k).length=11:=by simp [ez]
theorem Ac (key:B16) (k:Nat) {j:Nat} (h:j<11):(ez key k).getD j default=if j≤k then dT key j else B16.zero:=by simp [ez,h]
def bset (x:B16) (i:Nat) (v:UInt8):B16:=⟨x.l.set i v,by simp [x.h]⟩
instance {x:B16} {i:Nat} {v:UInt8}:Ub (dE x) (i*1) [.int .u8 (v.toNat:Int)] (dE (bset x i v)) (i<16):=⟨fun h=>by rw [dE,dE,bL,bL];exact j6 (K:=cB) v (by rw [x.h];exact h)⟩
theorem q9:∀(l:List B16),(l.flatMap dE).length=16*l.length
 | []=>rfl
 | x::r=>by rw [List.flatMap_cons,List.length_append,q9 r];simp [dE,x.h];omega
@[simp] theorem JI (key:B16) (k:Nat):((ez key k).flatMap dE).length=176:=by rw [q9,dP]
def pT (key:B16) (k i:Nat):B16:=⟨(gQ (dT key (k+1)).l B16.zero.l i++List.replicate 16 0).take 16,by simp⟩
theorem oV (key:B16) (k:Nat) {i:Nat} (h:i≤16):(pT key k i).l=gQ (dT key (k+1)).l B16.zero.l i:=by
 have:(gQ (dT key (k+1)).l B16.zero.l i).length=16:=by
  have h1:=(dT key (k+1)).h
  have h2:=B16.zero.h
  simp [gQ,h1,h2];omega
 show (gQ _ _ i++List.replicate 16 0).take 16=_
 exact List.take_left' this
theorem F3 (key:B16) (k:Nat) (h:k<10):(ez key k).set (k+1) (pT key k 0)=ez key k:=by
 have e:pT key k 0=B16.zero:=B16.ext' (by rw [oV key k (by omega),eX])
 apply List.ext_getElem?
 intro j
 by_cases hj:j=k+1
 ·subst hj
  rw [List.getElem?_set_self (by rw [dP];omega),e]
  simp only [ez,List.getElem?_map]
  rw [List.getElem?_range (by omega)]
  simp only [Option.map_some]
  rw [if_neg (by omega)]
 ·rw [List.getElem?_set_ne (by omega)]
theorem C7 (key:B16) (k:Nat) (h:k<10):(ez key k).set (k+1) (pT key k 16)=ez key (k+1):=by
 have e:pT key k 16=dT key (k+1):=B16.ext' (by rw [oV key k (by omega),gy (Nat.le_of_eq (dT key (k+1)).h) (Nat.le_of_eq B16.zero.h)])
 apply List.ext_getElem?
 intro j
 by_cases hj:j=k+1
 ·subst hj
  rw [List.getElem?_set_self (by rw [dP];omega),e]
  simp [ez,show k+1<11 by omega]
 ·rw [List.getElem?_set_ne (by omega)]
  by_cases h11:j<11
  ·simp only [ez,List.getElem?_map]
   rw [List.getElem?_range h11]
   simp only [Option.map_some]
   by_cases h1:j≤k
   ·rw [if_pos h1,if_pos (by omega)]
   ·rw [if_neg h1,if_neg (by omega)]
  ·rw [List.getElem?_eq_none (by rw [dP];omega),List.getElem?_eq_none (by rw [dP];omega)]
theorem y4 (key:B16) {k i:Nat} (h:i<16):bset (pT key k i) i ((qH (dT key k).l (tC (dT key k).l k) (i+1)).getD (i%4) default)=pT key k (i+1):=by
 apply B16.ext'
 show (pT key k i).l.set i _=_
 rw [oV key k (by omega),oV key k (by omega)]
 have h1:(dT key (k+1)).l.length=16:=(dT key (k+1)).h
 rw [eF (by rw [h1,B16.zero.h]) (by rw [B16.zero.h];exact h)]
 show _=(HV (dT key k) k).l.getD i default
 show _=(Df (dT key k).l (tC (dT key k).l k)).getD i default
 rw [Df,List.getD_eq_getElem?_getD (l:=List.map _ _),List.getElem?_map,List.getElem?_range h];rfl
theorem JE (b:List UInt8) (k:Nat):(tC b k).length=4:=rfl
theorem G2 {key:B16}:Zp Tryz.prog 301 [vA (dE key)] [] [] Unit (fun _=>True) (fun _=>vA ((ez key 10).flatMap dE)) (fun _=> []) (fun _=> []):=by
 refine ak fun G=> ?_
 (repeat' ((try refine aw ?_);(conv=>arg 4;whnf);first | refine az ?_ |(refine sN ?_;intro b)|(refine sC ?_ ?_<;>intro h)|(refine au ?_ ?_<;>intro h<;>try contradiction)|(refine aa ?_;intro g c')| refine ae ?_ | refine ai ?_ | exact ax |(refine aj rfl ?_;intro D lL)| refine af ?_ ?_ | refine ah ?_ ?_ ?_ | fail));(all_goals refine av ?_)
 rename_i kb
 refine sV [2,3] ?_
 (conv=>arg 4;whnf)
 refine cN (X:=Nat) (fun k=> [(3,vI (k+1))]) (fun k=>k≤10) (fun k=> [iB b ((ez key k).flatMap dE) 504]) (fun k=>10-k) 0 (Nat.zero_le _) rfl ?_ ?_
 ·rw [show ez key 0=(List.replicate 11 B16.zero).set 0 key from rfl];((repeat' (first | with_reducible exact ar _ | exact am _ | refine aE ?_ ?_ | refine aG inferInstance ?_))<;>(try with_reducible rfl))
 intro k hk
 revert b;intro sb
 by_cases h:k<10
 ·have hg:(ez key k).getD (k+1-1) default=dT key k:=by rw [show k+1-1=k from rfl,Ac key k (by omega),if_pos (Nat.le_refl _)]
  have hl:=dP key k
  have hB:(dT key k).l.length=16:=(dT key k).h
  (repeat' ((try refine aw ?_);(conv=>arg 4;whnf);first | refine az ?_ |(refine sN ?_;intro b)|(refine sC ?_ ?_<;>intro h)|(refine au ?_ ?_<;>intro h<;>try contradiction)|(refine aa ?_;intro g c')| refine ae ?_ | refine ai ?_ | exact ax |(refine aj rfl ?_;intro D lL)| refine af ?_ ?_ | refine ah ?_ ?_ ?_ | fail));(all_goals refine av ?_)
  rw [hg]
  revert b;intro b4
  refine MS ?_
  (repeat' ((try refine aw ?_);(conv=>arg 4;whnf);first | refine aO ?_ |(refine sN ?_;intro b)|(refine sC ?_ ?_<;>intro h)|(refine au ?_ ?_<;>intro h<;>try contradiction)|(refine aa ?_;intro g c')| refine ae ?_ | refine ai ?_ | exact ax |(refine aj rfl ?_;intro D lL)| refine af ?_ ?_ | refine ah ?_ ?_ ?_ | fail));(all_goals refine av ?_)
  revert b;intro b5
  have h9:k+1-1≤9223372036854775807:=by omega
  have hW:((((List.replicate 4 0).set 0 (fU ((List.take 4 (List.drop 12 (dT key k).l)).getD 1 default)^^^rj 2 (k+1-1))).set 1 (fU ((List.take 4 (List.drop 12 (dT key k).l)).getD 2 default))).set 2 (fU ((List.take 4 (List.drop 12 (dT key k).l)).getD 3 default))).set 3 (fU ((List.take 4 (List.drop 12 (dT key k).l)).getD 0 default))=tC (dT key k).l k:=by
   have e:∀j,j<4→(List.take 4 (List.drop 12 (dT key k).l)).getD j default=(dT key k).l.getD (12+j) default:=fun j hj=>by
    simp only [List.getD_eq_getElem?_getD];rw [List.getElem?_take_of_lt hj,List.getElem?_drop]
   rw [e 1 (by omega),e 2 (by omega),e 3 (by omega),e 0 (by omega)];rfl
  apply jn
  ·intro H
   (repeat' ((try refine aw ?_);(conv=>arg 4;whnf);first | refine az ?_ |(refine sN ?_;intro b)|(refine sC ?_ ?_<;>intro h)|(refine au ?_ ?_<;>intro h<;>try contradiction)|(refine aa ?_;intro g c')|((first | refine aA EP ?_ | refine aA (DY (u:=2) (k:=k+1-1) h9) ?_);intro x hx;refine aH ?_)| refine ae ?_ | refine ai ?_ | exact ax |(refine aj rfl ?_;intro D lL)| refine af ?_ ?_ | refine ah ?_ ?_ ?_ | fail));(all_goals refine av ?_)
   all_goals (rw [hW];refine sV [2,3,4,6,38] ?_;(conv=>arg 4;whnf);revert b;exact H.go)
  intro b
  have hP:=fun i (hi:i<16)=>y4 key (k:=k) hi
  have hP0:=F3 key k h
  have hP16:=C7 key k h
  have hWl:(tC (dT key k).l k).length=4:=rfl
  clear hg hW
  generalize tC (dT key k).l k=W at hP hWl⊢
  generalize pT key k=Q at hP hP0 hP16
  generalize dT key k=B at hP hB⊢
  generalize ez key k=S0 at hP0 hP16 hl⊢
  refine dh [b,sb] (X:=Nat) (fun i=> [(38,vI i)]) (fun i=>i≤16) (fun i=> [iB b (bE (qH B.l W i)) 527,iB sb ((S0.set (k+1) (Q i)).flatMap dE) 504]) (fun i=>16-i) 0 (Nat.zero_le _) rfl (by rw [hP0];((repeat' (first | with_reducible exact ar _ | exact am _ | refine aE ?_ ?_ | refine aG inferInstance ?_ | refine aX ?_))<;>(try with_reducible rfl));rfl) ?_
  intro i hi
  (conv=>arg 2;simp only [List.cons_append,List.nil_append])
  have hw:(qH B.l W i).length=4:=by rw [qY];exact hWl
  have hs:(S0.set (k+1) (Q i)).length=11:=by rw [List.length_set,hl]
  by_cases h2:i<16
  ·(repeat' ((try refine aw ?_);(conv=>arg 4;whnf);first | refine az ?_ |(refine sN ?_;intro b)|(refine sC ?_ ?_<;>intro h)|(refine au ?_ ?_<;>intro h<;>try contradiction)|(refine aa ?_;intro g c')| refine ae ?_ | refine ai ?_ | exact ax |(refine aj rfl ?_;intro D lL)| refine af ?_ ?_ | refine ah ?_ ?_ ?_ | fail));(all_goals refine av ?_)
   refine a5 (i+1) rfl (by omega) ?_ (by omega)
   ((repeat' (first | with_reducible exact ar _ | exact am _ | refine aE ?_ ?_ | refine aG inferInstance ?_ | refine aX ?_))<;>(try with_reducible rfl))
   ·rw [←hP i h2]
    have hg1:(S0.set (k+1) (Q i)).getD (k+1) default=Q i:=by rw [List.getD_eq_getElem?_getD,List.getElem?_set_self (by omega)];rfl
    rw [hg1,List.set_set];rfl
   ·rfl
  ·obtain rfl:i=16:=by omega
   rw [hP16]
   (repeat' ((try refine aw ?_);(conv=>arg 4;whnf);first | refine az ?_ |(refine sN ?_;intro b)|(refine sC ?_ ?_<;>intro h)|(refine au ?_ ?_<;>intro h<;>try contradiction)|(refine aa ?_;intro g c')| refine ae ?_ | refine ai ?_ | exact ax |(refine aj rfl ?_;intro D lL)| refine af ?_ ?_ | refine ah ?_ ?_ ?_ | fail));(all_goals refine av ?_)
   refine a5 (k+1) rfl (by omega) ?_ (by omega)
   ((repeat' (first | with_reducible exact ar _ | exact am _ | refine aE ?_ ?_ | refine aG inferInstance ?_ | refine aX ?_))<;>(try with_reducible rfl))
 ·obtain rfl:k=10:=by omega
  have hl10:(ez key 10).length=11:=dP key 10
  (repeat' ((try refine aw ?_);(conv=>arg 4;whnf);first | refine az ?_ |(refine sN ?_;intro b)|(refine sC ?_ ?_<;>intro h)|(refine au ?_ ?_<;>intro h<;>try contradiction)|(refine aa ?_;intro g c')| refine ae ?_ | refine ai ?_ | exact ax |(refine aj rfl ?_;intro D lL)| refine af ?_ ?_ | refine ah ?_ ?_ ?_ | fail));(all_goals refine av ?_)
end Go.Proofs.YtbobhnldhpjdlaaGreatDoor
