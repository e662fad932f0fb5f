/- Lemmas and walks: what each function does, by its own code. No condition beyond those of each statement. -/
import Derived.Test.YtbobhnldhpjdlaaGreatDoorP13
import Derived.Test.YtbobhnldhpjdlaaGreatDoorP18
import Derived.Test.YtbobhnldhpjdlaaGreatDoorP19
import Derived.Test.YtbobhnldhpjdlaaGreatDoorP22
set_option linter.all false
set_option linter.unusedVariables false
namespace Go.Proofs.YtbobhnldhpjdlaaGreatDoor
open Go Go.RowKit Go.Cs Go.Cz
set_option maxRecDepth 100000
set_option maxHeartbeats 1000000
theorem dP (key:B16) (k:Nat):(ez key k).length=11:=by simp [ez]
theorem Ac (key:B16) (k:Nat) {j:Nat} (h:j<11):(ez key k).getD j default=if j≤k then dT key j else B16.zero:=by simp [ez,h]
def bset (x:B16) (i:Nat) (v:UInt8):B16:=⟨x.l.set i v,by simp [x.h]⟩
instance {x:B16} {i:Nat} {v:UInt8}:Ub (dE x) (i*1) [.int .u8 (v.toNat:Int)] (dE (bset x i v)) (i<16):=⟨fun h=>by rw [dE,dE,bL,bL];exact j6 (K:=cB) v (by rw [x.h];exact h)⟩
theorem q9:∀(l:List B16),(l.flatMap dE).length=16*l.length
 | []=>rfl
 | x::r=>by rw [List.flatMap_cons,List.length_append,q9 r];simp [dE,x.h];omega
@[simp] theorem JI (key:B16) (k:Nat):((ez key k).flatMap dE).length=176:=by rw [q9,dP]
def pT (key:B16) (k i:Nat):B16:=⟨(gQ (dT key (k+1)).l B16.zero.l i++List.replicate 16 0).take 16,by simp⟩
theorem oV (key:B16) (k:Nat) {i:Nat} (h:i≤16):(pT key k i).l=gQ (dT key (k+1)).l B16.zero.l i:=by
 have:(gQ (dT key (k+1)).l B16.zero.l i).length=16:=by
  have h1:=(dT key (k+1)).h
  have h2:=B16.zero.h
  simp [gQ,h1,h2];omega
 show (gQ _ _ i++List.replicate 16 0).take 16=_
 exact List.take_left' this
theorem F3 (key:B16) (k:Nat) (h:k<10):(ez key k).set (k+1) (pT key k 0)=ez key k:=by
 have e:pT key k 0=B16.zero:=B16.ext' (by rw [oV key k (by omega),eX])
 apply List.ext_getElem?
 intro j
 by_cases hj:j=k+1
 ·subst hj
  rw [List.getElem?_set_self (by rw [dP];omega),e]
  simp only [ez,List.getElem?_map]
  rw [List.getElem?_range (by omega)]
  simp only [Option.map_some]
  rw [if_neg (by omega)]
 ·rw [List.getElem?_set_ne (by omega)]
theorem C7 (key:B16) (k:Nat) (h:k<10):(ez key k).set (k+1) (pT key k 16)=ez key (k+1):=by
 have e:pT key k 16=dT key (k+1):=B16.ext' (by rw [oV key k (by omega),gy (Nat.le_of_eq (dT key (k+1)).h) (Nat.le_of_eq B16.zero.h)])
 apply List.ext_getElem?
 intro j
 by_cases hj:j=k+1
 ·subst hj
  rw [List.getElem?_set_self (by rw [dP];omega),e]
  simp [ez,show k+1<11 by omega]
 ·rw [List.getElem?_set_ne (by omega)]
  by_cases h11:j<11
  ·simp only [ez,List.getElem?_map]
   rw [List.getElem?_range h11]
   simp only [Option.map_some]
   by_cases h1:j≤k
   ·rw [if_pos h1,if_pos (by omega)]
   ·rw [if_neg h1,if_neg (by omega)]
  ·rw [List.getElem?_eq_none (by rw [dP];omega),List.getElem?_eq_none (by rw [dP];omega)]
theorem y4 (key:B16) {k i:Nat} (h:i<16):bset (pT key k i) i ((qH (dT key k).l (tC (dT key k).l k) (i+1)).getD (i%4) default)=pT key k (i+1):=by
 apply B16.ext'
 show (pT key k i).l.set i _=_
 rw [oV key k (by omega),oV key k (by omega)]
 have h1:(dT key (k+1)).l.length=16:=(dT key (k+1)).h
 rw [eF (by rw [h1,B16.zero.h]) (by rw [B16.zero.h];exact h)]
 show _=(HV (dT key k) k).l.getD i default
 show _=(Df (dT key k).l (tC (dT key k).l k)).getD i default
 rw [Df,List.getD_eq_getElem?_getD (l:=List.map _ _),List.getElem?_map,List.getElem?_range h];rfl
theorem JE (b:List UInt8) (k:Nat):(tC b k).length=4:=rfl
theorem G2 {key:B16}:Zp Tryz.prog 301 [vA (dE key)] [] [] Unit (fun _=>True) (fun _=>vA ((ez key 10).flatMap dE)) (fun _=> []) (fun _=> []):=by
 refine ak fun G=> ?_
 (repeat' ((try refine aw ?_);(conv=>arg 4;whnf);first | refine az ?_ |(refine sN ?_;intro b)| exact ax | refine af ?_ ?_ | fail));(all_goals refine av ?_)
 rename_i kb
 refine sV [2,3] ?_
 (conv=>arg 4;whnf)
 refine cN (X:=Nat) (fun k=> [(3,vI (k+1))]) (fun k=>k≤10) (fun k=> [iB b ((ez key k).flatMap dE) 504]) (fun k=>10-k) 0 (Nat.zero_le _) rfl ?_ ?_
 ·rw [show ez key 0=(List.replicate 11 B16.zero).set 0 key from rfl];((repeat' (first | with_reducible exact ar _ | exact am _ | refine aE ?_ ?_ | fail))<;>(try with_reducible rfl))
 intro k hk
 revert b;intro sb
 by_cases h:k<10
 ·have hg:(ez key k).getD (k+1-1) default=dT key k:=by rw [show k+1-1=k from rfl,Ac key k (by omega),if_pos (Nat.le_refl _)]
  have hl:=dP key k
  have hB:(dT key k).l.length=16:=(dT key k).h
  (repeat' ((try refine aw ?_);(conv=>arg 4;whnf);first | refine az ?_ |(refine sN ?_;intro b)| exact ax | refine af ?_ ?_ | fail));(all_goals refine av ?_)
  rw [hg]
  revert b;intro b4
  refine MS ?_
  (repeat' ((try refine aw ?_);(conv=>arg 4;whnf);first | refine aO ?_ |(refine sN ?_;intro b)| exact ax | refine af ?_ ?_ | fail));(all_goals refine av ?_)
  revert b;intro b5
  have h9:k+1-1≤9223372036854775807:=by omega
  have hW:((((List.replicate 4 0).set 0 (fU ((List.take 4 (List.drop 12 (dT key k).l)).getD 1 default)^^^rj 2 (k+1-1))).set 1 (fU ((List.take 4 (List.drop 12 (dT key k).l)).getD 2 default))).set 2 (fU ((List.take 4 (List.drop 12 (dT key k).l)).getD 3 default))).set 3 (fU ((List.take 4 (List.drop 12 (dT key k).l)).getD 0 default))=tC (dT key k).l k:=by
   have e:∀j,j<4→(List.take 4 (List.drop 12 (dT key k).l)).getD j default=(dT key k).l.getD (12+j) default:=fun j hj=>by
    simp only [List.getD_eq_getElem?_getD];rw [List.getElem?_take_of_lt hj,List.getElem?_drop]
   rw [e 1 (by omega),e 2 (by omega),e 3 (by omega),e 0 (by omega)];rfl
  apply jn
  ·intro H
   (repeat' ((try refine aw ?_);(conv=>arg 4;whnf);first | refine az ?_ |(refine sN ?_;intro b)|((first | refine aA EP ?_ | refine aA (DY (u:=2) (k:=k+1-1) h9) ?_);intro x hx;refine aH ?_)| exact ax | refine af ?_ ?_ | fail));(all_goals refine av ?_)
   all_goals (rw [hW];refine sV [2,3,4,6,38] ?_;(conv=>arg 4;whnf);revert b;exact H.go)
  intro b
  have hP:=fun i (hi:i<16)=>y4 key (k:=k) hi
  have hP0:=F3 key k h
  have hP16:=C7 key k h
  have hWl:(tC (dT key k).l k).length=4:=rfl
  clear hg hW
  generalize tC (dT key k).l k=W at hP hWl⊢
  generalize pT key k=Q at hP hP0 hP16
  generalize dT key k=B at hP hB⊢
  generalize ez key k=S0 at hP0 hP16 hl⊢
  refine dh [b,sb] (X:=Nat) (fun i=> [(38,vI i)]) (fun i=>i≤16) (fun i=> [iB b (bE (qH B.l W i)) 527,iB sb ((S0.set (k+1) (Q i)).flatMap dE) 504]) (fun i=>16-i) 0 (Nat.zero_le _) rfl (by rw [hP0];((repeat' (first | with_reducible exact ar _ | exact am _ | refine aE ?_ ?_ | fail))<;>(try with_reducible rfl));rfl) ?_
  intro i hi
  (conv=>arg 2;simp only [List.cons_append,List.nil_append])
  have hw:(qH B.l W i).length=4:=by rw [qY];exact hWl
  have hs:(S0.set (k+1) (Q i)).length=11:=by rw [List.length_set,hl]
  by_cases h2:i<16
  ·(repeat' ((try refine aw ?_);(conv=>arg 4;whnf);first | refine az ?_ |(refine sN ?_;intro b)| exact ax | refine af ?_ ?_ | fail));(all_goals refine av ?_)
   refine a5 (i+1) rfl (by omega) ?_ (by omega)
   ((repeat' (first | with_reducible exact ar _ | exact am _ | refine aE ?_ ?_ | fail))<;>(try with_reducible rfl))
   ·rw [←hP i h2]
    have hg1:(S0.set (k+1) (Q i)).getD (k+1) default=Q i:=by rw [List.getD_eq_getElem?_getD,List.getElem?_set_self (by omega)];rfl
    rw [hg1,List.set_set];rfl
   ·rfl
  ·obtain rfl:i=16:=by omega
   rw [hP16]
   (repeat' ((try refine aw ?_);(conv=>arg 4;whnf);first | refine az ?_ |(refine sN ?_;intro b)| exact ax | refine af ?_ ?_ | fail));(all_goals refine av ?_)
   refine a5 (k+1) rfl (by omega) ?_ (by omega)
   ((repeat' (first | with_reducible exact ar _ | exact am _ | refine aE ?_ ?_ | fail))<;>(try with_reducible rfl))
 ·obtain rfl:k=10:=by omega
  have hl10:(ez key 10).length=11:=dP key 10
  (repeat' ((try refine aw ?_);(conv=>arg 4;whnf);first | refine az ?_ |(refine sN ?_;intro b)| exact ax | refine af ?_ ?_ | fail));(all_goals refine av ?_)
end Go.Proofs.YtbobhnldhpjdlaaGreatDoor
namespace Go.Proofs.YtbobhnldhpjdlaaGreatDoor
open Go Go.RowKit Go.Cs Go.Cz
set_option maxRecDepth 100000
set_option maxHeartbeats 8000000
def qz (key:B16):List Value:=(ez key 10).flatMap dE
instance {key:B16}:On (qz key):=⟨(inferInstance:On ((ez key 10).flatMap dE)).on⟩
@[simp] theorem IT (key:B16):(qz key).length=176:=by unfold qz;rw [b8 (K:=dE) (m:=16),dP]
theorem GQ {key:B16}:Zp Tryz.prog 301 [vA (dE key)] [] [] Unit (fun _=>True) (fun _=>vA (qz key)) (fun _=> []) (fun _=> []):=G2
theorem tX {key y:B16}:Zp Tryz.prog 302 [vA (qz key),vA (dE y)] [] [] Unit (fun _=>True) (fun _=>vA (dE (xQ (ez key 10) y))) (fun _=> []) (fun _=> []):=JY (dP key 10)
theorem uK {key:B16} {y:Non} {l:List UInt8} {j:Nat} (h:j<l.length):(li key y l).getD j default=l.getD j default^^^(B9 key y (j/16)).l.getD (j%16) default:=by
 simp [li,List.getD,h]
theorem JR {key:B16} {y:Non} {a:Option Addr} {c:Nat} {d:Dig}:Zp Tryz.prog 193 [vA (dE key),vA (br y),vI 0, .slice a 32 c] [] [Sl cB a 32 c d.l] Nat (fun _=>True) (fun b=> .tuple #[.slice (some ⟨b,0,none⟩) 32 32,vI 0]) (fun b=> [iB b (bE (li key y d.l)) 5]) (fun _=> []):=by
 refine ak fun G=> ?_
 refine aS 0 ?_
 intro hn hc hm ha
 have hd:=d.h
 obtain ⟨sb,o,rfl⟩:=ha (by omega) (by decide)
 (repeat' ((try refine aw ?_);(conv=>arg 4;whnf);first | refine az ?_ |(refine sN ?_;intro b)|((first | refine aA (EK (o:=0) (n:=32) (by decide)) ?_ | refine aA GQ ?_);intro x hx;refine aH ?_)| refine ae ?_ | refine ai ?_ |(refine aj rfl ?_;intro D lL)| fail));(all_goals refine av ?_)
 rename_i kb yb rb eb ob tb ab kp k2 y2 cb
 revert b;intro zb
 have hX:(li key y d.l).length=32:=by rw [Dg,hd]
 refine fL kp [.int .i64 ((0:Nat):Int)] rfl ?_
 refine fL cb [.int .u32 ((0:Nat):Int)] rfl ?_
 refine fL ob (bE (gQ (li key y d.l) d.l 0)) (by rw [eX,bL,Nat.min_self,List.take_of_length_le (by omega)]) ?_
 refine gJ 3 (bN ?_)
 (repeat' ((try refine aw ?_);(conv=>arg 4;whnf);first | refine aO ?_ |(refine sN ?_;intro b)| refine ae ?_ | refine ai ?_ |(refine aj rfl ?_;intro D lL)| fail));(all_goals refine av ?_)
 refine gM [iB zb (qz key) 504,iB y2 (br y) 65,iB cb [.int .u32 ((0:Nat):Int)] 63] [] cD (fun _ h=>by cases h) rfl ?_
 (repeat' ((try refine aw ?_);(conv=>arg 4;whnf);first | refine az ?_ |(refine sN ?_;intro b)|((first | refine aA (zZ (y:=y) (c:=0) (by decide)) ?_ | refine aA tX ?_);intro x hx;refine aH ?_)| refine ae ?_ | refine ai ?_ |(refine aj rfl ?_;intro D lL)| fail));(all_goals refine av ?_)
 have hk0:=(B9 key y 0).h
 have he0:∀i,i<16→(gQ (li key y d.l) d.l i).getD i default^^^(B9 key y 0).l.getD i default=(li key y d.l).getD i default:=fun i hi=>by
  rw [pG (by omega) (Nat.le_refl _) (by omega)]
  rw [show (li key y d.l).getD i default=_ from uK (by omega),show i/16=0 by omega,show i%16=i by omega]
 rw [show xQ (ez key 10) (rN y 0)=B9 key y 0 from rfl]
 rw [show 0+0*1=0 from rfl]
 refine dh [ab,ob] (X:=Nat) (fun i=> [(47,vI i)]) (fun i=>i≤16) (fun i=> [iB ab [vI i] 3,iB ob (bE (gQ (li key y d.l) d.l i)) 5]) (fun i=>16-i) 0 (Nat.zero_le _) rfl (by ((repeat' (first | with_reducible exact ar _ | exact am _ | refine aE ?_ ?_ | refine aX ?_))<;>(try with_reducible rfl));rfl) ?_
 intro i hi
 (conv=>arg 2;simp only [List.cons_append,List.nil_append])
 have hT:(gQ (li key y d.l) d.l i).length=32:=by rw [fS (by omega) (by omega),hd]
 by_cases h2:i<16
 ·(repeat' ((try refine aw ?_);(conv=>arg 4;whnf);first | refine az ?_ |(refine sN ?_;intro b)| refine ae ?_ | refine ai ?_ |(refine aj rfl ?_;intro D lL)| fail));(all_goals refine av ?_)
  refine a5 (i+1) rfl (by omega) ?_ (by omega)
  ((repeat' (first | with_reducible exact ar _ | exact am _ | refine aE ?_ ?_ | refine aX ?_))<;>(try with_reducible rfl))
  rw [he0 i h2,eF (by omega) (by omega) rfl]
 obtain rfl:i=16:=by omega
 (repeat' ((try refine aw ?_);(conv=>arg 4;whnf);first | refine aO ?_ |(refine sN ?_;intro b)| refine ae ?_ | refine ai ?_ |(refine aj rfl ?_;intro D lL)| fail));(all_goals refine av ?_)
 refine fL cb [.int .u32 ((1:Nat):Int)] rfl ?_
 refine fL kp [.int .i64 ((0:Nat):Int)] rfl ?_
 refine bN ?_
 (repeat' ((try refine aw ?_);(conv=>arg 4;whnf);first | refine aO ?_ |(refine sN ?_;intro b)| refine ae ?_ | refine ai ?_ |(refine aj rfl ?_;intro D lL)| fail));(all_goals refine av ?_)
 refine gM [iB zb (qz key) 504,iB y2 (br y) 65,iB cb [.int .u32 ((1:Nat):Int)] 63] [] cD (fun _ h=>by cases h) rfl ?_
 (repeat' ((try refine aw ?_);(conv=>arg 4;whnf);first | refine az ?_ |(refine sN ?_;intro b)|((first | refine aA (zZ (y:=y) (c:=1) (by decide)) ?_ | refine aA tX ?_);intro x hx;refine aH ?_)| refine ae ?_ | refine ai ?_ |(refine aj rfl ?_;intro D lL)| fail));(all_goals refine av ?_)
 have hk1:=(B9 key y 1).h
 have he1:∀i,i<16→(gQ (li key y d.l) d.l (16+i)).getD (16+i) default^^^(B9 key y 1).l.getD i default=(li key y d.l).getD (16+i) default:=fun i hi=>by
  rw [pG (by omega) (Nat.le_refl _) (by omega)]
  rw [show (li key y d.l).getD (16+i) default=_ from uK (by omega),show (16+i)/16=1 by omega,show (16+i)%16=i by omega]
 rw [show xQ (ez key 10) (rN y 1)=B9 key y 1 from rfl]
 rw [show 0+0*1=0 from rfl]
 refine dh [ab,ob] (X:=Nat) (fun i=> [(47,vI i)]) (fun i=>i≤16) (fun i=> [iB ab [vI (16+i)] 3,iB ob (bE (gQ (li key y d.l) d.l (16+i))) 5]) (fun i=>16-i) 0 (Nat.zero_le _) rfl cD ?_
 intro i hi
 (conv=>arg 2;simp only [List.cons_append,List.nil_append])
 have hT:(gQ (li key y d.l) d.l (16+i)).length=32:=by rw [fS (by omega) (by omega),hd]
 by_cases h2:i<16
 ·(repeat' ((try refine aw ?_);(conv=>arg 4;whnf);first | refine az ?_ |(refine sN ?_;intro b)| refine ae ?_ | refine ai ?_ |(refine aj rfl ?_;intro D lL)| fail));(all_goals refine av ?_)
  refine a5 (i+1) rfl (by omega) ?_ (by omega)
  ((repeat' (first | with_reducible exact ar _ | exact am _ | refine aE ?_ ?_ | refine aX ?_))<;>(try with_reducible rfl))
  all_goals first |(rw [he1 i h2,eF (by omega) (by omega) rfl];done)|(rw [he1 i h2,eF (by omega) (by omega) rfl];rfl)| rfl
 obtain rfl:i=16:=by omega
 (repeat' ((try refine aw ?_);(conv=>arg 4;whnf);first | refine aO ?_ |(refine sN ?_;intro b)| refine ae ?_ | refine ai ?_ |(refine aj rfl ?_;intro D lL)| fail));(all_goals refine av ?_)
 refine fL cb [.int .u32 ((2:Nat):Int)] rfl ?_
 refine fL kp [.int .i64 ((0:Nat):Int)] rfl ?_
 refine fL ab [vI 32] rfl ?_
 refine bN ?_
 (repeat' ((try refine aw ?_);(conv=>arg 4;whnf);first | refine aO ?_ |(refine sN ?_;intro b)| refine ae ?_ | refine ai ?_ |(refine aj rfl ?_;intro D lL)| fail));(all_goals refine av ?_)
 refine gM [iB zb (qz key) 504,iB y2 (br y) 65,iB cb [.int .u32 ((2:Nat):Int)] 63] [] cD (fun _ h=>by cases h) rfl ?_
 (repeat' ((try refine aw ?_);(conv=>arg 4;whnf);first | refine az ?_ |(refine sN ?_;intro b)|((first | refine aA (zZ (y:=y) (c:=2) (by decide)) ?_ | refine aA tX ?_);intro x hx;refine aH ?_)| refine ae ?_ | refine ai ?_ |(refine aj rfl ?_;intro D lL)| fail));(all_goals refine av ?_)
 have hk2:=(xQ (ez key 10) (rN y 2)).h
 have hT:(gQ (li key y d.l) d.l (16+16)).length=32:=by rw [fS (by omega) (by omega),hd]
 rw [show 0+0*1=0 from rfl]
 refine gJ 1 (bN ?_)
 (repeat' ((try refine aw ?_);(conv=>arg 4;whnf);first | refine az ?_ |(refine sN ?_;intro b)| refine ae ?_ | refine ai ?_ |(refine aj rfl ?_;intro D lL)| fail));(all_goals refine av ?_)
 rw [show gQ (li key y d.l) d.l (16+16)=li key y d.l from gy (by omega) (by omega)]
 exact aD ob True.intro rfl (by ((repeat' (first | with_reducible exact ar _ | exact am _ | refine aE ?_ ?_ | fail))<;>(try with_reducible rfl)))
end Go.Proofs.YtbobhnldhpjdlaaGreatDoor
namespace Go.Proofs.YtbobhnldhpjdlaaGreatDoor
open Go Go.RowKit Go.Cs Go.Cz
set_option maxRecDepth 100000
set_option maxHeartbeats 1000000
theorem Ap {i:Nat} {y:Non} {d:Dig} (hi:i<4096):Zp Tryz.prog 90 [vI i,vA (br y),vA (ay d)] [] [] Nat (fun _=>True) (fun b=> .slice (some ⟨b,0,none⟩) 48 48) (fun b=> [iB b (bE (fz i y d)) 5]) (fun _=> []):=by
 refine ak fun G=> ?_
 have h1:i<4294967296:=by omega
 have hd:=d.h
 have hnl:=d4 y
 have e: [be i 4,eA y,d.l].flatten=fz i y d:=by simp [fz,eA,List.append_assoc]
 have hl:(fz i y d).length=48:=by simp [fz,d.h]
 have hle: [be i 4,eA y,d.l].flatten.length≤1099511627776:=by rw [e,hl];decide
 (repeat' ((try refine aw ?_);(conv=>arg 4;whnf);first | refine az ?_ |(refine sN ?_;intro b)|((first | refine aA (jI (v:=i) h1) ?_ | refine aA oZ ?_ | refine aA (i7 (ls:= [be i 4,eA y,d.l]) hle) ?_);intro x hx;refine aH ?_)| fail));(all_goals refine av ?_)
 all_goals refine aD x True.intro (by rw [e,hl];rfl) ?_
 all_goals rw [e]
 all_goals ((repeat' (first | exact am _ | refine aE ?_ ?_ | fail))<;>(try with_reducible rfl))
theorem yW {k:Key} {y:Non} {d:Dig}:Zp Tryz.prog 89 [vA (bC k),vA (br y),vA (ay d)] [] [] Unit (fun _=>True) (fun _=>vA (ay (cJ k y d))) (fun _=> []) (fun _=> []):=by
 refine ak fun G=> ?_
 (repeat' ((try refine aw ?_);(conv=>arg 4;whnf);first | refine az ?_ |(refine sN ?_;intro b)|(refine aA (JR (d:=d)) ?_;intro x hx;refine aH ?_)| exact ax | fail));(all_goals refine av ?_)
theorem Gi {k:Key} {i:Nat} {y:Non} {d:Dig} {q:Value×Value} (hi:i<4096):Zp Tryz.prog 19 [vA (bC k),vI i,vA (br y),vA (ay d)] [] [Gs q] Unit (fun _=>True) (fun _=> .tuple #[vA (ay (cJ k y d)),vA (ay (il k i y (cJ k y d))),vI 0]) (fun _=> []) (fun _=> []):=by
 refine ak fun G=> ?_
 have hk:k.mac.l.length≤64:=by rw [k.mac.h];decide
 have e: [fz i y (cJ k y d)].flatten=fz i y (cJ k y d):=by simp
 have hkl:=k.mac.h
 have hml:(fz i y (cJ k y d)).length=48:=by simp [fz,Dig.h]
 have hm: [fz i y (cJ k y d)].flatten.length≤576460752303423488:=by rw [e];simp [fz,Dig.h]
 (repeat' ((try refine aw ?_);(conv=>arg 4;whnf);first | refine aO ?_ |(refine sN ?_;intro b)|(refine aA yW ?_;intro x hx;refine aH ?_)| refine ae ?_ | exact ax | fail));(all_goals refine av ?_)
 (refine bh ?_;(conv=>arg 4;whnf);refine bc rfl ?_)
 (repeat' ((try refine aw ?_);(conv=>arg 4;whnf);first | refine aO ?_ |(refine sN ?_;intro b)|((first | refine aA (Ap hi) ?_ | refine aA (qj (l:=k.mac.l) (ls:= [fz i y (cJ k y d)]) hk hm) ?_);intro x hx;refine aH ?_)| refine ae ?_ | exact ax | fail));(all_goals refine av ?_)
 rw [e]
 refine FP rfl ?_
 (repeat' ((try refine aw ?_);(conv=>arg 4;whnf);first | refine az ?_ |(refine sN ?_;intro b)| refine ae ?_ | exact ax | fail));(all_goals refine av ?_)
theorem Fj {k:Key} {i:Nat} {y:Non} {d t:Dig} {q:Value×Value} (hi:i<4096) (ht:il k i y d=t):Zp Tryz.prog 20 [vA (bC k),vI i,vA (br y),vA (ay d),vA (ay t)] [] [Gs q] Unit (fun _=>True) (fun _=> .tuple #[vA (ay (cJ k y d)),vI 0]) (fun _=> []) (fun _=> []):=by
 refine ak fun G=> ?_
 have hkl:=k.mac.h
 have hk:k.mac.l.length≤64:=by rw [k.mac.h];decide
 have hl:(fz i y d).length=48:=by simp [fz,d.h]
 have hm:(fz i y d).length≤576460752303423488:=by omega
 have hB:((ej k.mac.l (fz i y d)).l==t.l)=true:=by subst ht;simp [il]
 (repeat' ((try refine aw ?_);(conv=>arg 4;whnf);first | refine az ?_ |(refine sN ?_;intro b)|((first | refine aA (Ap hi) ?_ | refine aA (Eb (t:=t) hk hm) ?_ | refine aA yW ?_);intro x hx;refine aH ?_)| refine ae ?_ | exact ax | fail));(all_goals refine av ?_)
 rw [hB]
 (repeat' ((try refine aw ?_);(conv=>arg 4;whnf);first | refine az ?_ |(refine sN ?_;intro b)|(refine aA yW ?_;intro x hx;refine aH ?_)| refine ae ?_ | exact ax | fail));(all_goals refine av ?_)
theorem FC {k:Key} {i:Nat} {y:Non} {d t:Dig} {q:Value×Value} (hi:i<4096) (ht:¬il k i y d=t):Zp Tryz.prog 20 [vA (bC k),vI i,vA (br y),vA (ay d),vA (ay t)] [] [Gs q] Unit (fun _=>True) (fun _=> .tuple #[vA (ay Dig.zero),vI 9]) (fun _=> []) (fun _=> []):=by
 refine ak fun G=> ?_
 have hkl:=k.mac.h
 have hk:k.mac.l.length≤64:=by rw [k.mac.h];decide
 have hl:(fz i y d).length=48:=by simp [fz,d.h]
 have hm:(fz i y d).length≤576460752303423488:=by omega
 have hB:((ej k.mac.l (fz i y d)).l==t.l)=false:=by
  rw [beq_eq_false_iff_ne];exact fun g=>ht (Dig.ext' g)
 (repeat' ((try refine aw ?_);(conv=>arg 4;whnf);first | refine az ?_ |(refine sN ?_;intro b)|((first | refine aA (Ap hi) ?_ | refine aA (Eb (t:=t) hk hm) ?_);intro x hx;refine aH ?_)| refine ae ?_ | exact ax | fail));(all_goals refine av ?_)
 rw [hB]
 (repeat' ((try refine aw ?_);(conv=>arg 4;whnf);first | refine az ?_ |(refine sN ?_;intro b)| refine ae ?_ | exact ax | fail));(all_goals refine av ?_)
end Go.Proofs.YtbobhnldhpjdlaaGreatDoor
