/- Lemmas and walks: what each function does, by its own code. No condition beyond those of each statement. -/
import Derived.Test.YtbobhnldhpjdlaaGreatDoorP14
import Derived.Test.YtbobhnldhpjdlaaGreatDoorP20
set_option linter.all false
set_option linter.unusedVariables false
namespace Go.Proofs.YtbobhnldhpjdlaaGreatDoor
open Go Go.RowKit Go.Cs Go.Cz
set_option maxRecDepth 100000
set_option maxHeartbeats 1000000
theorem eL (key:B16) (k:Nat):(fq key k).length=11:=by simp [fq]
theorem Ar (key:B16) (k:Nat) {j:Nat} (h:j<11):(fq key k).getD j default=if j≤k then eU key j else B16.zero:=by simp [fq,h]
def bset (x:B16) (i:Nat) (v:UInt8):B16:=⟨x.l.set i v,by simp [x.h]⟩
instance {x:B16} {i:Nat} {v:UInt8}:Ub (fz x) (i*1) [.int .u8 (v.toNat:Int)] (fz (bset x i v)) (i<16):=⟨fun h=>by rw [fz,fz,cu,cu];exact k7 (K:=cB) v (by rw [x.h];exact h)⟩
theorem qB:∀(l:List B16),(l.flatMap fz).length=16*l.length
 | []=>rfl
 | x::r=>by rw [List.flatMap_cons,List.length_append,qB r];simp [fz,x.h];omega
@[simp] theorem IA (key:B16) (k:Nat):((fq key k).flatMap fz).length=176:=by rw [qB,eL]
def oZ (key:B16) (k i:Nat):B16:=⟨(ij (eU key (k+1)).l B16.zero.l i++List.replicate 16 0).take 16,by simp⟩
theorem qh (key:B16) (k:Nat) {i:Nat} (h:i≤16):(oZ key k i).l=ij (eU key (k+1)).l B16.zero.l i:=by
 have:(ij (eU key (k+1)).l B16.zero.l i).length=16:=by
  have h1:=(eU key (k+1)).h
  have h2:=B16.zero.h
  simp [ij,h1,h2];omega
 show (ij _ _ i++List.replicate 16 0).take 16=_
 exact List.take_left' this
theorem FB (key:B16) (k:Nat) (h:k<10):(fq key k).set (k+1) (oZ key k 0)=fq key k:=by
 have e:oZ key k 0=B16.zero:=B16.ext' (by rw [qh key k (by omega),fZ])
 apply List.ext_getElem?
 intro j
 by_cases hj:j=k+1
 ·subst hj
  rw [List.getElem?_set_self (by rw [eL];omega),e]
  simp only [fq,List.getElem?_map]
  rw [List.getElem?_range (by omega)]
  simp only [Option.map_some]
  rw [if_neg (by omega)]
 ·rw [List.getElem?_set_ne (by omega)]
theorem C7 (key:B16) (k:Nat) (h:k<10):(fq key k).set (k+1) (oZ key k 16)=fq key (k+1):=by
 have e:oZ key k 16=eU key (k+1):=B16.ext' (by rw [qh key k (by omega),hJ (Nat.le_of_eq (eU key (k+1)).h) (Nat.le_of_eq B16.zero.h)])
 apply List.ext_getElem?
 intro j
 by_cases hj:j=k+1
 ·subst hj
  rw [List.getElem?_set_self (by rw [eL];omega),e]
  simp [fq,show k+1<11 by omega]
 ·rw [List.getElem?_set_ne (by omega)]
  by_cases h11:j<11
  ·simp only [fq,List.getElem?_map]
   rw [List.getElem?_range h11]
   simp only [Option.map_some]
   by_cases h1:j≤k
   ·rw [if_pos h1,if_pos (by omega)]
   ·rw [if_neg h1,if_neg (by omega)]
  ·rw [List.getElem?_eq_none (by rw [eL];omega),List.getElem?_eq_none (by rw [eL];omega)]
theorem zH (key:B16) {k i:Nat} (h:i<16):bset (oZ key k i) i ((rk (eU key k).l (sM (eU key k).l k) (i+1)).getD (i%4) default)=oZ key k (i+1):=by
 apply B16.ext'
 show (oZ key k i).l.set i _=_
 rw [qh key k (by omega),qh key k (by omega)]
 have h1:(eU key (k+1)).l.length=16:=(eU key (k+1)).h
 rw [fE (by rw [h1,B16.zero.h]) (by rw [B16.zero.h];exact h)]
 show _=(HM (eU key k) k).l.getD i default
 show _=(Dq (eU key k).l (sM (eU key k).l k)).getD i default
 rw [Dq,List.getD_eq_getElem?_getD (l:=List.map _ _),List.getElem?_map,List.getElem?_range h];rfl
theorem Iu (b:List UInt8) (k:Nat):(sM b k).length=4:=rfl
theorem GN {key:B16}:Zp Tryz.prog 301 [vA (fz key)] [] [] Unit (fun _=>True) (fun _=>vA ((fq key 10).flatMap fz)) (fun _=> []) (fun _=> []):=by
 refine an fun G=> ?_
 (repeat' ((try refine au ?_);(conv=>arg 4;whnf);first | refine ax ?_ |(refine sN ?_;intro b)|(refine sC ?_ ?_<;>intro h)|(refine ar ?_ ?_<;>intro h<;>try contradiction)|(refine aa ?_;intro g c')| refine ae ?_ | refine ai ?_ | exact aw |(refine ak rfl ?_;intro D lL)| refine ah ?_ ?_ | refine aj ?_ ?_ ?_ | fail));(all_goals refine av ?_)
 rename_i kb
 refine tC [2,3] ?_
 (conv=>arg 4;whnf)
 refine dC (X:=Nat) (fun k=> [(3,vI (k+1))]) (fun k=>k≤10) (fun k=> [iB b ((fq key k).flatMap fz) 504]) (fun k=>10-k) 0 (Nat.zero_le _) rfl ?_ ?_
 ·rw [show fq key 0=(List.replicate 11 B16.zero).set 0 key from rfl];((repeat' (first | with_reducible exact am _ | exact af _ | refine aB ?_ ?_ | refine aD inferInstance ?_))<;>(try with_reducible rfl))
 intro k hk
 revert b;intro sb
 by_cases h:k<10
 ·have hg:(fq key k).getD (k+1-1) default=eU key k:=by rw [show k+1-1=k from rfl,Ar key k (by omega),if_pos (Nat.le_refl _)]
  have hl:=eL key k
  have hB:(eU key k).l.length=16:=(eU key k).h
  (repeat' ((try refine au ?_);(conv=>arg 4;whnf);first | refine ax ?_ |(refine sN ?_;intro b)|(refine sC ?_ ?_<;>intro h)|(refine ar ?_ ?_<;>intro h<;>try contradiction)|(refine aa ?_;intro g c')| refine ae ?_ | refine ai ?_ | exact aw |(refine ak rfl ?_;intro D lL)| refine ah ?_ ?_ | refine aj ?_ ?_ ?_ | fail));(all_goals refine av ?_)
  rw [hg]
  revert b;intro b4
  refine L1 ?_
  (repeat' ((try refine au ?_);(conv=>arg 4;whnf);first | refine cp ?_ |(refine sN ?_;intro b)|(refine sC ?_ ?_<;>intro h)|(refine ar ?_ ?_<;>intro h<;>try contradiction)|(refine aa ?_;intro g c')| refine ae ?_ | refine ai ?_ | exact aw |(refine ak rfl ?_;intro D lL)| refine ah ?_ ?_ | refine aj ?_ ?_ ?_ | fail));(all_goals refine av ?_)
  revert b;intro b5
  have h9:k+1-1≤9223372036854775807:=by omega
  have hW:((((List.replicate 4 0).set 0 (gA ((List.take 4 (List.drop 12 (eU key k).l)).getD 1 default)^^^qr 2 (k+1-1))).set 1 (gA ((List.take 4 (List.drop 12 (eU key k).l)).getD 2 default))).set 2 (gA ((List.take 4 (List.drop 12 (eU key k).l)).getD 3 default))).set 3 (gA ((List.take 4 (List.drop 12 (eU key k).l)).getD 0 default))=sM (eU key k).l k:=by
   have e:∀j,j<4→(List.take 4 (List.drop 12 (eU key k).l)).getD j default=(eU key k).l.getD (12+j) default:=fun j hj=>by
    simp only [List.getD_eq_getElem?_getD];rw [List.getElem?_take_of_lt hj,List.getElem?_drop]
   rw [e 1 (by omega),e 2 (by omega),e 3 (by omega),e 0 (by omega)];rfl
  apply jn
  ·intro H
   (repeat' ((try refine au ?_);(conv=>arg 4;whnf);first | refine ax ?_ |(refine sN ?_;intro b)|(refine sC ?_ ?_<;>intro h)|(refine ar ?_ ?_<;>intro h<;>try contradiction)|(refine aa ?_;intro g c')|((first | refine ay ES ?_ | refine ay (EV (u:=2) (k:=k+1-1) h9) ?_);intro x hx;refine aN ?_)| refine ae ?_ | refine ai ?_ | exact aw |(refine ak rfl ?_;intro D lL)| refine ah ?_ ?_ | refine aj ?_ ?_ ?_ | fail));(all_goals refine av ?_)
   all_goals (rw [hW];refine tC [2,3,4,6,38] ?_;(conv=>arg 4;whnf);revert b;exact H.go)
  intro b
  have hP:=fun i (hi:i<16)=>zH key (k:=k) hi
  have hP0:=FB key k h
  have hP16:=C7 key k h
  have hWl:(sM (eU key k).l k).length=4:=rfl
  clear hg hW
  generalize sM (eU key k).l k=W at hP hWl⊢
  generalize oZ key k=Q at hP hP0 hP16
  generalize eU key k=B at hP hB⊢
  generalize fq key k=S0 at hP0 hP16 hl⊢
  refine eA [b,sb] (X:=Nat) (fun i=> [(38,vI i)]) (fun i=>i≤16) (fun i=> [iB b (b8 (rk B.l W i)) 527,iB sb ((S0.set (k+1) (Q i)).flatMap fz) 504]) (fun i=>16-i) 0 (Nat.zero_le _) rfl (by rw [hP0];((repeat' (first | with_reducible exact am _ | exact af _ | refine aB ?_ ?_ | refine aD inferInstance ?_ | refine aI ?_))<;>(try with_reducible rfl));rfl) ?_
  intro i hi
  (conv=>arg 2;simp only [List.cons_append,List.nil_append])
  have hw:(rk B.l W i).length=4:=by rw [qT];exact hWl
  have hs:(S0.set (k+1) (Q i)).length=11:=by rw [List.length_set,hl]
  by_cases h2:i<16
  ·(repeat' ((try refine au ?_);(conv=>arg 4;whnf);first | refine ax ?_ |(refine sN ?_;intro b)|(refine sC ?_ ?_<;>intro h)|(refine ar ?_ ?_<;>intro h<;>try contradiction)|(refine aa ?_;intro g c')| refine ae ?_ | refine ai ?_ | exact aw |(refine ak rfl ?_;intro D lL)| refine ah ?_ ?_ | refine aj ?_ ?_ ?_ | fail));(all_goals refine av ?_)
   refine bj (i+1) rfl (by omega) ?_ (by omega)
   ((repeat' (first | with_reducible exact am _ | exact af _ | refine aB ?_ ?_ | refine aD inferInstance ?_ | refine aI ?_))<;>(try with_reducible rfl))
   ·rw [←hP i h2]
    have hg1:(S0.set (k+1) (Q i)).getD (k+1) default=Q i:=by rw [List.getD_eq_getElem?_getD,List.getElem?_set_self (by omega)];rfl
    rw [hg1,List.set_set];rfl
   ·rfl
  ·obtain rfl:i=16:=by omega
   rw [hP16]
   (repeat' ((try refine au ?_);(conv=>arg 4;whnf);first | refine ax ?_ |(refine sN ?_;intro b)|(refine sC ?_ ?_<;>intro h)|(refine ar ?_ ?_<;>intro h<;>try contradiction)|(refine aa ?_;intro g c')| refine ae ?_ | refine ai ?_ | exact aw |(refine ak rfl ?_;intro D lL)| refine ah ?_ ?_ | refine aj ?_ ?_ ?_ | fail));(all_goals refine av ?_)
   refine bj (k+1) rfl (by omega) ?_ (by omega)
   ((repeat' (first | with_reducible exact am _ | exact af _ | refine aB ?_ ?_ | refine aD inferInstance ?_ | refine aI ?_))<;>(try with_reducible rfl))
 ·obtain rfl:k=10:=by omega
  have hl10:(fq key 10).length=11:=eL key 10
  (repeat' ((try refine au ?_);(conv=>arg 4;whnf);first | refine ax ?_ |(refine sN ?_;intro b)|(refine sC ?_ ?_<;>intro h)|(refine ar ?_ ?_<;>intro h<;>try contradiction)|(refine aa ?_;intro g c')| refine ae ?_ | refine ai ?_ | exact aw |(refine ak rfl ?_;intro D lL)| refine ah ?_ ?_ | refine aj ?_ ?_ ?_ | fail));(all_goals refine av ?_)
end Go.Proofs.YtbobhnldhpjdlaaGreatDoor
