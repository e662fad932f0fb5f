/- Lemmas and walks: what each function does, by its own code. No condition beyond those of each statement. -/
import Derived.Test.YtbobhnldhpjdlaaGreatDoorP1
import Derived.Test.YtbobhnldhpjdlaaGreatDoorP11
import Derived.Test.YtbobhnldhpjdlaaGreatDoorP17
import Derived.Test.YtbobhnldhpjdlaaGreatDoorP18
import Derived.Test.YtbobhnldhpjdlaaGreatDoorP25
set_option linter.all false
set_option linter.unusedVariables false
namespace Go.Cs
open Go Go.RowKit
theorem zy (l:List UInt8):(nD l).length%64=0:=by simp [nD,qB];omega
end Go.Cs
namespace Go.Cs
open Go Go.RowKit
theorem FO (x:WA 8) {i k:Nat} (h:i<8) (hk:k≤4):(MZ x i k).length=32:=by simp [MZ,lW];omega
theorem y5 (x:WA 8) (i:Nat):MZ x i 0=As x i:=by simp [MZ,As]
theorem xS (x:WA 8) (i:Nat):MZ x i 4=As x (i+1):=by
 rw [MZ,As,List.take_of_length_le (by simp),show 32-(i+1)*4=32-i*4-4 by omega];rfl
end Go.Cs
namespace Go.Proofs.YtbobhnldhpjdlaaGreatDoor
open Go Go.RowKit Go.Cs Go.Cz
set_option maxRecDepth 100000
set_option maxHeartbeats 4000000
theorem BQ {x:WA 8} {i k:Nat} (h:i<8) (hk:k<4):(MZ x i k).set (4*i+k) ((be (x.l.getD i default).toNat 4).getD k default)=MZ x i (k+1):=by
 have h1:(be (x.get i).toNat 4).length=4:=gl _ _
 have hl:=lW x i
 have hd:(be (x.l.getD i default).toNat 4)=be (x.get i).toNat 4:=rfl
 rw [hd]
 unfold MZ
 generalize be (x.get i).toNat 4=b at*
 have e1:(BP x i++b.take k).length=4*i+k:=by rw [List.length_append,List.length_take];omega
 rw [List.set_append_right _ _ (by omega),e1,Nat.sub_self,show 32-i*4-k=32-i*4-(k+1)+1 by omega,List.replicate_succ,List.set_cons_zero]
 simp [List.getD_eq_getElem?_getD,h1,hk]
 rw [List.take_succ_eq_append_getElem (by omega),List.append_assoc];rfl
theorem AH {a:Option Addr} {n c:Nat} {l:List UInt8} (h0:0<l.length) (hb:l.length≤1048576):Zp Tryz.prog 262 [.slice a n c] [] [Sl cB a n c l] Unit (fun _=>True) (fun _=>vA (ay (bI l))) (fun _=> []) (fun _=> []):=by
 refine ak fun G=> ?_
 refine aS 0 ?_
 intro hn hc hm ha
 subst hn
 obtain ⟨a1,a2,rfl⟩:=ha h0 (by decide)
 (repeat' ((try refine aw ?_);(conv=>arg 4;whnf);first | refine aO ?_ |(refine sN ?_;intro b)|(refine aa ?_;intro g c')| exact ax | fail));(all_goals refine av ?_)
 simp only [Nat.zero_add,List.nil_append]
 rename_i out obq ogq ocq
 refine cN (X:=Nat×Nat×Nat) (fun x=> [(3, .slice (some ⟨x.2.1,0,none⟩) (l.length+1+x.1) x.2.2)]) (fun x=>x.1≤qB l.length) (fun x=> [iN cB 1 (some ⟨x.2.1,0,none⟩) (l.length+1+x.1) x.2.2 5 (l++ [128]++List.replicate x.1 0),iB out (ay Dig.zero) 66]) (fun x=>qB l.length-x.1) (0,g,c') (Nat.zero_le _) rfl ?_ ?_
 ·rw [List.replicate_zero,List.append_nil]
  (((repeat' (first | with_reducible exact ar _ | exact am _ | refine aE ?_ ?_ | refine aX ?_))<;>(try with_reducible rfl)))
 rintro ⟨j,g,c'⟩ hj
 dsimp only at hj⊢
 have hpz:qB l.length=(119-l.length%64)%64:=rfl
 by_cases h3:(l.length+1+j)%64=56
 ·have hj2:j=qB l.length:=by omega
  have h8:8*l.length<2^64:=by omega
  (repeat' ((try refine aw ?_);(conv=>arg 4;whnf);first | refine aO ?_ |(refine sN ?_;intro b)|(refine aa ?_;intro g c')|((first | refine aA (tm h8) ?_ | refine aA Ht ?_);intro x hx;refine aH ?_)| exact ax | fail));(all_goals refine av ?_)
  rw [show l++ [128]++List.replicate j 0++be (8*l.length) 8=nD l by rw [←DE (n:=l.length) rfl hj2,Nat.mod_eq_of_lt h8]]
  have hA:(nD l).length=l.length+1+j+8:=by simp [nD,hj2];omega
  have hA4:=zy l
  obtain ⟨N,hN⟩:∃N,N=l.length+1+j+8:=⟨_,rfl⟩
  rw [←hN]
  revert b;intro hb2
  refine L5 (K:=cB) (m:=1) (n:=N) (c:=c') (e:=5) g ?_
  intro rs _ _
  refine kz cB (nD l) g N c' ?_
  refine dh [hb2] (X:=Nat) (fun k=> [(6,vI (64*k))]) (fun k=>64*k≤N) (fun k=> [iB hb2 (fW (l9 (nD l) k)) 321]) (fun k=>N-64*k) 0 (Nat.zero_le _) rfl (by (((repeat' (first | with_reducible exact ar _ | exact am _ | refine aE ?_ ?_ | refine aX ?_))<;>(try with_reducible rfl)))<;>rfl) ?_
  intro k hk
  (conv=>arg 2;simp only [List.cons_append,List.nil_append])
  by_cases h5:64*k<N
  ·have h6:64*k+64≤N:=by omega
   have hbl:(((nD l).drop (64*k)).take (64*k+64-64*k)).length=64:=by rw [List.length_take,List.length_drop];omega
   (repeat' ((try refine aw ?_);(conv=>arg 4;whnf);first | refine aO ?_ |(refine sN ?_;intro b)|(refine aa ?_;intro g c')| exact ax | fail));(all_goals refine av ?_)
   (first | refine bF rfl rfl ?_ | fail)
   (repeat' ((try refine aw ?_);(conv=>arg 4;whnf);first | refine aO ?_ |(refine sN ?_;intro b)|(refine aa ?_;intro g c')|(refine aA (L9 hbl) ?_;intro x hx;refine aH ?_)| exact ax | fail));(all_goals refine av ?_)
   have e2:cmpr (l9 (nD l) k) (((nD l).drop (64*k)).take (64*k+64-64*k))=l9 (nD l) (k+1):=by rw [show 64*k+64-64*k=64 by omega];rfl
   rw [e2]
   exact jV (k+1) (by omega) cD (by omega) bu
  ·obtain ⟨H,hH⟩:∃H,H=l9 (nD l) k:=⟨_,rfl⟩
   rw [←hH]
   have hk2:k=(nD l).length/64:=by omega
   (repeat' ((try refine aw ?_);(conv=>arg 4;whnf);first | refine aO ?_ |(refine sN ?_;intro b)|(refine aa ?_;intro g c')| exact ax | fail));(all_goals refine av ?_)
   revert b;intro db
   refine dh [db] (X:=Nat) (fun i=> [(8,vI i)]) (fun i=>i≤8) (fun i=> [iB db (bE (As H i)) 66]) (fun i=>8-i) 0 (Nat.zero_le _) rfl (by rw [←yZ H];(((repeat' (first | with_reducible exact ar _ | exact am _ | refine aE ?_ ?_ | refine aX ?_))<;>(try with_reducible rfl)))) ?_
   intro i hi
   (conv=>arg 2;simp only [List.cons_append,List.nil_append])
   by_cases h9:i<8
   ·(repeat' ((try refine aw ?_);(conv=>arg 4;whnf);first | refine aO ?_ |(refine sN ?_;intro b)|(refine aa ?_;intro g c')|(refine aA yB ?_;intro x hx;refine aH ?_)| exact ax | fail));(all_goals refine av ?_)
    revert x;intro xb
    refine dh [db] (X:=Nat) (fun q=> [(10,vI q)]) (fun q=>q≤4) (fun q=> [iB db (bE (MZ H i q)) 66]) (fun q=>4-q) 0 (Nat.zero_le _) rfl (by rw [←y5 H i];(((repeat' (first | with_reducible exact ar _ | exact am _ | refine aE ?_ ?_ | refine aX ?_))<;>(try with_reducible rfl)))) ?_
    intro q hq
    (conv=>arg 2;simp only [List.cons_append,List.nil_append])
    have hql:=FO H h9 hq
    have hbe:(be (H.l.getD i default).toNat 4).length=4:=gl _ _
    by_cases h10:q<4
    ·(repeat' ((try refine aw ?_);(conv=>arg 4;whnf);first | refine aO ?_ |(refine sN ?_;intro b)|(refine aa ?_;intro g c')| exact ax | fail));(all_goals refine av ?_)
     rw [BQ h9 h10]
     exact jV (q+1) h10 cD (by omega) bu
    ·obtain rfl:q=4:=by omega
     rw [xS]
     (repeat' ((try refine aw ?_);(conv=>arg 4;whnf);first | refine aO ?_ |(refine sN ?_;intro b)|(refine aa ?_;intro g c')| exact ax | fail));(all_goals refine av ?_)
     exact jV (i+1) h9 cD (by omega) bu
   ·obtain rfl:i=8:=by omega
    rw [hH,hk2,CG]
    (repeat' ((try refine aw ?_);(conv=>arg 4;whnf);first | refine aO ?_ |(refine sN ?_;intro b)|(refine aa ?_;intro g c')| exact ax | fail));(all_goals refine av ?_)
 ·(repeat' ((try refine aw ?_);(conv=>arg 4;whnf);first | refine aO ?_ |(refine sN ?_;intro b)|(refine aa ?_;intro g c')| exact ax | fail));(all_goals refine av ?_)
  rw [show l++ [128]++List.replicate j 0++ [0]=l++ [128]++List.replicate (j+1) (0:UInt8) by rw [List.replicate_succ',←List.append_assoc]]
  exact jV (j+1,g,c') (by dsimp only;omega) cD (by dsimp only;omega) bu
end Go.Proofs.YtbobhnldhpjdlaaGreatDoor
