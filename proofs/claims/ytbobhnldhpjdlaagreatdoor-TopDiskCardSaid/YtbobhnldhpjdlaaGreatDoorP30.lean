/- Lemmas and walks: what each function does, by its own code. No condition beyond those of each statement. -/
import Derived.Test.YtbobhnldhpjdlaaGreatDoorP11
import Derived.Test.YtbobhnldhpjdlaaGreatDoorP22
import Derived.Test.YtbobhnldhpjdlaaGreatDoorP25
import Derived.Test.YtbobhnldhpjdlaaGreatDoorP29
set_option linter.all false
set_option linter.unusedVariables false
namespace Go.Proofs.YtbobhnldhpjdlaaGreatDoor
open Go Go.RowKit Go.Cs Go.Cz
set_option maxRecDepth 100000
set_option maxHeartbeats 4000000
theorem zP {v i:Nat} (hv:v<256):∀k,Je v i k≤99+255*k
 | 0=>by simp only [Je];exact Nat.le_trans (Nat.div_le_self _ _) (by omega)
 | k+1=>by
  have h:=zP (i:=i) hv k
  have h2:=Nat.div_le_self v (2^((i+(4+k))%8))
  simp only [Je];omega
theorem Hf {x:UInt8}:Zp Tryz.prog 348 [vb x] [] [] Unit (fun _=>True) (fun _=>vb (Jg x)) (fun _=> []) (fun _=> []):=by
 have hx:=x.toNat_lt
 refine ak fun G=> ?_
 (repeat' ((try refine aw ?_);(conv=>arg 4;whnf);first | refine az ?_ | fail));(all_goals refine av ?_)
 refine cN (X:=Nat) (fun t=> [(3,vI (Em x.toNat t)),(4,if t<8 then vI (7-t) else .int .i64 (-1))]) (fun t=>t≤8) (fun _=> []) (fun t=>8-t) 0 (Nat.zero_le _) rfl (ar _) ?_
 intro t ht
 have ho:=yA x.toNat t
 have ho2:Em x.toNat t<256:=Nat.lt_of_lt_of_le ho (Nat.pow_le_pow_right (by decide) ht)
 by_cases h:t<8
 ·simp only [if_pos h]
  (repeat' ((try refine aw ?_);(conv=>arg 4;whnf);first | refine az ?_ | fail));(all_goals refine av ?_)
  refine cN (X:=Nat) (fun k=> [(5,vI (Je x.toNat (7-t) k)),(6,vI (4+k))]) (fun k=>k≤5) (fun _=> []) (fun k=>5-k) 0 (Nat.zero_le _) rfl (ar _) ?_
  intro k hk
  have hs:=zP (i:=7-t) hx k
  by_cases h5:k<5
  ·have hd:x.toNat/2^((7-t+(4+k))%8)≤255:=Nat.le_trans (Nat.div_le_self _ _) (by omega)
   (repeat' ((try refine aw ?_);(conv=>arg 4;whnf);first | refine az ?_ | fail));(all_goals refine av ?_)
   refine a5 (k+1) rfl ?_ (ar _) ?_
   ·omega
   ·omega
  ·obtain rfl:k=5:=by omega
   (repeat' ((try refine aw ?_);(conv=>arg 4;whnf);first | refine az ?_ | fail));(all_goals refine av ?_)
   refine nF (EH (by omega)) ?_
   (repeat' ((try refine aw ?_);(conv=>arg 4;whnf);first | refine az ?_ | fail));(all_goals refine av ?_)
   refine a5 (t+1) ?_ ?_ (ar _) ?_
   ·show _=_
    by_cases h2:t+1<8
    ·simp only [if_pos h2]
     have e:((7-t:Nat):Int)-1=((7-(t+1):Nat):Int):=by omega
     rw [e];rfl
    ·simp only [if_neg h2]
     have e:((7-t:Nat):Int)-1= -1:=by omega
     rw [e];rfl
   ·exact h
   ·omega
 ·simp only [if_neg h]
  (repeat' ((try refine aw ?_);(conv=>arg 4;whnf);first | refine az ?_ | fail));(all_goals refine av ?_)
  obtain rfl:t=8:=by omega
  refine aD () True.intro ?_ (am _)
  have e:(Jg x).toNat=Em x.toNat 8:=by show Em x.toNat 8%256=_;omega
  rw [←e];rfl
theorem MF {x:UInt8}:Zp Tryz.prog 346 [vb x] [] [] Unit (fun _=>True) (fun _=>vb (lT x)) (fun _=> []) (fun _=> []):=by
 refine ak fun G=> ?_
 (repeat' ((try refine aw ?_);(conv=>arg 4;whnf);first | refine az ?_ |(refine sC ?_ ?_<;>intro h)| fail));(all_goals refine av ?_)
 ·exact aD () True.intro (by rw [lT,if_pos (by omega)];rfl) (am _)
 ·exact aD () True.intro (by rw [lT,if_neg (by omega)];rfl) (am _)
theorem Md {P:Program} {O:List It} {F:List Pt} {T:TypeId} {x y:Operand} {j:Int} {a:Nat} [hj:Ni j 283] (h:a<512):Yv P O F (Ak.bin .xor T x y (vI a) (.int .i64 j)) (vI (a^^^283)):=aC fun w=>by
 cases hj.ni
 have e:(Ak.bin .xor T x y (vI a) (.int .i64 ((283:Nat):Int))).sem.run P w=Result.ok (Value.int .i64 (IntKind.i64.wrap ((BitVec.ofInt IntKind.i64.bits ((a:Nat):Int)^^^BitVec.ofInt IntKind.i64.bits ((283:Nat):Int)).toNat:Int))) w:=rfl
 rw [e,ME ⟨a,h⟩]
theorem HL:Zp Tryz.prog 345 [] [] [] Unit (fun _=>True) (fun _=>vA (bE sF)) (fun _=> []) (fun _=> []):=by
 refine ak fun G=> ?_
 (repeat' ((try refine aw ?_);(conv=>arg 4;whnf);first | refine aO ?_ |(refine sN ?_;intro b)|(refine sC ?_ ?_<;>intro h)| exact ax | fail));(all_goals refine av ?_)
 revert b;intro pb
 change Tr _ _ _ (Ru _ (Dk.st 5 (vP pb (0+0*1)) (vb 1)) _)
 (repeat' ((try refine aw ?_);(conv=>arg 4;whnf);first | refine aO ?_ |(refine sN ?_;intro b)|(refine sC ?_ ?_<;>intro h)| exact ax | fail));(all_goals refine av ?_)
 rw [yF]
 rename_i ob
 revert b;intro tb
 refine dh [pb] (X:=Nat) (fun k=> [(3,vI (k+1))]) (fun k=>k≤255) (fun k=> [iB pb (bE (B2 k)) 544]) (fun k=>255-k) 0 (Nat.zero_le _) rfl cD ?_
 intro k hk
 (conv=>arg 2;simp only [List.cons_append,List.nil_append])
 have hx:=(n8 k).toNat_lt
 by_cases h:k<255
 ·have hg:=s8 (Nat.le_refl k) (show k<256 by omega)
  (repeat' ((try refine aw ?_);(conv=>arg 4;whnf);first | refine aO ?_ |(refine sN ?_;intro b)|(refine sC ?_ ?_<;>intro h)| exact ax | fail));(all_goals refine av ?_)
  rw [Nat.add_sub_cancel,hg]
  (repeat' ((try refine aw ?_);(conv=>arg 4;whnf);first | refine aO ?_ |(refine sN ?_;intro b)|(refine sC ?_ ?_<;>intro h)| exact ax | fail));(all_goals refine av ?_)
  ·refine nF (Md (by omega)) ?_
   (repeat' ((try refine aw ?_);(conv=>arg 4;whnf);first | refine aO ?_ |(refine sN ?_;intro b)|(refine sC ?_ ?_<;>intro h)| exact ax | fail));(all_goals refine av ?_)
   rw [vF (by omega) (by rw [Nat.add_sub_cancel,hg,n8,Ia,if_pos (by omega)])]
   refine a5 (k+1) rfl ?_ cD ?_
   ·omega
   ·omega
  ·have hc:((2*(n8 k).toNat:Nat):Int)=((UInt8.ofNat (2*(n8 k).toNat)).toNat:Int):=by
    have e:(UInt8.ofNat (2*(n8 k).toNat)).toNat=2*(n8 k).toNat:=by show 2*(n8 k).toNat%256=_;omega
    rw [e]
   rw [hc]
   (repeat' ((try refine aw ?_);(conv=>arg 4;whnf);first | refine aO ?_ |(refine sN ?_;intro b)|(refine sC ?_ ?_<;>intro h)| exact ax | fail));(all_goals refine av ?_)
   rw [vF (by omega) (by rw [Nat.add_sub_cancel,hg,n8,Ia,if_neg (by omega)])]
   refine a5 (k+1) rfl ?_ cD ?_
   ·omega
   ·omega
 obtain ⟨PW,hPW⟩:∃PW,PW=B2 k:=⟨_,rfl⟩
 rw [←hPW]
 clear hx
 obtain rfl:k=255:=by omega
 have hpl:PW.length=256:=by rw [hPW];simp
 (repeat' ((try refine aw ?_);(conv=>arg 4;whnf);first | refine aO ?_ |(refine sN ?_;intro b)|(refine sC ?_ ?_<;>intro h)| exact ax | fail));(all_goals refine av ?_)
 refine dh [tb] (X:=Nat) (fun k=> [(5,vI k)]) (fun k=>k≤255) (fun k=> [iB tb (bE (GR k)) 544]) (fun k=>255-k) 0 (Nat.zero_le _) rfl (by (((repeat' (first | with_reducible exact ar _ | exact am _ | refine aE ?_ ?_ | fail))<;>(try with_reducible rfl)))<;>rfl) ?_
 intro k hk
 (conv=>arg 2;simp only [List.cons_append,List.nil_append])
 have tl:=nI k
 by_cases h2:k<255
 ·have g1:PW.getD k default=n8 k:=by rw [hPW];exact s8 (by omega) (by omega)
  have g2:PW.getD (255-k) default=n8 (255-k):=by rw [hPW];exact s8 (by omega) (by omega)
  have hx:=(PW.getD k default).toNat_lt
  (repeat' ((try refine aw ?_);(conv=>arg 4;whnf);first | refine aO ?_ |(refine sN ?_;intro b)|(refine sC ?_ ?_<;>intro h)| exact ax | fail));(all_goals refine av ?_)
  (first |(refine bh ?_;(conv=>arg 4;whnf);refine bc rfl ?_))
  (repeat' ((try refine aw ?_);(conv=>arg 4;whnf);first | refine aO ?_ |(refine sN ?_;intro b)|(refine sC ?_ ?_<;>intro h)|(refine aA Hf ?_;intro x hx;refine aH ?_)| exact ax | fail));(all_goals refine av ?_)
  rw [g1,g2,show (GR k).set (n8 k).toNat (Jg (n8 (255-k)))=GR (k+1) from rfl]
  refine a5 (k+1) rfl ?_ cD ?_
  ·omega
  ·omega
 obtain ⟨TB,hTB⟩:∃TB,TB=GR k:=⟨_,rfl⟩
 rw [←hTB] at tl⊢
 obtain rfl:k=255:=by omega
 (repeat' ((try refine aw ?_);(conv=>arg 4;whnf);first | refine aO ?_ |(refine sN ?_;intro b)|(refine sC ?_ ?_<;>intro h)|(refine aA (Hf (x:=0)) ?_;intro x hx;refine aH ?_)| exact ax | fail));(all_goals refine av ?_)
 have e:TB.set 0 (Jg 0)=sF:=by rw [hTB];rfl
 rw [e]
 (repeat' ((try refine aw ?_);(conv=>arg 4;whnf);first | refine aO ?_ |(refine sN ?_;intro b)|(refine sC ?_ ?_<;>intro h)| exact ax | fail));(all_goals refine av ?_)
end Go.Proofs.YtbobhnldhpjdlaaGreatDoor
