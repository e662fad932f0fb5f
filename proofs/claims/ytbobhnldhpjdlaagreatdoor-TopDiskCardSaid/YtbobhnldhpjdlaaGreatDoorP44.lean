/- Lemmas and walks: what each function does, by its own code. No condition beyond those of each statement. -/
import Derived.Test.YtbobhnldhpjdlaaGreatDoorP10
import Derived.Test.YtbobhnldhpjdlaaGreatDoorP18
import Derived.Test.YtbobhnldhpjdlaaGreatDoorP25
import Derived.Test.YtbobhnldhpjdlaaGreatDoorP43
set_option linter.all false
set_option linter.unusedVariables false
namespace Go.Proofs.YtbobhnldhpjdlaaGreatDoor
open Go Go.RowKit Go.Cs Go.Cz
set_option maxRecDepth 100000
set_option maxHeartbeats 4000000
instance:Su Tryz.prog 9:=⟨by kernel_rfl⟩
theorem me {P:Program} {O:List It} {F:List Pt} {S T E m:TypeId} {a:Option Addr} {n c:Nat} {l:List UInt8} {p:Prop} [hs:Su P T] [hd:Ix P S E m none] [he:Ik P E .u8] [hl:Lb O F cB a n c l p] (hp:p:=by (repeat' (first | exact True.intro | refine And.intro ?_ ?_))<;>first | omega |(simp only [List.length_append,List.length_take,List.length_drop,List.length_replicate,List.length_set,List.length_map,List.length_nil,List.length_cons];omega)|(simp;done)|(simp;omega)):Yv P O F (.cvt S T (.slice a n c)) (jc l):=by
 by_cases h0:n=0
 ·refine ⟨fun w h1 h2=> ?_⟩
  have hS:=hl.lb hp w h1 h2
  have e:l= []:=List.eq_nil_of_length_eq_zero (by rw [←hS.1];exact h0)
  subst e h0
  have e2:(convert S T (.slice a 0 c)).run P w= .ok (.string ByteArray.empty) w:=by
   rw [run_convert_bytes_string w S T E _ 0 c hd.ix he.ik hs.su]
   cases a<;>simp [Conv.bytesToString,loadCells]
   all_goals rfl
  exact e2
 ·refine ⟨fun w h1 h2=> ?_⟩
  have hS:=hl.lb hp w h1 h2
  obtain ⟨b,o,rfl⟩:=hS.2.addr (by rw [b8,←hS.1];exact Nat.mul_pos (by omega) (by decide))
  have:=(M5 (P:=P) (O:=O) (F:=F) (S:=S) (T:=T) (b:=b) (A:=o) (n:=n) (c:=c) (l:=l) hp hS.1.symm)
  exact this.go w h1 h2
theorem Hr {a b:Option Addr} {n c m e:Nat} {l l2:List UInt8} (h:l=l2):Zp Tryz.prog 117 [.slice a n c, .slice b m e] [] [Sl cB a n c l,Sl cB b m e l2] Unit (fun _=>True) (fun _=> .bool true) (fun _=> []) (fun _=> []):=by
 refine ak fun G=> ?_
 (repeat' ((try refine aw ?_);(conv=>arg 4;whnf);first | refine aO ?_ | exact ax | fail));(all_goals refine av ?_)
 refine ng ?_ me
 (repeat' ((try refine aw ?_);(conv=>arg 4;whnf);first | refine aO ?_ | exact ax | fail));(all_goals refine av ?_)
 refine ng ?_ me
 (repeat' ((try refine aw ?_);(conv=>arg 4;whnf);first | refine aO ?_ | exact ax | fail));(all_goals refine av ?_)
 refine ng ?_ (L8 h)
 (repeat' ((try refine aw ?_);(conv=>arg 4;whnf);first | refine az ?_ | exact ax | fail));(all_goals refine av ?_)
section
variable {d:SDsk} {I:DI} {s:Nat}
theorem HW {a:Option Addr} {n c:Nat} {l:List UInt8} (hI:I.Ok) (hs:s<I.size) (hll:256<l.length):Zp Tryz.prog 24 [vA (aJ d),vI s, .slice a n c] [] [Dm d I,Sl cB a n c l] Unit (fun _=>True) (fun _=> .tuple #[vA (aJ SDsk.zero),vI 3]) (fun _=> []) (fun x=> []):=by
 refine ak fun G=> ?_
 refine aS 1 ?_
 intro hn hc hm ha
 (repeat' ((try refine aw ?_);(conv=>arg 4;whnf);first | refine az ?_ |(refine sN ?_;intro b)|(refine aA (oe hI hs) ?_;intro x hx;refine aH ?_)| exact ax | fail));(all_goals refine av ?_)
theorem JB {k:Nat} (hI:I.Ok) (hs:s<I.size) (hch:d.changes≤1099511627776) (hvl:(I.vs.getD s []).length≤1099511627776) (hk:k≤(I.vs.getD s []).length):Zp Tryz.prog 27 [vA (aJ d),vI s,vI k] [] [Dm d I] (SDsk×Nat×VN) (fun x=>x.1.size=d.size∧x.1.changes=d.changes+1∧(if x.2.2.th=true then some x.2.2.b else none)=sw ((I.vs.getD s []).drop k)) (fun x=> .tuple #[vA (aJ x.1),vI 0]) (fun _=> []) (fun x=> [Dm x.1 (I.put s x.2.1 x.2.2)]):=by
 have hbk:=JA (l:=I.vs.getD s []) hvl hk
 refine ak fun G=> ?_
 refine aR (Vm (I.vs.getD s [])) (fun w _ h=>(h (Dm d I) (by simp)).2.2.2 _) ?_
 cases hd:(I.vs.getD s []).drop k with
 | nil=>
  rw [hd] at hbk
  simp only [vptr] at hbk
  (repeat' ((try refine aw ?_);(conv=>arg 4;whnf);first | refine az ?_ |(refine sN ?_;intro b)|((first | refine aA (oe hI hs) ?_ | refine aA (Av hvl) ?_ | refine aA hbk ?_);intro x hx;refine aH ?_)|(refine cw (zw (l:= []) hI hs hch hvl) ?_;intro x hx;refine bV ?_)| fail));(all_goals refine av ?_)
  exact aD (x.1,x.2.1,⟨x.2.2,(none,0,0),false, []⟩) ⟨hx.1,hx.2,rfl⟩ rfl (am _) bu
 | cons v r=>
  rw [hd] at hbk
  simp only [vptr] at hbk
  refine aR (Vm (v::r)) (fun w _ h=>by rw [←hd];exact Vm.drop k (h (Vm (I.vs.getD s [])) (by simp))) ?_
  refine aR (Bk v.blk (bU (vcel v r))) (fun w _ h=>(h (Vm (v::r)) (by simp)).1) ?_
  refine aR (Sl cB v.sb.1 v.sb.2.1 v.sb.2.2 v.b) (fun w _ h=>(h (Vm (v::r)) (by simp)).2.1) ?_
  obtain ⟨vblk,⟨va,vnn,vc⟩,th,vbb⟩:=v
  dsimp only at hbk hd⊢
  (repeat' ((try refine aw ?_);(conv=>arg 4;whnf);first | refine az ?_ |(refine sN ?_;intro b)|((first | refine aA (oe hI hs) ?_ | refine aA (Av hvl) ?_ | refine aA hbk ?_);intro x hx;refine aH ?_)|(refine cw (zw (l:=vbb) hI hs hch hvl) ?_;intro x hx;refine bV ?_)| fail));(all_goals refine av ?_)
  exact aD (x.1,x.2.1,⟨x.2.2,(va,vnn,vc),th,vbb⟩) ⟨hx.1,hx.2,rfl⟩ rfl (am _) bu
theorem Jr {d2:SDsk} {Jtwo:DI} (hI:I.Ok) (hJ2:Jtwo.Ok) (hsz:Jtwo.size=I.size) (hbl:∀s l,I.pv s=some l→l.length≤65536) (he:∀s,s<I.size→Jtwo.pv s=I.pv s):Zp Tryz.prog 31 [vA (aJ d),vA (aJ d2)] [] [Dm d I,Dm d2 Jtwo] Unit (fun _=>True) (fun _=> .bool true) (fun _=> []) (fun x=> []):=by
 refine ak fun G=> ?_
 have h1:=hI.s2
 refine f5 (p:=d.size=I.size) (fun w _ h=>(h (Dm d I) (by simp)).1) fun hd=> ?_
 refine f5 (p:=d2.size=Jtwo.size) (fun w _ h=>(h (Dm d2 Jtwo) (by simp)).1) fun hd2=> ?_
 refine aR (Sl cB none 0 0 []) (fun w _ _=>⟨rfl,rfl,rfl,rfl⟩) ?_
 (repeat' ((try refine aw ?_);(conv=>arg 4;whnf);first | refine aO ?_ |(refine sN ?_;intro b)| exact ax | fail));(all_goals refine av ?_)
 refine dh [] (X:=Nat) (fun i=> [(4, .bool false),(21,vI i)]) (fun i=>i≤I.size) (fun _=> []) (fun i=>I.size-i) 0 (Nat.zero_le _) rfl cD ?_
 intro i hi
 (conv=>arg 2;simp only [List.cons_append,List.nil_append])
 by_cases hlt:i<I.size
 ·have hn1:=oe (d:=d) hI hlt
  have hn2:=oe (d:=d2) hJ2 (s:=i) (by omega)
  have hee:=he i hlt
  refine aR (Vm (I.vs.getD i [])) (fun w _ h=>(h (Dm d I) (by simp)).2.2.2 _) ?_
  refine aR (Vm (Jtwo.vs.getD i [])) (fun w _ h=>(h (Dm d2 Jtwo) (by simp)).2.2.2 _) ?_
  cases hpv:I.pv i with
  | none=>
   rw [hpv] at hee
   (repeat' ((try refine aw ?_);(conv=>arg 4;whnf);first | refine az ?_ |(refine sN ?_;intro b)|((first | refine aA hn1 ?_ | refine aA hn2 ?_ | refine aA (F1 hpv) ?_ | refine aA (F1 hee) ?_ | refine aA (Hr (l:= []) (l2:= []) rfl) ?_);intro x hx;refine aH ?_)| exact ax | fail));(all_goals refine av ?_)
   exact jV (i+1) hlt cD (by omega) bu
  | some l=>
   rw [hpv] at hee
   have hb:=hbl i l hpv
   (repeat' ((try refine aw ?_);(conv=>arg 4;whnf);first | refine az ?_ |(refine sN ?_;intro b)|((first | refine aA hn1 ?_ | refine aA hn2 ?_);intro x hx;refine aH ?_)|((first | refine cw (Bt hpv hb) ?_ | refine cw (Bt hee hb) ?_);intro x hx;refine bV ?_)|(refine aA (Hr (l:=l) (l2:=l) rfl) ?_;intro x hx;refine aH ?_)| exact ax | fail));(all_goals refine av ?_)
   exact jV (i+1) hlt cD (by omega) bu
 ·obtain rfl:i=I.size:=by omega
  (repeat' ((try refine aw ?_);(conv=>arg 4;whnf);first | refine az ?_ |(refine sN ?_;intro b)| exact ax | fail));(all_goals refine av ?_)
end
end Go.Proofs.YtbobhnldhpjdlaaGreatDoor
