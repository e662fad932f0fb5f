/- Lemmas and walks: what each function does, by its own code. No condition beyond those of each statement. -/
import Derived.Test.YtbobhnldhpjdlaaGreatDoorP4
import Derived.Test.YtbobhnldhpjdlaaGreatDoorP5
import Derived.Test.YtbobhnldhpjdlaaGreatDoorP7
import Derived.Test.YtbobhnldhpjdlaaGreatDoorP15
set_option linter.all false
set_option linter.unusedVariables false
namespace Go.Proofs.YtbobhnldhpjdlaaGreatDoor
open Go Go.RowKit Go.Cs Go.Cz
set_option maxRecDepth 100000
theorem i7 {a:Option Addr} {n c:Nat} {vs:List Sv} {ls:List (List UInt8)} (hs:ls.flatten.length≤1099511627776):Zp Tryz.prog 165 [.slice a n c] [] [Sl cS a n c vs,Pr vs ls] Nat (fun _=>True) (fun b=> .slice (some ⟨b,0,none⟩) ls.flatten.length ls.flatten.length) (fun b=> [iB b (bE ls.flatten) 5]) (fun _=> []):=by
 refine ak fun G=> ?_
 refine aS 0 ?_
 intro hn hc hm ha
 refine f5 (p:=vs.length=ls.length∧∀i,i<ls.length→(vs.getD i default).2.1=(ls.getD i []).length) (fun w _ h=>by
  obtain ⟨h1,h2⟩:=h _ (.tail _ (.head _))
  exact ⟨h1,fun i hi=>(h2 i hi).1⟩) fun hv=> ?_
 have hfl:∀i,ls.flatten=(ls.take i).flatten++(ls.drop i).flatten:=fun i=>by rw [←List.flatten_append,List.take_append_drop]
 have hps:∀i,(ls.take i).flatten.length≤ls.flatten.length:=fun i=>by rw [hfl i,List.length_append];omega
 have hst:∀i,i<n→(ls.take (i+1)).flatten=(ls.take i).flatten++ls.getD i []:=fun i hi=>by
  rw [List.take_succ_eq_append_getElem (by omega),List.flatten_append];simp only [List.flatten_cons,List.flatten_nil,List.append_nil,List.getD,List.getElem?_eq_getElem (show i<ls.length by omega),Option.getD_some]
 (repeat' ((try refine aw ?_);(conv=>arg 4;whnf);first | refine az ?_ |(refine sN ?_;intro b)| fail));(all_goals refine av ?_)
 refine cN (X:=Nat) (fun i=> [(3,vI (ls.take i).flatten.length),(12,vI i)]) (fun i=>i≤n) (fun i=> []) (fun i=>n-i) 0 (by omega) rfl (ar _) ?_
 intro i hi
 by_cases h:i<n
 ·obtain ⟨b,o,rfl⟩:=ha (by omega) (by decide)
  have h2:=hv.2 i (by omega)
  have h3:=hps (i+1)
  have h4:=hst i h
  have h5:(ls.take (i+1)).flatten.length=(ls.take i).flatten.length+(ls.getD i []).length:=by rw [h4,List.length_append]
  (repeat' ((try refine aw ?_);(conv=>arg 4;whnf);first | refine az ?_ |(refine sN ?_;intro b)| fail));(all_goals refine av ?_)
  refine a5 (i+1) ?_ ?_ (ar _) ?_
  ·show _=_
   rw [h5,←h2];rfl
  ·omega
  ·omega
 have hi':i=n:=by omega
 have e1:(ls.take i).flatten=ls.flatten:=by rw [List.take_of_length_le (by omega)]
 rw [e1]
 (repeat' ((try refine aw ?_);(conv=>arg 4;whnf);first | refine az ?_ |(refine sN ?_;intro b)| fail));(all_goals refine av ?_)
 refine cN (X:=Nat) (fun i=> [(7,vI (ls.take i).flatten.length),(25,vI i)]) (fun i=>i≤n) (fun i=> [iB b (bE ((ls.take i).flatten++List.replicate (ls.flatten.length-(ls.take i).flatten.length) 0)) 5]) (fun i=>n-i) 0 (by omega) rfl ?_ ?_
 ·rw [bL];exact ar _
 intro i hi
 have hp:=hps i
 by_cases h:i<n
 ·obtain ⟨b',o,rfl⟩:=ha (by omega) (by decide)
  have h2:=hv.2 i (by omega)
  have h3:=hps (i+1)
  have h4:=hst i h
  have h5:(ls.take (i+1)).flatten.length=(ls.take i).flatten.length+(ls.getD i []).length:=by rw [h4,List.length_append]
  refine aR (Sl cB (vs.getD i default).1 (vs.getD i default).2.1 (vs.getD i default).2.2 (ls.getD i [])) (fun w _ h=>(h _ (.tail _ (.head _))).2 i (by omega)) ?_
  by_cases h6:(ls.take i).flatten.length<ls.flatten.length
  ·(repeat' ((try refine aw ?_);(conv=>arg 4;whnf);first | refine az ?_ |(refine sN ?_;intro b)| fail));(all_goals refine av ?_)
   refine a5 (i+1) ?_ ?_ ?_ ?_
   ·show _=_
    rw [h5,h2,Nat.min_eq_left (by omega)];rfl
   ·omega
   ·have e:(ls.getD i []).take (min (vs.getD i default).2.1 (ls.flatten.length-(ls.take i).flatten.length))=ls.getD i []:=List.take_of_length_le (by omega)
    rw [e,h4,spl,List.take_left,List.append_assoc,List.drop_append,List.drop_eq_nil_of_le (by omega),List.nil_append,List.drop_replicate,←List.append_assoc]
    simp only [List.length_append]
    rw [show ls.flatten.length-(ls.take i).flatten.length-((ls.take i).flatten.length+(ls.getD i []).length-(ls.take i).flatten.length)=ls.flatten.length-((ls.take i).flatten.length+(ls.getD i []).length) by omega]
    exact ar _
   ·omega
  ·(repeat' ((try refine aw ?_);(conv=>arg 4;whnf);first | refine az ?_ |(refine sN ?_;intro b)| fail));(all_goals refine av ?_)
   refine a5 (i+1) ?_ ?_ ?_ ?_
   ·show _=_
    rw [h5,Nat.min_zero,show (ls.getD i []).length=0 by omega];rfl
   ·omega
   ·have e:ls.getD i []= []:=List.eq_nil_of_length_eq_zero (by omega)
    rw [h4,e,List.take_nil,List.append_nil]
    simp only [spl,List.take_zero,List.length_nil,Nat.add_zero,List.drop_zero,List.nil_append]
    exact ar _
   ·omega
 ·(repeat' ((try refine aw ?_);(conv=>arg 4;whnf);first | refine az ?_ |(refine sN ?_;intro b)| fail));(all_goals refine av ?_)
  refine aD b True.intro rfl ?_
  rw [List.take_of_length_le (by omega),Nat.sub_self,List.replicate_zero,List.append_nil];exact ar _
theorem BB {l l2:List UInt8} (h:l2.length=l.length):xorl l l2=(List.range l.length).map fun j=>l.getD j default^^^l2.getD j default:=by
 apply List.ext_getElem (by simp [xorl,h])
 intro j h1 h2
 have h3:j<l.length:=by simpa using h2
 simp [xorl,List.getD,List.getElem?_eq_getElem h3,List.getElem?_eq_getElem (show j<l2.length by omega)]
theorem H0 {a a2:Option Addr} {n c n2 c2:Nat} {l l2:List UInt8} (h0:l2.length=l.length) (hs:l.length≤1099511627776):Zp Tryz.prog 237 [.slice a n c, .slice a2 n2 c2] [] [Sl cB a n c l,Sl cB a2 n2 c2 l2] Nat (fun _=>True) (fun b=> .tuple #[.slice (some ⟨b,0,none⟩) l.length l.length,vI 0]) (fun b=> [iB b (bE (xorl l l2)) 5]) (fun _=> []):=by
 refine ak fun G=> ?_
 refine aS 0 ?_
 intro hn hc hm ha
 refine aS 1 ?_
 intro hn2 hc2 hm2 ha2
 subst hn
 (repeat' ((try refine aw ?_);(conv=>arg 4;whnf);first | refine az ?_ |(refine sN ?_;intro b)| fail));(all_goals refine av ?_)
 refine cN (X:=Nat) (fun i=> [(25,vI i)]) (fun i=>i≤l.length) (fun i=> [iB b (bE (pick l.length (fun j=>decide (j<i)) fun j=>l.getD j default^^^l2.getD j default)) 5]) (fun i=>l.length-i) 0 (by omega) rfl ?_ ?_
 ·rw [nT _ _ _ (by simp),bL];exact ar _
 intro i hi
 by_cases h:i<l.length
 ·obtain ⟨b1,o1,rfl⟩:=ha (by omega) (by decide)
  obtain ⟨b2,o2,rfl⟩:=ha2 (by omega) (by decide)
  (repeat' ((try refine aw ?_);(conv=>arg 4;whnf);first | refine az ?_ |(refine sN ?_;intro b)| fail));(all_goals refine av ?_)
  refine a5 (i+1) rfl ?_ ?_ ?_
  ·omega
  ·rw [n5 l.length (fun j=>decide (j<i)) (fun j=>decide (j<i+1)) _ i _ h rfl (by intro j hj;rw [Bool.eq_iff_iff];simp;omega)]
   exact ar _
  ·omega
 ·(repeat' ((try refine aw ?_);(conv=>arg 4;whnf);first | refine az ?_ |(refine sN ?_;intro b)| fail));(all_goals refine av ?_)
  refine aD b True.intro rfl ?_
  rw [qt _ _ _ (by intro j hj;simp;omega),←BB h0];exact ar _
end Go.Proofs.YtbobhnldhpjdlaaGreatDoor
namespace Go.Proofs.YtbobhnldhpjdlaaGreatDoor
open Go Go.RowKit Go.Cs Go.Cz
set_option maxRecDepth 100000
set_option maxHeartbeats 2000000
def Gs (q:Value×Value):Pt:=fun w=>At w 1 0 (fW ye)∧At w 4 0 (fX kA)∧At w 2 0 [vI 45,vI 33]∧At w 0 0 [q.1]∧At w 3 0 [q.2]
section
variable {O:List It} {F:List Pt} {q:Value×Value}
instance:Ab O (Gs q::F) 1 0 (fW ye) True:=⟨fun _ w _ h=>(h _ (.head _)).1⟩
instance:Ab O (Gs q::F) 4 0 (fX kA) True:=⟨fun _ w _ h=>(h _ (.head _)).2.1⟩
instance:Ab O (Gs q::F) 2 0 [vI 45,vI 33] True:=⟨fun _ w _ h=>(h _ (.head _)).2.2.1⟩
instance:Ab O (Gs q::F) 0 0 [q.1] True:=⟨fun _ w _ h=>(h _ (.head _)).2.2.2.1⟩
end
class Gq (O:List It) (F:List Pt) (q:outParam (Value×Value)):Prop where
 gq:En O F (Gs q)
instance {O:List It} {F:List Pt} {q:Value×Value}:Gq O (Gs q::F) q:=⟨LJ⟩
instance (priority:=low) {O:List It} {F:List Pt} {f:Pt} {q:Value×Value} [h:Gq O F q]:Gq O (f::F) q:=⟨Li h.gq⟩
theorem Jj:∀k:Fin 32,1≤k.val→(UInt64.ofNat (18446744073709551616-k.val%32)&&&UInt64.ofNat 31).toNat=32-k.val:=by decide+kernel
theorem Ig (x:UInt32) {k:Nat} (h1:1≤k) (h2:k≤31):(x<<<UInt32.ofNat (32-k))|||(x>>>UInt32.ofNat k)=rr x k:=by
 apply UInt32.toNat_inj.1
 rw [←Ft x h1 h2,UInt32.toNat_or,UInt32.toNat_shiftLeft,UInt32.toNat_shiftRight,UInt32.toNat_ofNat',UInt32.toNat_ofNat',Nat.mod_eq_of_lt (show 32-k<2^32 by omega),Nat.mod_eq_of_lt (show k<2^32 by omega),Nat.mod_eq_of_lt (show 32-k<32 by omega),Nat.mod_eq_of_lt (show k<32 by omega),Nat.shiftLeft_eq,Nat.shiftRight_eq_div_pow,Nat.or_comm]
theorem fZ {x:UInt32} {k:Nat} (h1:1≤k) (h2:k≤31):Zp Tryz.prog 292 [vw x,vI k] [] [] Unit (fun _=>True) (fun _=>vw (rr x k)) (fun _=> []) (fun _=> []):=by
 refine ak fun G=> ?_
 (repeat' ((try refine aw ?_);(conv=>arg 4;whnf);first | refine az ?_ | refine ae ?_ | fail));(all_goals refine av ?_)
 refine nF (rf (hp:=by omega)) ?_
 have e:vq (UInt64.ofNat (18446744073709551616-k%32)&&&UInt64.ofNat 31)= .int .u64 ((32-k:Nat):Int):=congrArg (fun m:Nat=>Value.int .u64 (m:Int)) (Jj ⟨k,by omega⟩ h1)
 rw [e]
 (repeat' ((try refine aw ?_);(conv=>arg 4;whnf);first | refine az ?_ | refine ae ?_ | fail));(all_goals refine av ?_)
 refine aD () True.intro ?_ (am _)
 rw [show 32-(32-k)=k by omega,Ig x h1 h2];rfl
theorem LC (a b c d:UInt32):a+b+c+d=d+b+c+a:=by
 rw [UInt32.add_comm a b,UInt32.add_assoc b a c,UInt32.add_comm a c,←UInt32.add_assoc,UInt32.add_assoc (b+c),UInt32.add_comm a d,←UInt32.add_assoc,UInt32.add_comm (b+c) d,←UInt32.add_assoc]
theorem vT {a:Option Addr} {n c:Nat} {l:List UInt8}:Zp Tryz.prog 170 [.slice a n c] [] [Sl cB a n c l] Unit (fun _=>True) (fun _=> .tuple #[vw (UInt32.ofNat (dz l 4)),vI (np l 4)]) (fun _=> []) (fun _=> []):=by
 refine ak fun G=> ?_
 (repeat' ((try refine aw ?_);(conv=>arg 4;whnf);first | refine az ?_ |(refine aA (ET 4 (by decide)) ?_;intro x hx;refine aH ?_)| exact ax | fail));(all_goals refine av ?_)
theorem IG {bs:List UInt8} (hb:bs.length=64):Zp Tryz.prog 291 [vA (bE bs)] [] [] Unit (fun _=>True) (fun _=>vA (fX (schd bs 64))) (fun _=> []) (fun _=> []):=by
 refine ak fun G=> ?_
 (repeat' ((try refine aw ?_);(conv=>arg 4;whnf);first | refine az ?_ |(refine sN ?_;intro b)| exact ax | fail));(all_goals refine av ?_)
 rename_i a
 refine cN (X:=Nat) (fun i=> [(9,vI i)]) (fun i=>i≤16) (fun i=> [iB b (fX (schd bs i)) 479,iB a (bE bs) 322]) (fun i=>16-i) 0 (by omega) rfl (ar _) ?_
 intro i hi
 by_cases h:i<16
 ·(repeat' ((try refine aw ?_);(conv=>arg 4;whnf);first | refine az ?_ |(refine sN ?_;intro b)|(refine aA vT ?_;intro x hx;refine aH ?_)| exact ax | fail));(all_goals refine av ?_)
  refine a5 (i+1) rfl ?_ ?_ ?_
  ·omega
  ·rw [show 4*i+4-4*i=4 by omega,AT h rfl];exact ar _
  ·omega
 have hi':i=16:=by omega
 subst hi'
 (repeat' ((try refine aw ?_);(conv=>arg 4;whnf);first | refine az ?_ |(refine sN ?_;intro b)| exact ax | fail));(all_goals refine av ?_)
 refine cN (X:=Nat) (fun i=> [(4,vI i)]) (fun i=>16≤i∧i≤64) (fun i=> [iB b (fX (schd bs i)) 479,iB a (bE bs) 322]) (fun i=>64-i) 16 (by omega) rfl (ar _) ?_
 intro i hi
 by_cases h:i<64
 ·(repeat' ((try refine aw ?_);(conv=>arg 4;whnf);first | refine az ?_ |(refine sN ?_;intro b)|((first | refine aA (fZ (k:=7) (by decide) (by decide)) ?_ | refine aA (fZ (k:=18) (by decide) (by decide)) ?_ | refine aA (fZ (k:=17) (by decide) (by decide)) ?_ | refine aA (fZ (k:=19) (by decide) (by decide)) ?_);intro x hx;refine aH ?_)| exact ax | fail));(all_goals refine av ?_)
  refine a5 (i+1) rfl ?_ ?_ ?_
  ·omega
  ·rw [BH (by omega) ?_]
   exact ar _
   show _=(schd bs i).l.getD (i-16) 0+(schd bs i).l.getD (i-7) 0+DS ((schd bs i).l.getD (i-15) 0)+CM ((schd bs i).l.getD (i-2) 0)
   simp only [DS,CM]
   exact LC _ _ _ _
  ·omega
 have hi':i=64:=by omega
 subst hi'
 (repeat' ((try refine aw ?_);(conv=>arg 4;whnf);first | refine az ?_ |(refine sN ?_;intro b)| exact ax | fail));(all_goals refine av ?_)
end Go.Proofs.YtbobhnldhpjdlaaGreatDoor
namespace Go.Proofs.YtbobhnldhpjdlaaGreatDoor
open Go Go.RowKit Go.Cs Go.Cz
set_option maxRecDepth 100000
set_option maxHeartbeats 2000000
theorem Js {O O':List It} (h:O=O'):Wk O O':=h▸ar _
theorem xnot (a:UInt32):a^^^4294967295= ~~~a:=by
 apply UInt32.toBitVec_inj.1
 show a.toBitVec^^^4294967295#32= ~~~a.toBitVec
 rw [show (4294967295#32)=BitVec.allOnes 32 from rfl,BitVec.xor_allOnes]
theorem EQ {h:WA 8} {bs:List UInt8} {q:Value×Value} (hb:bs.length=64):Zp Tryz.prog 235 [vA (fW h),vA (bE bs)] [] [Gs q] Unit (fun _=>True) (fun _=>vA (fW (cmpr h bs))) (fun _=> []) (fun _=> []):=by
 refine ak fun G=> ?_
 (repeat' ((try refine aw ?_);(conv=>arg 4;whnf);first | refine az ?_ |(refine sN ?_;intro b)|(refine aA (IG hb) ?_;intro x hx;refine aH ?_)| exact ax | fail));(all_goals refine av ?_)
 rename_i e d c2 a2
 refine cN (X:=Nat) (fun i=> [(18,vI i)]) (fun i=>i≤64) (fun i=> [iB b (fW (rnds h (schd bs 64) i)) 321,iB a2 (fX (schd bs 64)) 479,iB c2 (fW (WA.zero 8)) 321,iB d (bE bs) 322,iB e (fW h) 321]) (fun i=>64-i) 0 (by omega) rfl (ar _) ?_
 intro i hi
 by_cases h1:i<64
 ·(repeat' ((try refine aw ?_);(conv=>arg 4;whnf);first | refine az ?_ |(refine sN ?_;intro b)|((first | refine aA (fZ (k:=6) (by decide) (by decide)) ?_ | refine aA (fZ (k:=11) (by decide) (by decide)) ?_ | refine aA (fZ (k:=25) (by decide) (by decide)) ?_ | refine aA (fZ (k:=2) (by decide) (by decide)) ?_ | refine aA (fZ (k:=13) (by decide) (by decide)) ?_ | refine aA (fZ (k:=22) (by decide) (by decide)) ?_);intro x hx;refine aH ?_)| exact ax | fail));(all_goals refine av ?_)
  refine a5 (i+1) rfl ?_ ?_ ?_
  ·omega
  ·refine Js (congrArg (fun x=>iB b (fW x) 321::_) ?_)
   simp only [xnot]
   exact WA.ext' rfl
  ·omega
 have hi':i=64:=by omega
 subst hi'
 (repeat' ((try refine aw ?_);(conv=>arg 4;whnf);first | refine az ?_ |(refine sN ?_;intro b)| exact ax | fail));(all_goals refine av ?_)
 refine cN (X:=Nat) (fun i=> [(99,vI i)]) (fun i=>i≤8) (fun i=> [iB b (fW (rnds h (schd bs 64) 64)) 321,iB a2 (fX (schd bs 64)) 479,iB c2 (fW (WA.zero 8)) 321,iB d (bE bs) 322,iB e (fW (rd h (rnds h (schd bs 64) 64) i)) 321]) (fun i=>8-i) 0 (by omega) rfl ?_ ?_
 ·rw [yP];exact ar _
 intro i hi
 by_cases h1:i<8
 ·(repeat' ((try refine aw ?_);(conv=>arg 4;whnf);first | refine az ?_ |(refine sN ?_;intro b)| exact ax | fail));(all_goals refine av ?_)
  refine a5 (i+1) rfl ?_ ?_ ?_
  ·omega
  ·((repeat' (first | with_reducible exact ar _ | exact am _ | refine aE ?_ ?_ | fail))<;>(try with_reducible rfl))
   exact congrArg fW (xB h1)
  ·omega
 have hi':i=8:=by omega
 subst hi'
 (repeat' ((try refine aw ?_);(conv=>arg 4;whnf);first | refine az ?_ |(refine sN ?_;intro b)| exact ax | fail));(all_goals refine av ?_)
end Go.Proofs.YtbobhnldhpjdlaaGreatDoor
namespace Go.Proofs.YtbobhnldhpjdlaaGreatDoor
open Go Go.RowKit Go.Cs Go.Cz
set_option maxRecDepth 100000
set_option maxHeartbeats 2000000
abbrev sT (s:Sta):List Value:=jY s.bg s.h s.rest s.many
theorem Ez {q:Value×Value}:Zp Tryz.prog 171 [] [] [Gs q] Unit (fun _=>True) (fun _=>vA (sT Sta.new)) (fun _=> []) (fun _=> []):=by
 refine ak fun G=> ?_
 (repeat' ((try refine aw ?_);(conv=>arg 4;whnf);first | refine az ?_ |(refine sN ?_;intro b)| exact ax | fail));(all_goals refine av ?_)
theorem x9 {a:Option Addr} {n c:Nat} {l l0:List UInt8} {s:Sta} {q:Value×Value} (hs:Sm s l0) (hb:l0.length+l.length≤4611686018427387904):Zp Tryz.prog 172 [vA (sT s), .slice a n c] [] [Sl cB a n c l,Gs q] Sta (fun s'=>Sm s' (l0++l)) (fun s'=>vA (sT s')) (fun _=> []) (fun _=> []):=by
 refine ak fun G=> ?_
 refine aS 0 ?_
 intro hn hc hm ha
 have hbg:=hs.bg
 have hsr:=s.hr
 unfold sT
 rw [hbg]
 (repeat' ((try refine aw ?_);(conv=>arg 4;whnf);first | refine az ?_ |(refine sN ?_;intro b)| fail));(all_goals refine av ?_)
 rename_i e
 refine cN (X:=Nat×Option Addr×Nat×Sta) (fun x=> [(1, .slice x.2.1 (n-x.1) x.2.2.1)]) (fun x=>x.1≤n∧n-x.1≤x.2.2.1∧x.2.2.1≤9223372036854775807∧(x.1<n→∃b' o',a=some ⟨b',o',none⟩∧x.2.1=some ⟨b',o'+x.1*1,none⟩)∧Sm x.2.2.2 (l0++l.take x.1)) (fun x=> [iB b (jY false (WA.zero 8) (List.replicate 64 0) 0) 324,iB e (sT x.2.2.2) 324]) (fun x=>n-x.1) (0,a,c,s) ?_ rfl ?_ ?_
 ·refine ⟨by omega,by show n-0≤c;omega,hm,fun h=> ?_,by simpa using hs⟩
  obtain ⟨b',o',h1⟩:=ha h (by decide)
  exact ⟨b',o',h1,by simpa using h1⟩
 ·unfold sT;rw [hbg];exact ar _
 rintro ⟨k,a',c',s⟩ ⟨h1,h2,h3,h4,h5⟩
 dsimp only at h1 h2 h3 h4 h5⊢
 have hsr:=s.hr
 have hsm:s.many=l0.length+k:=by rw [h5.many,List.length_append,List.length_take];omega
 unfold sT
 by_cases h6:k<n
 ·obtain ⟨b',o',rfl,rfl⟩:=h4 h6
  obtain ⟨j,hj⟩:∃j,j=min (n-k) (64-s.many%64):=⟨_,rfl⟩
  obtain ⟨x,hx⟩:∃x,x=((l.drop k).take (n-k)).take j:=⟨_,rfl⟩
  have hxl:x.length=j:=by rw [hx];simp;omega
  have ht:l.take (k+j)=l.take k++x:=by
   rw [hx,List.take_take,Nat.min_eq_left (by omega),List.take_add]
  have hsp:(spl s.rest (s.many%64) x).length=64:=by
   rw [k8 _ _ _ (by omega)];exact hsr
  have hm64:s.many+j<2^64:=by omega
  have hat:s.many%64=(l0++l.take k).length%64:=by rw [h5.many]
  subst hx hj
  have hq:∀s':Sta,Sm s' (l0++l.take k++((l.drop k).take (n-k)).take (min (n-k) (64-s.many%64)))→k+min (n-k) (64-s.many%64)≤n∧n-(k+min (n-k) (64-s.many%64))≤c'-min (n-k) (64-s.many%64)∧c'-min (n-k) (64-s.many%64)≤9223372036854775807∧Sm s' (l0++l.take (k+min (n-k) (64-s.many%64))):=fun s' h=>by
   refine ⟨by omega,by omega,by omega, ?_⟩
   rw [ht,←List.append_assoc];exact h
  by_cases h8:min (n-k) (64-s.many%64)<c'
  ·by_cases h7:s.many%64+min (n-k) (64-s.many%64)=64
   ·skip
    (repeat' ((try refine aw ?_);(conv=>arg 4;whnf);first | refine az ?_ |(refine sN ?_;intro b)|(refine aA (EQ hsp) ?_;intro x hx;refine aH ?_)| fail));(all_goals refine av ?_)
    refine a5 ((k+min (n-k) (64-s.many%64),(some ⟨b',o'+k*1+min (n-k) (64-s.many%64)*1,none⟩:Option Addr),c'-min (n-k) (64-s.many%64),(⟨s.bg,cmpr s.h (dF s.rest (s.many%64) (((l.drop k).take (n-k)).take (min (n-k) (64-s.many%64)))),dF s.rest (s.many%64) (((l.drop k).take (n-k)).take (min (n-k) (64-s.many%64))),s.many+min (n-k) (64-s.many%64),hsp,hm64⟩:Sta)):Nat×Option Addr×Nat×Sta) ?_ ?_ ?_ ?_
    ·show _=_
     dsimp only
     rw [Nat.sub_add_eq];rfl
    ·obtain ⟨a1,a2,a3,a4⟩:=hq _ (h5.full hat hxl h7 hsp hm64)
     exact ⟨a1,a2,a3,fun _=>⟨b',o',rfl,by dsimp only;rw [Nat.add_mul,Nat.add_assoc]⟩,a4⟩
    ·((repeat' (first | with_reducible exact ar _ | exact am _ | refine aE ?_ ?_ | fail))<;>(try with_reducible rfl))
     all_goals exact rfl
    ·show n-_<n-_
     dsimp only;omega
   ·skip
    (repeat' ((try refine aw ?_);(conv=>arg 4;whnf);first | refine az ?_ |(refine sN ?_;intro b)| fail));(all_goals refine av ?_)
    refine a5 ((k+min (n-k) (64-s.many%64),(some ⟨b',o'+k*1+min (n-k) (64-s.many%64)*1,none⟩:Option Addr),c'-min (n-k) (64-s.many%64),(⟨s.bg,s.h,dF s.rest (s.many%64) (((l.drop k).take (n-k)).take (min (n-k) (64-s.many%64))),s.many+min (n-k) (64-s.many%64),hsp,hm64⟩:Sta)):Nat×Option Addr×Nat×Sta) ?_ ?_ ?_ ?_
    ·show _=_
     dsimp only
     rw [Nat.sub_add_eq];rfl
    ·obtain ⟨a1,a2,a3,a4⟩:=hq _ (h5.part hat hxl (by omega) hsp hm64)
     exact ⟨a1,a2,a3,fun _=>⟨b',o',rfl,by dsimp only;rw [Nat.add_mul,Nat.add_assoc]⟩,a4⟩
    ·((repeat' (first | with_reducible exact ar _ | exact am _ | refine aE ?_ ?_ | fail))<;>(try with_reducible rfl))
     all_goals exact rfl
    ·show n-_<n-_
     dsimp only;omega
  ·by_cases h7:s.many%64+min (n-k) (64-s.many%64)=64
   ·skip
    (repeat' ((try refine aw ?_);(conv=>arg 4;whnf);first | refine az ?_ |(refine sN ?_;intro b)|(refine aA (EQ hsp) ?_;intro x hx;refine aH ?_)| fail));(all_goals refine av ?_)
    refine a5 ((k+min (n-k) (64-s.many%64),(some ⟨b',o'+k*1,none⟩:Option Addr),0,(⟨s.bg,cmpr s.h (dF s.rest (s.many%64) (((l.drop k).take (n-k)).take (min (n-k) (64-s.many%64)))),dF s.rest (s.many%64) (((l.drop k).take (n-k)).take (min (n-k) (64-s.many%64))),s.many+min (n-k) (64-s.many%64),hsp,hm64⟩:Sta)):Nat×Option Addr×Nat×Sta) ?_ ?_ ?_ ?_
    ·show _=_
     dsimp only
     rw [show n-(k+min (n-k) (64-s.many%64))=0 by omega];rfl
    ·obtain ⟨a1,a2,a3,a4⟩:=hq _ (h5.full hat hxl h7 hsp hm64)
     exact ⟨a1,by dsimp only;omega,by dsimp only;omega,fun h=>absurd h (by dsimp only;omega),a4⟩
    ·((repeat' (first | with_reducible exact ar _ | exact am _ | refine aE ?_ ?_ | fail))<;>(try with_reducible rfl))
     all_goals exact rfl
    ·show n-_<n-_
     dsimp only;omega
   ·skip
    (repeat' ((try refine aw ?_);(conv=>arg 4;whnf);first | refine az ?_ |(refine sN ?_;intro b)| fail));(all_goals refine av ?_)
    refine a5 ((k+min (n-k) (64-s.many%64),(some ⟨b',o'+k*1,none⟩:Option Addr),0,(⟨s.bg,s.h,dF s.rest (s.many%64) (((l.drop k).take (n-k)).take (min (n-k) (64-s.many%64))),s.many+min (n-k) (64-s.many%64),hsp,hm64⟩:Sta)):Nat×Option Addr×Nat×Sta) ?_ ?_ ?_ ?_
    ·show _=_
     dsimp only
     rw [show n-(k+min (n-k) (64-s.many%64))=0 by omega];rfl
    ·obtain ⟨a1,a2,a3,a4⟩:=hq _ (h5.part hat hxl (by omega) hsp hm64)
     exact ⟨a1,by dsimp only;omega,by dsimp only;omega,fun h=>absurd h (by dsimp only;omega),a4⟩
    ·((repeat' (first | with_reducible exact ar _ | exact am _ | refine aE ?_ ?_ | fail))<;>(try with_reducible rfl))
     all_goals exact rfl
    ·show n-_<n-_
     dsimp only;omega
 ·(repeat' ((try refine aw ?_);(conv=>arg 4;whnf);first | refine az ?_ |(refine sN ?_;intro b)| fail));(all_goals refine av ?_)
  refine aD s ?_ rfl (am _)
  rwa [List.take_of_length_le (by omega)] at h5
end Go.Proofs.YtbobhnldhpjdlaaGreatDoor
namespace Go.Proofs.YtbobhnldhpjdlaaGreatDoor
open Go Go.RowKit Go.Cs Go.Cz
set_option maxRecDepth 100000
set_option maxHeartbeats 2000000
theorem uN {y:UInt32}:Zp Tryz.prog 62 [vw y] [] [] Nat (fun _=>True) (fun b=> .slice (some ⟨b,0,none⟩) 4 4) (fun b=> [iB b (bE (be y.toNat 4)) 5]) (fun _=> []):=by
 refine ak fun G=> ?_
 have hx:=y.toNat_lt
 (repeat' ((try refine aw ?_);(conv=>arg 4;whnf);first | refine az ?_ |(refine aA (D5 y.toNat 4 (by decide)) ?_;intro x hx;refine aH ?_)| fail));(all_goals refine av ?_)
 exact aD x True.intro rfl (ar _)
theorem jC {n:Nat} (hn:n<2^64):Zp Tryz.prog 166 [.int .u64 (n:Int)] [] [] Nat (fun _=>True) (fun b=> .slice (some ⟨b,0,none⟩) 8 8) (fun b=> [iB b (bE (be n 8)) 5]) (fun _=> []):=by
 refine ak fun G=> ?_
 (repeat' ((try refine aw ?_);(conv=>arg 4;whnf);first | refine az ?_ |(refine aA (D5 n 8 (by decide)) ?_;intro x hx;refine aH ?_)| fail));(all_goals refine av ?_)
 exact aD x True.intro rfl (ar _)
theorem Dl {x:WA 8} {i:Nat} (h:i<8):spl (As x i) (4*i) ((be (x.l.getD i default).toNat 4).take (min 4 (32-4*i)))=As x (i+1):=by
 have hl:=lW x i
 rw [List.take_of_length_le (by rw [gl];omega),spl,As,As,List.take_append_of_le_length (by omega),List.take_of_length_le (by omega),List.drop_append,hl,gl,
  List.drop_eq_nil_of_le (by omega),List.nil_append,List.drop_replicate,show 32-i*4-(4*i+4-i*4)=32-(i+1)*4 by omega]
 rfl
theorem D7 {l:List UInt8} {s0:Sta} {q:Value×Value} (hs:Sm s0 l) (hb:l.length≤1152921504606846976):Zp Tryz.prog 174 [vA (sT s0)] [] [Gs q] Unit (fun _=>True) (fun _=>vA (ay (bI l))) (fun _=> []) (fun _=> []):=by
 refine ak fun G=> ?_
 have hbg:=hs.bg
 have hsr:=s0.hr
 have hsm:=hs.many
 unfold sT
 have hb1:l.length+ [(128:UInt8)].length≤4611686018427387904:=by simp;omega
 (repeat' ((try refine aw ?_);(conv=>arg 4;whnf);first | refine az ?_ |(refine sN ?_;intro b)|(refine aA (x9 (l:= [128]) hs hb1) ?_;intro x hx;refine aH ?_)| exact ax | fail));(all_goals refine av ?_)
 rename_i st d
 have hx0:Sm x (l++ [128]++List.replicate 0 0):=by simpa using hx
 refine cN (X:=Sta×Nat) (fun x=> []) (fun x=>x.2≤qB l.length∧Sm x.1 (l++ [128]++List.replicate x.2 0)) (fun x=> [iB st (sT x.1) 324,iB d (ay Dig.zero) 66]) (fun x=>qB l.length-x.2) (x,0) ⟨Nat.zero_le _,hx0⟩ rfl ?_ ?_
 ·((repeat' (first | exact am _ | refine aE ?_ ?_ | refine aG inferInstance ?_))<;>(try with_reducible rfl))
 rintro ⟨s,j⟩ ⟨h1,h2⟩
 dsimp only at h1 h2⊢
 have hsr:=s.hr
 have hsm2:s.many=l.length+1+j:=by rw [h2.many];simp;omega
 have hpz:qB l.length=(119-l.length%64)%64:=rfl
 by_cases h3:s.many%64=56
 ·have h8:8*s0.many<2^64:=by omega
  have hj:j=qB l.length:=by omega
  have hb3:(l++ [128]++List.replicate j 0).length+(be (8*s0.many) 8).length≤4611686018427387904:=by simp;omega
  (repeat' ((try refine aw ?_);(conv=>arg 4;whnf);first | refine az ?_ |(refine sN ?_;intro b)|((first | refine aA (jC h8) ?_ | refine aA (x9 (l:=be (8*s0.many) 8) h2 hb3) ?_);intro x hx;refine aH ?_)| exact ax | fail));(all_goals refine av ?_)
  have hH:x.h=l9 (nD l) ((nD l).length/64):=by
   refine Sm.done ?_
   rw [←DE (n:=s0.many) hsm hj,Nat.mod_eq_of_lt h8];exact hx
  refine cN (X:=Nat) (fun i=> [(25,vI i)]) (fun i=>i≤8) (fun i=> [iB st (sT x) 324,iB d (bE (As x.h i)) 66]) (fun i=>8-i) 0 (by omega) rfl ?_ ?_
  ·rw [yZ];((repeat' (first | exact am _ | refine aE ?_ ?_ | refine aG inferInstance ?_))<;>(try with_reducible rfl))
  intro i hi
  have hdl:=DB x.h hi
  by_cases h9:i<8
  ·(repeat' ((try refine aw ?_);(conv=>arg 4;whnf);first | refine aO ?_ |(refine sN ?_;intro b)| exact ax | fail));(all_goals refine av ?_)
   refine gM [iB st (sT x) 324,iU d] [Gs q] ?_ (fun _ h=>h) rfl ?_
   ·exact aE (aG inferInstance (am _)) rfl
   (repeat' ((try refine aw ?_);(conv=>arg 4;whnf);first | refine aO ?_ |(refine sN ?_;intro b)|(refine aA uN ?_;intro x hx;refine aH ?_)| exact ax | fail));(all_goals refine av ?_)
   refine a5 (i+1) rfl ?_ ?_ ?_
   ·omega
   ·rw [←Dl h9];((repeat' (first | exact am _ | refine aE ?_ ?_ | refine aG inferInstance ?_))<;>(try with_reducible rfl))
   ·omega
  ·have hi':i=8:=by omega
   subst hi'
   rw [hH,CG]
   (repeat' ((try refine aw ?_);(conv=>arg 4;whnf);first | refine az ?_ |(refine sN ?_;intro b)| exact ax | fail));(all_goals refine av ?_)
 ·have hb2:(l++ [128]++List.replicate j 0).length+ [(0:UInt8)].length≤4611686018427387904:=by simp;omega
  (repeat' ((try refine aw ?_);(conv=>arg 4;whnf);first | refine az ?_ |(refine sN ?_;intro b)|(refine aA (x9 (l:= [0]) h2 hb2) ?_;intro x hx;refine aH ?_)| exact ax | fail));(all_goals refine av ?_)
  refine a5 ((x,j+1):Sta×Nat) rfl ?_ ?_ ?_
  ·refine ⟨by dsimp only;omega, ?_⟩
   dsimp only
   rw [List.replicate_succ',←List.append_assoc];exact hx
  ·((repeat' (first | exact am _ | refine aE ?_ ?_ | refine aG inferInstance ?_))<;>(try with_reducible rfl))
  ·show qB _-_<qB _-_
   dsimp only;omega
end Go.Proofs.YtbobhnldhpjdlaaGreatDoor
namespace Go.Proofs.YtbobhnldhpjdlaaGreatDoor
open Go Go.RowKit Go.Cs Go.Cz
set_option maxRecDepth 100000
set_option maxHeartbeats 2000000
theorem w7 {O:List It} {F:List Pt} {vs:List Sv} {ls:List (List UInt8)} (h:Pr vs ls∈F):En O F (fun _=>vs.length=ls.length∧∀i,i<ls.length→(vs.getD i default).2.1=(ls.getD i []).length):=fun w _ hf=>by
 obtain ⟨h1,h2⟩:=hf _ h
 exact ⟨h1,fun i hi=>(h2 i hi).1⟩
theorem EG {ls:List (List UInt8)} {i:Nat} (hi:i<ls.length):(ls.take (i+1)).flatten=(ls.take i).flatten++ls.getD i []:=by
 rw [List.take_succ_eq_append_getElem hi,List.flatten_append];simp only [List.flatten_cons,List.flatten_nil,List.append_nil,List.getD,List.getElem?_eq_getElem hi,Option.getD_some]
theorem EU (ls:List (List UInt8)) (i:Nat):(ls.take i).flatten.length≤ls.flatten.length:=by
 conv=>rhs;rw [←List.take_append_drop i ls,List.flatten_append,List.length_append]
 omega
theorem JW {a:Option Addr} {n c:Nat} {vs:List Sv} {ls:List (List UInt8)} {q:Value×Value} (hb:ls.flatten.length≤1152921504606846976):Zp Tryz.prog 175 [.slice a n c] [] [Sl cS a n c vs,Pr vs ls,Gs q] Unit (fun _=>True) (fun _=>vA (ay (bI ls.flatten))) (fun _=> []) (fun _=> []):=by
 refine ak fun G=> ?_
 refine aS 0 ?_
 intro hn hc hm ha
 refine f5 (w7 (.tail _ (.head _))) fun hv=> ?_
 (repeat' ((try refine aw ?_);(conv=>arg 4;whnf);first | refine az ?_ |(refine sN ?_;intro b)|(refine aA (Ez (q:=q)) ?_;intro x hx;refine aH ?_)| exact ax | fail));(all_goals refine av ?_)
 rename_i out
 refine cN (X:=Nat×Sta) (fun x=> [(9,vI x.1)]) (fun x=>x.1≤n∧Sm x.2 (ls.take x.1).flatten) (fun x=> [iB b (sT x.2) 324,iB out (ay Dig.zero) 66]) (fun x=>n-x.1) (0,Sta.new) ⟨Nat.zero_le _,by simpa using Sm.new⟩ rfl ?_ ?_
 ·((repeat' (first | with_reducible exact ar _ | exact am _ | fail))<;>(try with_reducible rfl))
 rintro ⟨i,s⟩ ⟨hi,hs⟩
 dsimp only at hi hs⊢
 by_cases h:i<n
 ·obtain ⟨b',o,rfl⟩:=ha (by omega) (by decide)
  have h2:=hv.2 i (by omega)
  have h3:=EU ls (i+1)
  have h4:=EG (ls:=ls) (i:=i) (by omega)
  refine aR (Sl cB (vs.getD i default).1 (vs.getD i default).2.1 (vs.getD i default).2.2 (ls.getD i [])) (fun w _ h=>(h _ (.tail _ (.head _))).2 i (by omega)) ?_
  have hb2:(ls.take i).flatten.length+(ls.getD i []).length≤4611686018427387904:=by rw [h4,List.length_append] at h3;omega
  (repeat' ((try refine aw ?_);(conv=>arg 4;whnf);first | refine az ?_ |(refine sN ?_;intro b)|(refine aA (x9 (l:=ls.getD i []) hs hb2) ?_;intro x hx;refine aH ?_)| exact ax | fail));(all_goals refine av ?_)
  refine a5 ((i+1,x):Nat×Sta) rfl ?_ ?_ ?_
  ·exact ⟨h,by rw [h4];exact hx⟩
  ·((repeat' (first | with_reducible exact ar _ | exact am _ | fail))<;>(try with_reducible rfl))
  ·show n-_<n-_
   omega
 ·have hi':i=ls.length:=by omega
  subst hi'
  rw [List.take_length] at hs
  (repeat' ((try refine aw ?_);(conv=>arg 4;whnf);first | refine az ?_ |(refine sN ?_;intro b)|(refine aA (D7 hs hb) ?_;intro x hx;refine aH ?_)| exact ax | fail));(all_goals refine av ?_)
theorem HH {a:Option Addr} {n c:Nat} {l:List UInt8} (h:l.length≤64):Zp Tryz.prog 236 [.slice a n c] [] [Sl cB a n c l] Unit (fun _=>True) (fun _=>vA (bE (l++List.replicate (64-l.length) 0))) (fun _=> []) (fun _=> []):=by
 refine ak fun G=> ?_
 refine aS 0 ?_
 intro hn hc hm ha
 subst hn
 have e:spl (List.replicate 64 0) 0 (List.take (min l.length 64) l)=l++List.replicate (64-l.length) 0:=by
  rw [spl,List.take_of_length_le (l:=l) (by omega),List.take_zero,List.nil_append,List.drop_replicate,Nat.zero_add]
 (repeat' ((try refine aw ?_);(conv=>arg 4;whnf);first | refine az ?_ |(refine sN ?_;intro b)| exact ax | fail));(all_goals refine av ?_)
 rw [e]
 (repeat' ((try refine aw ?_);(conv=>arg 4;whnf);first | refine az ?_ |(refine sN ?_;intro b)| exact ax | fail));(all_goals refine av ?_)
theorem D6 {a:Option Addr} {n c:Nat} {l:List UInt8} {y:UInt8} (h:l.length≤64):Zp Tryz.prog 173 [.slice a n c,vb y] [] [Sl cB a n c l] Nat (fun _=>True) (fun b=> .slice (some ⟨b,0,none⟩) 64 64) (fun b=> [iB b (bE (iy l y)) 5]) (fun _=> []):=by
 refine ak fun G=> ?_
 obtain ⟨k,hk,hkl⟩:∃k,k=l++List.replicate (64-l.length) 0∧k.length=64:=⟨_,rfl,by simp;omega⟩
 have hz:=HH (a:=a) (n:=n) (c:=c) h
 rw [←hk] at hz
 (repeat' ((try refine aw ?_);(conv=>arg 4;whnf);first | refine az ?_ |(refine sN ?_;intro b)|(refine aA hz ?_;intro x hx;refine aH ?_)| fail));(all_goals refine av ?_)
 rename_i kb
 refine cN (X:=Nat) (fun i=> [(15,vI i)]) (fun i=>i≤64) (fun i=> [iB b (bE (gQ (List.replicate 64 y) (List.replicate 64 0) i)) 5,iB kb (bE k) 322]) (fun i=>64-i) 0 (by omega) rfl ?_ ?_
 ·rw [eX,bL (List.replicate 64 0)];((repeat' (first | with_reducible exact ar _ | exact am _ | refine aE ?_ ?_ | fail))<;>(try with_reducible rfl))
 intro i hi
 have htl:(gQ (List.replicate 64 y) (List.replicate 64 0) i).length=64:=by rw [fS (by simp) (by simpa using hi)];simp
 by_cases h1:i<64
 ·(repeat' ((try refine aw ?_);(conv=>arg 4;whnf);first | refine az ?_ |(refine sN ?_;intro b)| fail));(all_goals refine av ?_)
  refine a5 (i+1) rfl ?_ ?_ ?_
  ·omega
  ·rw [←eF (x:=y) (by simp) (by simpa using h1) (by rw [List.getD,List.getElem?_replicate,if_pos h1];rfl)];((repeat' (first | with_reducible exact ar _ | exact am _ | refine aE ?_ ?_ | fail))<;>(try with_reducible rfl))
  ·omega
 ·rw [gy (by simp;omega) (by simp;omega)]
  (repeat' ((try refine aw ?_);(conv=>arg 4;whnf);first | refine az ?_ |(refine sN ?_;intro b)|(refine aA (H0 (l:=k) (l2:=List.replicate 64 y) (by simp [hkl]) (by omega)) ?_;intro x hx;refine aH ?_)| fail));(all_goals refine av ?_)
  refine aD x True.intro ?_ ?_
  ·rw [hkl];rfl
  ·rw [iy,←hk];((repeat' (first | with_reducible exact ar _ | exact am _ | refine aE ?_ ?_ | fail))<;>(try with_reducible rfl))
theorem qj {a a2:Option Addr} {n c n2 c2:Nat} {l:List UInt8} {vs:List Sv} {ls:List (List UInt8)} {q:Value×Value} (h:l.length≤64) (hb:ls.flatten.length≤576460752303423488):Zp Tryz.prog 61 [.slice a n c, .slice a2 n2 c2] [] [Sl cB a n c l,Sl cS a2 n2 c2 vs,Pr vs ls,Gs q] Unit (fun _=>True) (fun _=>vA (ay (ej l ls.flatten))) (fun _=> []) (fun _=> []):=by
 refine ak fun G=> ?_
 refine aS 1 ?_
 intro hn hc hm ha
 refine f5 (w7 (.tail _ (.tail _ (.head _)))) fun hv=> ?_
 have hp1:(iy l 54).length=64:=qk h
 have hp2:(iy l 92).length=64:=qk h
 have hb1:([]:List UInt8).length+(iy l 54).length≤4611686018427387904:=by rw [hp1];decide
 (repeat' ((try refine aw ?_);(conv=>arg 4;whnf);first | refine az ?_ |(refine sN ?_;intro b)|((first | refine aA (Ez (q:=q)) ?_ | refine aA (D6 (y:=54) h) ?_ | refine aA (x9 (l:=iy l 54) Sm.new hb1) ?_);intro x hx;refine aH ?_)| exact ax | fail));(all_goals refine av ?_)
 rename_i out _ _ pb _
 refine cN (X:=Nat×Sta) (fun x=> [(15,vI x.1)]) (fun x=>x.1≤n2∧Sm x.2 (iy l 54++(ls.take x.1).flatten)) (fun x=> [iB b (sT x.2) 324,iB out (ay Dig.zero) 66]) (fun x=>n2-x.1) (0,x) ⟨Nat.zero_le _,by simpa using hx⟩ rfl ?_ ?_
 ·((repeat' (first | with_reducible exact ar _ | exact am _ | refine aE ?_ ?_ | fail))<;>(try with_reducible rfl))
 rintro ⟨i,s⟩ ⟨hi,hs⟩
 dsimp only at hi hs⊢
 by_cases h0:i<n2
 ·obtain ⟨b',o,rfl⟩:=ha (by omega) (by decide)
  have h2:=hv.2 i (by omega)
  have h3:=EU ls (i+1)
  have h4:=EG (ls:=ls) (i:=i) (by omega)
  refine aR (Sl cB (vs.getD i default).1 (vs.getD i default).2.1 (vs.getD i default).2.2 (ls.getD i [])) (fun w _ h=>(h _ (.tail _ (.tail _ (.head _)))).2 i (by omega)) ?_
  have hb2:(iy l 54++(ls.take i).flatten).length+(ls.getD i []).length≤4611686018427387904:=by rw [h4,List.length_append] at h3;rw [List.length_append,hp1];omega
  (repeat' ((try refine aw ?_);(conv=>arg 4;whnf);first | refine az ?_ |(refine sN ?_;intro b)|(refine aA (x9 (l:=ls.getD i []) hs hb2) ?_;intro x hx;refine aH ?_)| exact ax | fail));(all_goals refine av ?_)
  refine a5 ((i+1,x):Nat×Sta) rfl ?_ ?_ ?_
  ·exact ⟨h0,by rw [h4,←List.append_assoc];exact hx⟩
  ·((repeat' (first | with_reducible exact ar _ | exact am _ | refine aE ?_ ?_ | fail))<;>(try with_reducible rfl))
  ·show n2-_<n2-_
   omega
 ·have hi':i=ls.length:=by omega
  subst hi'
  rw [List.take_length] at hs
  have hb3:(iy l 54++ls.flatten).length≤1152921504606846976:=by rw [List.length_append,hp1];omega
  have hb4: [iy l 92,(bI (iy l 54++ls.flatten)).l].flatten.length≤1152921504606846976:=by simp [hp2]
  have e:ej l ls.flatten=bI [iy l 92,(bI (iy l 54++ls.flatten)).l].flatten:=by simp [ej]
  rw [e]
  (repeat' ((try refine aw ?_);(conv=>arg 4;whnf);first | refine az ?_ |(refine sN ?_;intro b)|((first | refine aA (D7 hs hb3) ?_ | refine aA (D6 (y:=92) h) ?_ | refine aA (JW hb4) ?_);intro x hx;refine aH ?_)| exact ax | fail));(all_goals refine av ?_)
def orx (a b:List UInt8):Nat→UInt8
 | 0=>0
 | i+1=>orx a b i |||(a.getD i default^^^b.getD i default)
theorem Gf (a b:UInt8):a ||| b=0↔a=0∧b=0:=by
 constructor
 ·intro h
  have h1:=congrArg UInt8.toBitVec h
  have h2:a.toBitVec ||| b.toBitVec=0#8:=h1
  rw [BitVec.or_eq_zero_iff] at h2
  exact ⟨UInt8.toBitVec_inj.1 h2.1,UInt8.toBitVec_inj.1 h2.2⟩
 ·rintro ⟨rfl,rfl⟩;rfl
theorem Cx (a b:UInt8):a^^^b=0↔a=b:=UInt8.xor_eq_zero_iff
theorem EW {a b:List UInt8}:∀{n:Nat},orx a b n=0↔∀i,i<n→a.getD i default=b.getD i default
 | 0=>⟨fun _ i hi=>absurd hi (Nat.not_lt_zero _),fun _=>rfl⟩
 | n+1=>by
  rw [orx,Gf,EW (n:=n),Cx]
  constructor
  ·rintro ⟨h1,h2⟩ i hi
   rcases Nat.lt_succ_iff_lt_or_eq.1 hi with h | rfl
   ·exact h1 i h
   ·exact h2
  ·intro h
   exact ⟨fun i hi=>h i (by omega),h n (by omega)⟩
theorem ut {a b:Dig}:orx a.l b.l 32=0↔a=b:=by
 rw [EW]
 constructor
 ·intro h
  apply Dig.ext'
  apply List.ext_getElem (by simp)
  intro i h1 h2
  have h3:i<32:=by simpa using h1
  have:=h i h3
  simpa [List.getD,List.getElem?_eq_getElem h1,List.getElem?_eq_getElem h2] using this
 ·rintro rfl i _;rfl
theorem Eb {a a2:Option Addr} {n c n2 c2:Nat} {l m:List UInt8} {t:Dig} {q:Value×Value} (h:l.length≤64) (hb:m.length≤576460752303423488):Zp Tryz.prog 92 [.slice a n c, .slice a2 n2 c2,vA (ay t)] [] [Sl cB a n c l,Sl cB a2 n2 c2 m,Gs q] Unit (fun _=>True) (fun _=> .bool ((ej l m).l==t.l)) (fun _=> []) (fun _=> []):=by
 refine ak fun G=> ?_
 have hb1: [m].flatten.length≤576460752303423488:=by simpa using hb
 (repeat' ((try refine aw ?_);(conv=>arg 4;whnf);first | refine az ?_ |(refine sN ?_;intro b)|(refine sC ?_ ?_<;>intro h)|(refine aA (qj (q:=q) (ls:= [m]) h hb1) ?_;intro x hx;refine aH ?_)| fail));(all_goals refine av ?_)
 rename_i tb pb
 obtain ⟨d,hd⟩:∃d,d=ej l m:=⟨_,rfl⟩
 rw [show ej l [m].flatten=d by rw [hd];simp,←hd]
 refine cN (X:=Nat) (fun i=> [(14,vI i),(8,vb (orx d.l t.l i))]) (fun i=>i≤32) (fun i=> [iB b (ay d) 66,iB tb (ay t) 66]) (fun i=>32-i) 0 (by omega) rfl ?_ ?_
 ·((repeat' (first | with_reducible exact ar _ | exact am _ | refine aE ?_ ?_ | fail))<;>(try with_reducible rfl))
 intro i hi
 by_cases h1:i<32
 ·(repeat' ((try refine aw ?_);(conv=>arg 4;whnf);first | refine az ?_ |(refine sN ?_;intro b)|(refine sC ?_ ?_<;>intro h)| fail));(all_goals refine av ?_)
  refine a5 (i+1) rfl ?_ ?_ ?_
  ·omega
  ·((repeat' (first | with_reducible exact ar _ | exact am _ | refine aE ?_ ?_ | fail))<;>(try with_reducible rfl))
  ·omega
 ·have hi':i=32:=by omega
  subst hi'
  (repeat' ((try refine aw ?_);(conv=>arg 4;whnf);first | refine az ?_ |(refine sN ?_;intro b)|(refine sC ?_ ?_<;>intro h)| fail));(all_goals refine av ?_)
  ·refine aD () True.intro ?_ (am _)
   have h2:orx d.l t.l 32=0:=UInt8.toNat_inj.1 (by show _=0;omega)
   rw [ut.1 h2];simp [gr]
  ·refine aD () True.intro ?_ (am _)
   have h2:¬d.l=t.l:=fun e=>h (by rw [show orx d.l t.l 32=0 from ut.2 (Dig.ext' e)];rfl)
   simp [gr,h2]
end Go.Proofs.YtbobhnldhpjdlaaGreatDoor
namespace Go.Proofs.YtbobhnldhpjdlaaGreatDoor
open Go Go.RowKit Go.Cs Go.Cz
set_option maxRecDepth 100000
set_option maxHeartbeats 2000000
theorem Ey {a:Option Addr} {n c:Nat} {l:List UInt8} (hb:l.length≤65536):Zp Tryz.prog 111 [.slice a n c] [] [Sl cB a n c l] Sv (fun x=>Svp x l.length) (fun x=> .slice x.1 x.2.1 x.2.2) (fun _=> []) (fun x=> [Sl cB x.1 x.2.1 x.2.2 l]):=by
 refine ak fun G=> ?_
 refine aS 0 ?_
 intro hn hc hm ha
 cases a with
 | none=>
  refine f5 (p:=n=0∧c=0) (fun w _ h=>(h _ (.head _)).2.imp_right (fun h=>h.1)) fun h0=> ?_
  obtain ⟨rfl,rfl⟩:=h0
  (repeat' ((try refine aw ?_);(conv=>arg 4;whnf);first | refine az ?_ |(refine sN ?_;intro b)|(refine aa ?_;intro g c')| fail));(all_goals refine av ?_)
  exact aD ((none,0,0):Sv) ⟨hn,Nat.le_refl _,by decide⟩ rfl (am _) (fun _ h=>h)
 | some ad=>
  by_cases h:0<n
  ·obtain ⟨b,o,hbo⟩:=ha h (by decide)
   cases hbo
   (repeat' ((try refine aw ?_);(conv=>arg 4;whnf);first | refine az ?_ |(refine sN ?_;intro b)|(refine aa ?_;intro g c')| fail));(all_goals refine av ?_)
   refine eE (m:=1) (e:=5) cB (some ⟨g,0,none⟩) (0+n) c' ?_
   refine aS 0 ?_
   intro hn2 hc2 hm2 _
   exact aD ((some ⟨g,0,none⟩,0+n,c'):Sv) ⟨by dsimp only;omega,hc2,hm2⟩ rfl (am _) (fun _ h=>by simp at h;subst h;simp)
  ·obtain rfl:n=0:=by omega
   have hl:l= []:=List.eq_nil_of_length_eq_zero hn.symm
   subst hl
   (repeat' ((try refine aw ?_);(conv=>arg 4;whnf);first | refine az ?_ |(refine sN ?_;intro b)|(refine aa ?_;intro g c')| fail));(all_goals refine av ?_)
   refine eK b 0 0 (K:=cB) (l:= []) ?_
   exact aD ((some ⟨b,0,none⟩,0,0):Sv) ⟨rfl,Nat.le_refl _,Nat.zero_le _⟩ rfl (am _) (fun _ h=>by simp at h;subst h;simp)
theorem Av {l:List VN} (hb:l.length≤1099511627776):Zp Tryz.prog 80 [.pointer (vptr l)] [] [Vm l] Unit (fun _=>True) (fun _=>vI l.length) (fun _=> []) (fun _=> []):=by
 refine ak fun G=> ?_
 cases l with
 | nil=>
  simp only [vptr]
  (repeat' ((try refine aw ?_);(conv=>arg 4;whnf);first | refine az ?_ | exact ax | fail));(all_goals refine av ?_)
 | cons v l=>
  simp only [vptr]
  refine aR (Bk v.blk (bU (vcel v l))) (fun w _ h=>(h _ (.head _)).1) ?_
  (repeat' ((try refine aw ?_);(conv=>arg 4;whnf);first | refine az ?_ | exact ax | fail));(all_goals refine av ?_)
theorem JA {l:List VN} {k:Nat} (hb:l.length≤1099511627776) (hk:k≤l.length):Zp Tryz.prog 81 [.pointer (vptr l),vI k] [] [Vm l] Unit (fun _=>True) (fun _=> .pointer (vptr (l.drop k))) (fun _=> []) (fun _=> []):=by
 refine ak fun G=> ?_
 (repeat' ((try refine aw ?_);(conv=>arg 4;whnf);first | refine az ?_ | exact ax | fail));(all_goals refine av ?_)
 refine cN (X:=Nat) (fun i=> [(0, .pointer (vptr (l.drop i))),(1,vI (k-i))]) (fun i=>i≤k) (fun i=> []) (fun i=>k-i) 0 (Nat.zero_le _) rfl (ar _) ?_
 intro i hi
 by_cases h:i<k
 ·obtain ⟨v,r,hr⟩:∃v r,l.drop i=v::r:=⟨l[i],l.drop (i+1),List.drop_eq_getElem_cons (by omega)⟩
  have hr2:l.drop (i+1)=r:=by rw [←List.drop_drop,hr];rfl
  have hp:vptr (l.drop i)=some ⟨v.blk,0,none⟩:=by rw [hr];rfl
  refine aR (Bk v.blk (bU (vcel v r))) (fun w _ h=>by have h2:=Vm.drop i (h _ (.head _));rw [hr] at h2;exact h2.1) ?_
  rw [hp]
  (repeat' ((try refine aw ?_);(conv=>arg 4;whnf);first | refine az ?_ | exact ax | fail));(all_goals refine av ?_)
  refine a5 (i+1) ?_ ?_ (ar _) ?_
  ·rw [hr2,Nat.sub_add_eq];rfl
  ·omega
  ·omega
 ·have hi':i=k:=by omega
  subst hi'
  (repeat' ((try refine aw ?_);(conv=>arg 4;whnf);first | refine az ?_ | exact ax | fail));(all_goals refine av ?_)
theorem oe {d:SDsk} {I:DI} {s:Nat} (hI:I.Ok) (hs:s<I.size):Zp Tryz.prog 79 [vA (aJ d),vI s] [] [Dm d I] Unit (fun _=>True) (fun _=> .tuple #[.pointer (vptr (I.vs.getD s [])),vI 0]) (fun _=> []) (fun _=> []):=by
 refine ak fun G=> ?_
 have h1:=hI.s2
 have hcl:=hI.cl
 have hk:s/64<I.ch.length:=by omega
 have hc:=DI.ch_get hI hs
 have hg:=DI.cs_get hI hs
 have hl:=DI.cs_len hI hk
 refine f5 (p:=d.size=I.size) (fun w _ h=>(h _ (.head _)).1) fun hd=> ?_
 refine aR (Bk (I.ch.getD (s/64) 0) ((I.cs (s/64)).flatMap cP)) (fun w _ h=>(h (Dm d I) (by simp)).2.2.1 _ hk) ?_
 refine aR (Sl cP d.chunks.1 d.chunks.2.1 d.chunks.2.2 (I.ch.map ja)) (fun w _ h=>(h (Dm d I) (by simp)).2.1) ?_
 refine aS 0 ?_
 intro hn hcc hm ha
 rw [List.length_map] at hn
 obtain ⟨b,o,hbo⟩:=ha (by omega) (by decide)
 rw [hbo]
 (repeat' ((try refine aw ?_);(conv=>arg 4;whnf);first | refine az ?_ |(refine sN ?_;intro b)| fail));(all_goals refine av ?_)
 refine aD () True.intro ?_ (am _)
 rw [←hg];rfl
theorem Bt {l:List VN} {c:List UInt8} (hl:sw l=some c) (hb:c.length≤65536):Zp Tryz.prog 82 [.pointer (vptr l)] [] [Vm l] Sv (fun x=>Svp x c.length) (fun x=> .tuple #[.slice x.1 x.2.1 x.2.2,vI 0]) (fun _=> []) (fun x=> [Sl cB x.1 x.2.1 x.2.2 c]):=by
 refine ak fun G=> ?_
 cases l with
 | nil=>cases hl
 | cons v l=>
  have hv:v.th=true∧v.b=c:=by
   simp only [sw] at hl
   split at hl
   ·rename_i h;simp only [Option.some.injEq] at hl;exact ⟨h,hl⟩
   ·cases hl
  obtain ⟨hv1,rfl⟩:=hv
  simp only [vptr]
  refine aR (Bk v.blk (bU (vcel v l))) (fun w _ h=>(h _ (.head _)).1) ?_
  refine aR (Sl cB v.sb.1 v.sb.2.1 v.sb.2.2 v.b) (fun w _ h=>(h (Vm (v::l)) (by simp)).2.1) ?_
  obtain ⟨blk,sb,th,b⟩:=v
  dsimp only at hv1 hb⊢
  subst hv1
  (repeat' ((try refine aw ?_);(conv=>arg 4;whnf);first | refine az ?_ |(refine cw (Ey hb) ?_;intro x hx;refine bV ?_)| refine ae ?_ | fail));(all_goals refine av ?_)
  refine je 0 ?_
  exact aD ((x.1,x.2.1,x.2.1):Sv) (by refine ⟨?_, ?_, ?_⟩<;>dsimp only<;>omega) rfl (am _) bu
theorem F1 {l:List VN} (hl:sw l=none):Zp Tryz.prog 82 [.pointer (vptr l)] [] [Vm l] Unit (fun _=>True) (fun x=> .tuple #[.slice none 0 0,vI 11]) (fun _=> []) (fun x=> []):=by
 refine ak fun G=> ?_
 cases l with
 | nil=>
  simp only [vptr]
  (repeat' ((try refine aw ?_);(conv=>arg 4;whnf);first | refine az ?_ | exact ax | fail));(all_goals refine av ?_)
 | cons v l=>
  have hv:v.th=false:=by
   simp only [sw] at hl
   split at hl
   ·cases hl
   ·rename_i h;simpa using h
  simp only [vptr]
  refine aR (Bk v.blk (bU (vcel v l))) (fun w _ h=>(h _ (.head _)).1) ?_
  obtain ⟨blk,sb,th,b⟩:=v
  dsimp only at hv⊢
  subst hv
  (repeat' ((try refine aw ?_);(conv=>arg 4;whnf);first | refine az ?_ | exact ax | fail));(all_goals refine av ?_)
end Go.Proofs.YtbobhnldhpjdlaaGreatDoor
namespace Go.Proofs.YtbobhnldhpjdlaaGreatDoor
open Go Go.RowKit Go.Cs Go.Cz
set_option maxRecDepth 100000
set_option maxHeartbeats 1000000
theorem FX {q:Option Addr} {l:List VN} (hq:q=vptr l) (hb:l.length≤1099511627776):Zp Tryz.prog 80 [.pointer q] [] [Vm l] Unit (fun _=>True) (fun _=>vI l.length) (fun _=> []) (fun _=> []):=by
 subst hq;exact Av hb
theorem zw {d:SDsk} {I:DI} {s:Nat} {th:Bool} {a:Option Addr} {n c:Nat} {l:List UInt8} (hI:I.Ok) (hs:s<I.size) (hch:d.changes≤1099511627776) (hvl:(I.vs.getD s []).length≤1099511627776):Zp Tryz.prog 110 [vA (aJ d),vI s, .bool th, .slice a n c] [] [Dm d I,Sl cB a n c l] (SDsk×Nat×Nat) (fun x=>x.1.size=d.size∧x.1.changes=d.changes+1) (fun x=>vA (aJ x.1)) (fun _=> []) (fun x=> [Dm x.1 (I.put s x.2.1 ⟨x.2.2,(a,n,c),th,l⟩)]):=by
 obtain ⟨sz,chg,ca,cn,cc⟩:=d
 refine ak fun G=> ?_
 have h1:=hI.s2
 have hcl:=hI.cl
 have hk:s/64<I.ch.length:=by omega
 have hc:=DI.ch_get hI hs
 have hg:=DI.cs_get hI hs
 have hl:=DI.cs_len hI hk
 refine f5 (p:=sz=I.size) (fun w _ h=>(h _ (.head _)).1) fun hd=> ?_
 refine aR (Vm (I.vs.getD s [])) (fun w _ h=>(h (Dm ⟨sz,chg,ca,cn,cc⟩ I) (by simp)).2.2.2 _) ?_
 refine aR (Bk (I.ch.getD (s/64) 0) ((I.cs (s/64)).flatMap cP)) (fun w _ h=>(h (Dm ⟨sz,chg,ca,cn,cc⟩ I) (by simp)).2.2.1 _ hk) ?_
 refine aR (Sl cP ca cn cc (I.ch.map ja)) (fun w _ h=>(h (Dm ⟨sz,chg,ca,cn,cc⟩ I) (by simp)).2.1) ?_
 refine aS 0 ?_
 intro hn hcc hm ha
 rw [List.length_map] at hn
 obtain ⟨b,o,hbo⟩:=ha (by omega) (by decide)
 subst hbo
 dsimp only at hch
 (repeat' ((try refine aw ?_);(conv=>arg 4;whnf);first | refine az ?_ |(refine sN ?_;intro b)|(refine aA (FX hg hvl) ?_;intro x hx;refine aH ?_)| fail));(all_goals refine av ?_)
 rename_i ba bx bd cb vb
 refine G8 (Dm ⟨sz,chg+1,(some ⟨b,0,none⟩,cn,cn)⟩ (I.put s cb ⟨vb,(a,n,c),th,l⟩)) ?_ ?_
 ·intro w h1 h2
  refine Dm.put hI hs (h2 (Dm ⟨sz,chg,(some ⟨ba,o,none⟩,cn,cc)⟩ I) (by simp)) rfl ?_ (GA (e:=366) h1 (by simp [ja])) (by rw [←hg];exact GA (e:=226) h1 (by simp)) (h2 _ (by simp))
  have h3:=GA (e:=351) (b:=b) h1 (.tail _ (.head _))
  rw [Nat.min_self,List.take_of_length_le (by rw [List.length_map];omega)] at h3
  exact rk h3 (by simp;omega) (Nat.le_refl _) (by dsimp only;omega)
 ·exact aD ((⟨sz,chg+1,(some ⟨b,0,none⟩,cn,cn)⟩,cb,vb):SDsk×Nat×Nat) ⟨rfl,rfl⟩ rfl (am _) bu
theorem uJ {d:SDsk} {I:DI} {s:Nat} {a:Option Addr} {n c:Nat} {l:List UInt8} (hI:I.Ok) (hs:s<I.size) (hch:d.changes≤1099511627776) (hvl:(I.vs.getD s []).length≤1099511627776) (hll:l.length≤256):Zp Tryz.prog 24 [vA (aJ d),vI s, .slice a n c] [] [Dm d I,Sl cB a n c l] (SDsk×Nat×Nat×Sv) (fun x=>x.1.size=d.size∧x.1.changes=d.changes+1) (fun x=> .tuple #[vA (aJ x.1),vI 0]) (fun _=> []) (fun x=> [Dm x.1 (I.put s x.2.1 ⟨x.2.2.1,x.2.2.2,true,l⟩)]):=by
 refine ak fun G=> ?_
 have hb:l.length≤65536:=by omega
 refine aS 1 ?_
 intro hn hc hm ha
 (repeat' ((try refine aw ?_);(conv=>arg 4;whnf);first | refine az ?_ |(refine sN ?_;intro b)|(refine aA (oe hI hs) ?_;intro x hx;refine aH ?_)|((first | refine cw (Ey hb) ?_ | refine cw (zw (l:=l) hI hs hch hvl) ?_);intro x hx;refine bV ?_)| fail));(all_goals refine av ?_)
 rename_i y _
 exact aD ((x.1,x.2.1,x.2.2,y):SDsk×Nat×Nat×Sv) hx rfl (am _) bu
theorem Mz {d:SDsk} {I:DI} {s:Nat} (hI:I.Ok) (hs:s<I.size) (hch:d.changes≤1099511627776) (hvl:(I.vs.getD s []).length≤1099511627776):Zp Tryz.prog 25 [vA (aJ d),vI s] [] [Dm d I] (SDsk×Nat×Nat) (fun x=>x.1.size=d.size∧x.1.changes=d.changes+1) (fun x=> .tuple #[vA (aJ x.1),vI 0]) (fun _=> []) (fun x=> [Dm x.1 (I.put s x.2.1 ⟨x.2.2,(none,0,0),false, []⟩)]):=by
 refine ak fun G=> ?_
 (repeat' ((try refine aw ?_);(conv=>arg 4;whnf);first | refine az ?_ |(refine sN ?_;intro b)|(refine aA (oe hI hs) ?_;intro x hx;refine aH ?_)|(refine cw (zw (l:= []) hI hs hch hvl) ?_;intro x hx;refine bV ?_)| fail));(all_goals refine av ?_)
 exact aD x hx rfl (am _) bu
theorem Ma {d:SDsk} {I:DI} {s:Nat} (hI:I.Ok) (hs:s<I.size) (hvl:(I.vs.getD s []).length≤1099511627776):Zp Tryz.prog 26 [vA (aJ d),vI s] [] [Dm d I] Unit (fun _=>True) (fun _=> .tuple #[vI (I.vs.getD s []).length,vI 0]) (fun _=> []) (fun x=> []):=by
 refine ak fun G=> ?_
 refine aR (Vm (I.vs.getD s [])) (fun w _ h=>(h (Dm d I) (by simp)).2.2.2 _) ?_
 (repeat' ((try refine aw ?_);(conv=>arg 4;whnf);first | refine az ?_ |(refine sN ?_;intro b)|((first | refine aA (oe hI hs) ?_ | refine aA (Av hvl) ?_);intro x hx;refine aH ?_)| exact ax | fail));(all_goals refine av ?_)
theorem oW {d:SDsk} {I:DI} {s:Nat} {l:List UInt8} (hI:I.Ok) (hs:s<I.size) (hl:I.pv s=some l) (hb:l.length≤65536):Zp Tryz.prog 16 [vA (aJ d),vI s] [] [Dm d I] Sv (fun x=>Svp x l.length) (fun x=> .tuple #[.slice x.1 x.2.1 x.2.2,vI 0]) (fun _=> []) (fun x=> [Sl cB x.1 x.2.1 x.2.2 l]):=by
 refine ak fun G=> ?_
 refine aR (Vm (I.vs.getD s [])) (fun w _ h=>(h (Dm d I) (by simp)).2.2.2 _) ?_
 (repeat' ((try refine aw ?_);(conv=>arg 4;whnf);first | refine az ?_ |(refine sN ?_;intro b)|(refine aA (oe hI hs) ?_;intro x hx;refine aH ?_)|(refine cw (Bt hl hb) ?_;intro x hx;refine bV ?_)| fail));(all_goals refine av ?_)
 exact aD x hx rfl (am _) bu
theorem LM {d:SDsk} {I:DI} {s:Nat} (hI:I.Ok) (hs:s<I.size) (hl:I.pv s=none):Zp Tryz.prog 16 [vA (aJ d),vI s] [] [Dm d I] Unit (fun _=>True) (fun x=> .tuple #[.slice none 0 0,vI 11]) (fun _=> []) (fun x=> []):=by
 refine ak fun G=> ?_
 refine aR (Vm (I.vs.getD s [])) (fun w _ h=>(h (Dm d I) (by simp)).2.2.2 _) ?_
 (repeat' ((try refine aw ?_);(conv=>arg 4;whnf);first | refine az ?_ |(refine sN ?_;intro b)|((first | refine aA (oe hI hs) ?_ | refine aA (F1 hl) ?_);intro x hx;refine aH ?_)| exact ax | fail));(all_goals refine av ?_)
theorem HM {d:SDsk}:Zp Tryz.prog 41 [vA (aJ d)] [] [] Unit (fun _=>True) (fun _=>vI d.size) (fun _=> []) (fun x=> []):=by
 refine ak fun G=> ?_
 (repeat' ((try refine aw ?_);(conv=>arg 4;whnf);first | refine az ?_ |(refine sN ?_;intro b)| exact ax | fail));(all_goals refine av ?_)
end Go.Proofs.YtbobhnldhpjdlaaGreatDoor
namespace Go.Proofs.YtbobhnldhpjdlaaGreatDoor
open Go Go.RowKit Go.Cs Go.Cz
set_option maxRecDepth 100000
set_option maxHeartbeats 2000000
theorem IU {a a2:Option Addr} {n c n2 c2:Nat} {l m:List UInt8} {q:Value×Value} (h:l.length≤64) (hb:m.length≤4096):Zp Tryz.prog 77 [.slice a n c, .slice a2 n2 c2] [] [Sl cB a n c l,Sl cB a2 n2 c2 m,Gs q] Unit (fun _=>True) (fun _=>vA (ay (ej l m))) (fun _=> []) (fun _=> []):=by
 refine ak fun G=> ?_
 have hb1: [m].flatten.length≤576460752303423488:=by simp;omega
 have e:ej l m=ej l [m].flatten:=by simp
 rw [e]
 (repeat' ((try refine aw ?_);(conv=>arg 4;whnf);first | refine az ?_ |(refine sN ?_;intro b)|(refine aA (qj (q:=q) (ls:= [m]) h hb1) ?_;intro x hx;refine aH ?_)| exact ax | fail));(all_goals refine av ?_)
theorem Ek {a a2:Option Addr} {n c n2 c2 k:Nat} {l m:List UInt8} {q:Value×Value} (h:l.length≤64) (hb:m.length≤4096) (h0:0<k) (h1:k≤32):Zp Tryz.prog 78 [.slice a n c, .slice a2 n2 c2,vI k] [] [Sl cB a n c l,Sl cB a2 n2 c2 m,Gs q] Nat (fun _=>True) (fun b=> .tuple #[.slice (some ⟨b,0,none⟩) k k,vI 0]) (fun b=> [iS cB b 0 k k ((ej l (m++ [1])).l.take k)]) (fun _=> []):=by
 refine ak fun G=> ?_
 have hb1: [[],m, [1]].flatten.length≤576460752303423488:=by simp;omega
 have e:ej l (m++ [1])=ej l [[],m, [1]].flatten:=by simp
 rw [e]
 (repeat' ((try refine aw ?_);(conv=>arg 4;whnf);first | refine az ?_ |(refine sN ?_;intro b)| refine ae ?_ | refine ai ?_ |(refine aj rfl ?_;intro D lL)| fail));(all_goals refine av ?_)
 refine gJ 1 (bN ?_)
 have hl: [([]:List UInt8),(ej l [[],m, [1]].flatten).l].flatten.length=32:=by simp
 (repeat' ((try refine aw ?_);(conv=>arg 4;whnf);first | refine az ?_ |(refine sN ?_;intro b)|((first | refine aA (qj (q:=q) (ls:= [[],m, [1]]) h hb1) ?_ | refine aA (i7 (ls:= [[],(ej l [[],m, [1]].flatten).l]) (by omega)) ?_);intro x hx;refine aH ?_)| refine ae ?_ | refine ai ?_ |(refine aj rfl ?_;intro D lL)| fail));(all_goals refine av ?_)
 refine aD x True.intro rfl (L4 (e:=5) (fun w h3=> ?_) (am _))
 rw [show [([]:List UInt8),(ej l [[],m, [1]].flatten).l].flatten=(ej l [[],m, [1]].flatten).l by simp,bL] at h3
 refine rk ?_ (by simp;omega) (Nat.le_refl _) (by omega)
 have h4:(ej l [[],m, [1]].flatten).l.flatMap cB=(((ej l [[],m, [1]].flatten).l.take k).flatMap cB)++(((ej l [[],m, [1]].flatten).l.drop k).flatMap cB):=by rw [←List.flatMap_append,List.take_append_drop]
 rw [h4] at h3
 exact At.sub h3 0 _ (by simp)
theorem Bw {m:Dig} {q:Value×Value}:Zp Tryz.prog 13 [vA (ay m)] [] [Gs q] Unit (fun _=>True) (fun _=>vA (bC (nv m))) (fun _=> []) (fun _=> []):=by
 refine ak fun G=> ?_
 (repeat' ((try refine aw ?_);(conv=>arg 4;whnf);first | refine az ?_ |(refine sN ?_;intro b)|((first | refine aA (IU (q:=q) (l:= [99,97,105,115,115,111,110]) (m:=m.l) (by decide) (by simp)) ?_ | refine aA (Ek (q:=q) (l:=(De m).l) (m:= [101,110,99,114,121,112,116]) (k:=16) (by simp) (by decide) (by decide) (by decide)) ?_ | refine aA (Ek (q:=q) (l:=(De m).l) (m:= [109,97,99]) (k:=32) (by simp) (by decide) (by decide) (by decide)) ?_);intro x hx;refine aH ?_)| exact ax | fail));(all_goals refine av ?_)
 rename_i _ kb _ _ _ _ _ _ _
 refine fL kb (bE (List.replicate 48 0)) rfl ?_
 (repeat' ((try refine aw ?_);(conv=>arg 4;whnf);first | refine az ?_ |(refine sN ?_;intro b)| exact ax | fail));(all_goals refine av ?_)
 trace_state
 all_goals split
end Go.Proofs.YtbobhnldhpjdlaaGreatDoor
