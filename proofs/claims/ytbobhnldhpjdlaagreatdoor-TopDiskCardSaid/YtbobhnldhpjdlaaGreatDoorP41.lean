/- Lemmas and walks: what each function does, by its own code. No condition beyond those of each statement. -/
import Derived.Test.YtbobhnldhpjdlaaGreatDoorP11
import Derived.Test.YtbobhnldhpjdlaaGreatDoorP13
import Derived.Test.YtbobhnldhpjdlaaGreatDoorP19
import Derived.Test.YtbobhnldhpjdlaaGreatDoorP40
set_option linter.all false
set_option linter.unusedVariables false
namespace Go.Proofs.YtbobhnldhpjdlaaGreatDoor
open Go Go.RowKit Go.Cs Go.Cz
set_option maxRecDepth 100000
set_option maxHeartbeats 1000000
theorem Iw {y:Non}:Zp Tryz.prog 186 [vA (br y),vI 0,vI 32] [] [] Unit (fun _=>True) (fun _=> .tuple #[vA (b6 ⟨y,0,1⟩),vI 0]) (fun _=> []) (fun _=> []):=by
 refine ak fun G=> ?_
 (repeat' ((try refine aw ?_);(conv=>arg 4;whnf);first | refine az ?_ |(refine sN ?_;intro b)|(refine aA (EK (o:=0) (n:=32) (by decide)) ?_;intro x hx;refine aH ?_)| exact ax | fail));(all_goals refine av ?_)
theorem EE {u:SUse} (h:u.Range.First≤u.Range.Last):Zp Tryz.prog 169 [vA (bP u)] [] [] Unit (fun _=>True) (fun _=> .bool true) (fun _=> []) (fun _=> []):=by
 refine ak fun G=> ?_
 (repeat' ((try refine aw ?_);(conv=>arg 4;whnf);first | refine az ?_ |(refine sN ?_;intro b)| exact ax | fail));(all_goals refine av ?_)
theorem BJ {a:Option Addr} {n c:Nat} {us:List SUse} (h:us.length≤65536) (hv:∀i,i<us.length→(us.getD i default).Range.First≤(us.getD i default).Range.Last):Zp Tryz.prog 55 [vA (b0 ⟨(a,n,c)⟩)] [] [Sl bP a n c us] Unit (fun _=>True) (fun _=>vI 0) (fun _=> []) (fun _=> []):=by
 refine ak fun G=> ?_
 refine aS 0 ?_
 intro hn hc hm ha
 subst hn
 (repeat' ((try refine aw ?_);(conv=>arg 4;whnf);first | refine az ?_ |(refine sN ?_;intro b)| exact ax | fail));(all_goals refine av ?_)
 refine dh [] (X:=Nat) (fun i=> [(2,vI 0),(12,vI i)]) (fun i=>i≤us.length) (fun i=> []) (fun i=>us.length-i) 0 (Nat.zero_le _) rfl (ar _) ?_
 intro i hi
 (conv=>arg 2;simp only [List.cons_append,List.nil_append])
 by_cases h1:i<us.length
 ·obtain ⟨sb,o,rfl⟩:=ha (by omega) (by decide)
  (repeat' ((try refine aw ?_);(conv=>arg 4;whnf);first | refine az ?_ |(refine sN ?_;intro b)|(refine aA (EE (hv i h1)) ?_;intro x hx;refine aH ?_)| exact ax | fail));(all_goals refine av ?_)
  exact a5 (i+1) rfl h1 cD (by omega)
 ·(repeat' ((try refine aw ?_);(conv=>arg 4;whnf);first | refine az ?_ |(refine sN ?_;intro b)| exact ax | fail));(all_goals refine av ?_)
theorem Jk {a:Option Addr} {n c:Nat} {us:List SUse} {u:SUse} (h:us.length<65536) (hv:∀i,i<us.length→(us.getD i default).Range.First≤(us.getD i default).Range.Last) (hu:u.Range.First≤u.Range.Last):Zp Tryz.prog 187 [vA (b0 ⟨(a,n,c)⟩),vA (bP u)] [] [Sl bP a n c us] Nat (fun x=>True) (fun x=> .tuple #[vA (b0 ⟨(some ⟨x,0,none⟩,us.length+1,us.length+1)⟩),vI 0]) (fun _=> []) (fun x=> [Sl bP (some ⟨x,0,none⟩) (us.length+1) (us.length+1) (us++ [u])]):=by
 refine ak fun G=> ?_
 refine aS 0 ?_
 intro hn hc hm ha
 subst hn
 (repeat' ((try refine aw ?_);(conv=>arg 4;whnf);first | refine az ?_ |(refine sN ?_;intro b)|((first | refine aA (BJ (Nat.le_of_lt h) hv) ?_ | refine aA (EE hu) ?_);intro x hx;refine aH ?_)| refine ae ?_ | fail));(all_goals refine av ?_)
 refine gJ 3 (bN ?_)
 (repeat' ((try refine aw ?_);(conv=>arg 4;whnf);first | refine az ?_ |(refine sN ?_;intro b)| refine ae ?_ | fail));(all_goals refine av ?_)
 refine bN ?_
 (repeat' ((try refine aw ?_);(conv=>arg 4;whnf);first | refine az ?_ |(refine sN ?_;intro b)| refine ae ?_ | fail));(all_goals refine av ?_)
 refine bN ?_
 (repeat' ((try refine aw ?_);(conv=>arg 4;whnf);first | refine az ?_ |(refine sN ?_;intro b)| refine ae ?_ | fail));(all_goals refine av ?_)
 refine Hx ?_
 intro g c' hc1 hc2
 (repeat' ((try refine aw ?_);(conv=>arg 4;whnf);first | refine az ?_ |(refine sN ?_;intro b)| refine ae ?_ | fail));(all_goals refine av ?_)
 refine gJ 3 (bN ?_)
 rcases Nat.eq_zero_or_pos us.length with h0 | h0
 ·obtain rfl:us= []:=List.length_eq_zero_iff.1 h0
  have hc3:1≤c':=by simp at hc1;omega
  have hs1:(spl (List.replicate c' SUse.zero) 0 [u]).length=c':=by rw [k8 _ _ _ (by simp;omega)];simp
  (repeat' ((try refine aw ?_);(conv=>arg 4;whnf);first | refine az ?_ |(refine sN ?_;intro b)| refine ae ?_ | fail));(all_goals refine av ?_)
  refine bN ?_
  (repeat' ((try refine aw ?_);(conv=>arg 4;whnf);first | refine az ?_ |(refine sN ?_;intro b)| refine ae ?_ | fail));(all_goals refine av ?_)
  refine bN ?_
  (repeat' ((try refine aw ?_);(conv=>arg 4;whnf);first | refine az ?_ |(refine sN ?_;intro b)| refine ae ?_ | fail));(all_goals refine av ?_)
  refine eK g c' c' ?_
  refine Eu 0 (([]:List SUse).length+1) (([]:List SUse).length+1) (([]:List SUse)++ [u]) ?_ (he:=by simp [spl])
  exact aD g True.intro rfl (am _) bu
 ·obtain ⟨sb,o,rfl⟩:=ha h0 (by decide)
  have hsl:(spl (List.replicate c' SUse.zero) 0 us).length=c':=by rw [k8 _ _ _ (by simp;omega)];simp
  have hs2:(spl (spl (List.replicate c' SUse.zero) 0 us) (0+us.length) [u]).length=c':=by rw [k8 _ _ _ (by rw [hsl];simp;omega),hsl]
  (repeat' ((try refine aw ?_);(conv=>arg 4;whnf);first | refine az ?_ |(refine sN ?_;intro b)| refine ae ?_ | fail));(all_goals refine av ?_)
  refine bN ?_
  (repeat' ((try refine aw ?_);(conv=>arg 4;whnf);first | refine az ?_ |(refine sN ?_;intro b)| refine ae ?_ | fail));(all_goals refine av ?_)
  refine bN ?_
  (repeat' ((try refine aw ?_);(conv=>arg 4;whnf);first | refine az ?_ |(refine sN ?_;intro b)| refine ae ?_ | fail));(all_goals refine av ?_)
  refine eK g c' c' ?_
  refine Eu 0 (us.length+1) (us.length+1) (us++ [u]) ?_ (he:=by simp [spl,z6])
  exact aD g True.intro (by simp only [Nat.zero_add];rfl) (am _) bu
end Go.Proofs.YtbobhnldhpjdlaaGreatDoor
namespace Go.Proofs.YtbobhnldhpjdlaaGreatDoor
open Go Go.RowKit Go.Cs Go.Cz
set_option maxRecDepth 100000
set_option maxHeartbeats 4000000
end Go.Proofs.YtbobhnldhpjdlaaGreatDoor
