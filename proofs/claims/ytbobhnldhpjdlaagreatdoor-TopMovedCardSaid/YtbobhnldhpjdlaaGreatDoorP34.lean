/- Lemmas and walks: what each function does, by its own code. No condition beyond those of each statement. -/
import Derived.Test.YtbobhnldhpjdlaaGreatDoorP14
import Derived.Test.YtbobhnldhpjdlaaGreatDoorP18
set_option linter.all false
set_option linter.unusedVariables false
namespace Go.Proofs.YtbobhnldhpjdlaaGreatDoor
open Go Go.RowKit Go.Cs Go.Cz
set_option maxRecDepth 100000
set_option maxHeartbeats 1000000
theorem Jj {y:Non}:Zp Tryz.prog 186 [vA (cz y),vI 0,vI 32] [] [] Unit (fun _=>True) (fun _=> .tuple #[vA (c8 ⟨y,0,1⟩),vI 0]) (fun _=> []) (fun _=> []):=by
 refine an fun G=> ?_
 (repeat' ((try refine au ?_);(conv=>arg 4;whnf);first | refine ax ?_ |(refine sN ?_;intro b)|(refine sC ?_ ?_<;>intro h)|(refine ar ?_ ?_<;>intro h<;>try contradiction)|(refine aa ?_;intro g c')|(refine ay (D8 (o:=0) (n:=32) (by decide)) ?_;intro x hx;refine aN ?_)| refine ae ?_ | refine ai ?_ | exact aw |(refine ak rfl ?_;intro D lL)| refine ah ?_ ?_ | refine aj ?_ ?_ ?_ | fail));(all_goals refine av ?_)
theorem DY {u:SUse} (h:u.Range.First≤u.Range.Last):Zp Tryz.prog 169 [vA (cY u)] [] [] Unit (fun _=>True) (fun _=> .bool true) (fun _=> []) (fun _=> []):=by
 refine an fun G=> ?_
 (repeat' ((try refine au ?_);(conv=>arg 4;whnf);first | refine ax ?_ |(refine sN ?_;intro b)|(refine sC ?_ ?_<;>intro h)|(refine ar ?_ ?_<;>intro h<;>try contradiction)|(refine aa ?_;intro g c')| refine ae ?_ | refine ai ?_ | exact aw |(refine ak rfl ?_;intro D lL)| refine ah ?_ ?_ | refine aj ?_ ?_ ?_ | fail));(all_goals refine av ?_)
theorem Jt {a:Option Addr} {n c:Nat} {us:List SUse} (h:us.length≤65536) (hv:∀i,i<us.length→(us.getD i default).Range.First≤(us.getD i default).Range.Last):Zp Tryz.prog 55 [vA (cX ⟨(a,n,c)⟩)] [] [Sl cY a n c us] Unit (fun _=>True) (fun _=>vI 0) (fun _=> []) (fun _=> []):=by
 refine an fun G=> ?_
 refine bc 0 ?_
 intro hn hc hm ha
 subst hn
 (repeat' ((try refine au ?_);(conv=>arg 4;whnf);first | refine ax ?_ |(refine sN ?_;intro b)|(refine sC ?_ ?_<;>intro h)|(refine ar ?_ ?_<;>intro h<;>try contradiction)|(refine aa ?_;intro g c')| refine ae ?_ | refine ai ?_ | exact aw |(refine ak rfl ?_;intro D lL)| refine ah ?_ ?_ | refine aj ?_ ?_ ?_ | fail));(all_goals refine av ?_)
 refine eA [] (X:=Nat) (fun i=> [(2,vI 0),(12,vI i)]) (fun i=>i≤us.length) (fun i=> []) (fun i=>us.length-i) 0 (Nat.zero_le _) rfl (am _) ?_
 intro i hi
 (conv=>arg 2;simp only [List.cons_append,List.nil_append])
 by_cases h1:i<us.length
 ·obtain ⟨sb,o,rfl⟩:=ha (by omega) (by decide)
  (repeat' ((try refine au ?_);(conv=>arg 4;whnf);first | refine ax ?_ |(refine sN ?_;intro b)|(refine sC ?_ ?_<;>intro h)|(refine ar ?_ ?_<;>intro h<;>try contradiction)|(refine aa ?_;intro g c')|(refine ay (DY (hv i h1)) ?_;intro x hx;refine aN ?_)| refine ae ?_ | refine ai ?_ | exact aw |(refine ak rfl ?_;intro D lL)| refine ah ?_ ?_ | refine aj ?_ ?_ ?_ | fail));(all_goals refine av ?_)
  exact bj (i+1) rfl h1 eG (by omega)
 ·(repeat' ((try refine au ?_);(conv=>arg 4;whnf);first | refine ax ?_ |(refine sN ?_;intro b)|(refine sC ?_ ?_<;>intro h)|(refine ar ?_ ?_<;>intro h<;>try contradiction)|(refine aa ?_;intro g c')| refine ae ?_ | refine ai ?_ | exact aw |(refine ak rfl ?_;intro D lL)| refine ah ?_ ?_ | refine aj ?_ ?_ ?_ | fail));(all_goals refine av ?_)
theorem Ii {a:Option Addr} {n c:Nat} {us:List SUse} {u:SUse} (h:us.length<65536) (hv:∀i,i<us.length→(us.getD i default).Range.First≤(us.getD i default).Range.Last) (hu:u.Range.First≤u.Range.Last):Zp Tryz.prog 187 [vA (cX ⟨(a,n,c)⟩),vA (cY u)] [] [Sl cY a n c us] Nat (fun x=>True) (fun x=> .tuple #[vA (cX ⟨(some ⟨x,0,none⟩,us.length+1,us.length+1)⟩),vI 0]) (fun _=> []) (fun x=> [Sl cY (some ⟨x,0,none⟩) (us.length+1) (us.length+1) (us++ [u])]):=by
 refine an fun G=> ?_
 refine bc 0 ?_
 intro hn hc hm ha
 subst hn
 (repeat' ((try refine au ?_);(conv=>arg 4;whnf);first | refine ax ?_ |(refine sN ?_;intro b)|(refine sC ?_ ?_<;>intro h)|(refine ar ?_ ?_<;>intro h<;>try contradiction)|(refine aa ?_;intro g c')|((first | refine ay (Jt (Nat.le_of_lt h) hv) ?_ | refine ay (DY hu) ?_);intro x hx;refine aN ?_)| refine ae ?_ | refine ai ?_ | exact aw |(refine ak rfl ?_;intro D lL)| refine ah ?_ ?_ | refine aj ?_ ?_ ?_ | fail));(all_goals refine av ?_)
 refine ji 3 (cM ?_)
 (repeat' ((try refine au ?_);(conv=>arg 4;whnf);first | refine ax ?_ |(refine sN ?_;intro b)|(refine sC ?_ ?_<;>intro h)|(refine ar ?_ ?_<;>intro h<;>try contradiction)|(refine aa ?_;intro g c')| refine ae ?_ | refine ai ?_ | exact aw |(refine ak rfl ?_;intro D lL)| refine ah ?_ ?_ | refine aj ?_ ?_ ?_ | fail));(all_goals refine av ?_)
 refine cM ?_
 (repeat' ((try refine au ?_);(conv=>arg 4;whnf);first | refine ax ?_ |(refine sN ?_;intro b)|(refine sC ?_ ?_<;>intro h)|(refine ar ?_ ?_<;>intro h<;>try contradiction)|(refine aa ?_;intro g c')| refine ae ?_ | refine ai ?_ | exact aw |(refine ak rfl ?_;intro D lL)| refine ah ?_ ?_ | refine aj ?_ ?_ ?_ | fail));(all_goals refine av ?_)
 refine cM ?_
 (repeat' ((try refine au ?_);(conv=>arg 4;whnf);first | refine ax ?_ |(refine sN ?_;intro b)|(refine sC ?_ ?_<;>intro h)|(refine ar ?_ ?_<;>intro h<;>try contradiction)|(refine aa ?_;intro g c')| refine ae ?_ | refine ai ?_ | exact aw |(refine ak rfl ?_;intro D lL)| refine ah ?_ ?_ | refine aj ?_ ?_ ?_ | fail));(all_goals refine av ?_)
 refine IS ?_
 intro g c' hc1 hc2
 (repeat' ((try refine au ?_);(conv=>arg 4;whnf);first | refine ax ?_ |(refine sN ?_;intro b)|(refine sC ?_ ?_<;>intro h)|(refine ar ?_ ?_<;>intro h<;>try contradiction)|(refine aa ?_;intro g c')| refine ae ?_ | refine ai ?_ | exact aw |(refine ak rfl ?_;intro D lL)| refine ah ?_ ?_ | refine aj ?_ ?_ ?_ | fail));(all_goals refine av ?_)
 refine ji 3 (cM ?_)
 rcases Nat.eq_zero_or_pos us.length with h0 | h0
 ·obtain rfl:us= []:=List.length_eq_zero_iff.1 h0
  have hc3:1≤c':=by simp at hc1;omega
  have hs1:(spl (List.replicate c' SUse.zero) 0 [u]).length=c':=by rw [lG _ _ _ (by simp;omega)];simp
  (repeat' ((try refine au ?_);(conv=>arg 4;whnf);first | refine ax ?_ |(refine sN ?_;intro b)|(refine sC ?_ ?_<;>intro h)|(refine ar ?_ ?_<;>intro h<;>try contradiction)|(refine aa ?_;intro g c')| refine ae ?_ | refine ai ?_ | exact aw |(refine ak rfl ?_;intro D lL)| refine ah ?_ ?_ | refine aj ?_ ?_ ?_ | fail));(all_goals refine av ?_)
  refine cM ?_
  (repeat' ((try refine au ?_);(conv=>arg 4;whnf);first | refine ax ?_ |(refine sN ?_;intro b)|(refine sC ?_ ?_<;>intro h)|(refine ar ?_ ?_<;>intro h<;>try contradiction)|(refine aa ?_;intro g c')| refine ae ?_ | refine ai ?_ | exact aw |(refine ak rfl ?_;intro D lL)| refine ah ?_ ?_ | refine aj ?_ ?_ ?_ | fail));(all_goals refine av ?_)
  refine cM ?_
  (repeat' ((try refine au ?_);(conv=>arg 4;whnf);first | refine ax ?_ |(refine sN ?_;intro b)|(refine sC ?_ ?_<;>intro h)|(refine ar ?_ ?_<;>intro h<;>try contradiction)|(refine aa ?_;intro g c')| refine ae ?_ | refine ai ?_ | exact aw |(refine ak rfl ?_;intro D lL)| refine ah ?_ ?_ | refine aj ?_ ?_ ?_ | fail));(all_goals refine av ?_)
  refine gh g c' c' ?_
  refine EG 0 (([]:List SUse).length+1) (([]:List SUse).length+1) (([]:List SUse)++ [u]) ?_ (he:=by simp [spl])
  exact aG g True.intro rfl (af _) cR
 ·obtain ⟨sb,o,rfl⟩:=ha h0 (by decide)
  have hsl:(spl (List.replicate c' SUse.zero) 0 us).length=c':=by rw [lG _ _ _ (by simp;omega)];simp
  have hs2:(spl (spl (List.replicate c' SUse.zero) 0 us) (0+us.length) [u]).length=c':=by rw [lG _ _ _ (by rw [hsl];simp;omega),hsl]
  (repeat' ((try refine au ?_);(conv=>arg 4;whnf);first | refine ax ?_ |(refine sN ?_;intro b)|(refine sC ?_ ?_<;>intro h)|(refine ar ?_ ?_<;>intro h<;>try contradiction)|(refine aa ?_;intro g c')| refine ae ?_ | refine ai ?_ | exact aw |(refine ak rfl ?_;intro D lL)| refine ah ?_ ?_ | refine aj ?_ ?_ ?_ | fail));(all_goals refine av ?_)
  refine cM ?_
  (repeat' ((try refine au ?_);(conv=>arg 4;whnf);first | refine ax ?_ |(refine sN ?_;intro b)|(refine sC ?_ ?_<;>intro h)|(refine ar ?_ ?_<;>intro h<;>try contradiction)|(refine aa ?_;intro g c')| refine ae ?_ | refine ai ?_ | exact aw |(refine ak rfl ?_;intro D lL)| refine ah ?_ ?_ | refine aj ?_ ?_ ?_ | fail));(all_goals refine av ?_)
  refine cM ?_
  (repeat' ((try refine au ?_);(conv=>arg 4;whnf);first | refine ax ?_ |(refine sN ?_;intro b)|(refine sC ?_ ?_<;>intro h)|(refine ar ?_ ?_<;>intro h<;>try contradiction)|(refine aa ?_;intro g c')| refine ae ?_ | refine ai ?_ | exact aw |(refine ak rfl ?_;intro D lL)| refine ah ?_ ?_ | refine aj ?_ ?_ ?_ | fail));(all_goals refine av ?_)
  refine gh g c' c' ?_
  refine EG 0 (us.length+1) (us.length+1) (us++ [u]) ?_ (he:=by simp [spl,yF])
  exact aG g True.intro (by simp only [Nat.zero_add];rfl) (af _) cR
end Go.Proofs.YtbobhnldhpjdlaaGreatDoor
